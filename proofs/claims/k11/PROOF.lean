import PyProof.Rows.All
import Wide.All
import OpenK.AllK
import Wide.FinOn
import HandS.ForMost
import HandS.Exc
import HandS.Defaults
import HandS.HeadHook1
import HandS.HeadHook2
import HandS.Lambda
import HandS.HeadHook4
import KE.KDictSum
import HandS.IsInst
import HandS.Wide
import HandS.TupAny
import HandS.WordsExc
import HandS.Style
import KE.KStateDown
import HandS.Ends
import HandS.EndBits
import HandS.HeadEnd
import HandS.Head0
import HandS.Head1
import HandS.Head2
import HandS.Property
import KE.KExcSuper
import HandS.ExcInit
import HandS.ExcOwn
import KE.GoesMore
import HandS.HeadHook3
import HandS.SetKeys
import HandS.Strs
import HandS.Zip
import HandS.SetFor
import HandS.SortInts
import KE.SortData
import HandS.SetBool
import HandS.ExcValue
import KE.KExcIs
import HandS.ExcField
import HandS.ExcIs
import HandS.EndTab
import HandS.NoneIn
import HandS.OwnEq
import HandS.MapJoin
import HandS.FStr
import HandS.RaiseMore
import HandS.Deep
import HandS.More
import HandS.Conv
import HandS.Star
import KE.KSortTupAny
import HandS.TupSets
import KE.LtData
import KE.SortKeyHeap
import HandS.SortKw
import KE.KLam
import HandS.DictComp
import HandS.ListItems
import HandS.DictTup
import KE.KDictDisplayH
import HandS.TupMul
import HandS.Nested
import HandS.IterVal
import KE.KOwnIter
import PySem.Challenge.RW_rowsmeet_k11_errors_made
set_option Elab.async false
set_option linter.all false
set_option autoImplicit false
set_option maxRecDepth 100000
set_option maxHeartbeats 4000000
namespace RM
open PySem PySem.Spec PyProof.Rows L2

inductive D where
  | non | bl (b : Bool) | int (i : Int) | str (x : Str)
  | tup (xs : List D) | lst (xs : List D)
  | ins (c : Str) (ns : List Str) (fs : List D)
  | mref (i : Nat)
  | dic (ks : List Key) (vs : List D)
  | scr (ns : List Int)
  | xcp (c : Str) (ns : List Str) (fs : List D)
  | dct (ks : List (List Key)) (vs : List D)

structure Tape where
  large : List Int
  cells : List Int
  rest : Int
  turn : Int

inductive MO where
  | tape (t : Tape)
  | inst (c : Str) (ns : List Str) (fs : List D)
  | tab (n q : Str)
abbrev Sto := List MO
structure Exc where
  cls : Str
  ns : List Str
  fs : List D
inductive Res (a : Type) where
  | ok (x : a) (s : Sto)
  | exc (e : Exc) (s : Sto)
  | stuck
def M (a : Type) := Sto → Res a
@[reducible] def M.pure {a : Type} (x : a) : M a := fun s => .ok x s
def Res.andThen {a b : Type} (r : Res a) (f : a → M b) : Res b := match r with
  | .ok x s => f x s
  | .exc e s => .exc e s
  | .stuck => .stuck
def M.bind {a b : Type} (m : M a) (f : a → M b) : M b := fun s => (m s).andThen f
instance : Monad M where
  pure := M.pure
  bind := M.bind
def stuck {a : Type} : M a := fun _ => .stuck
def raise {a : Type} (e : Exc) : M a := fun s => .exc e s
@[simp] theorem andThen_ok {a b : Type} (x : a) (s : Sto) (f : a → M b) : (Res.ok x s).andThen f = f x s := rfl
@[simp] theorem andThen_exc {a b : Type} (e : Exc) (s : Sto) (f : a → M b) : (Res.exc e s : Res a).andThen f = .exc e s := rfl
@[simp] theorem andThen_stuck {a b : Type} (f : a → M b) : (Res.stuck : Res a).andThen f = .stuck := rfl
instance : LawfulMonad M := LawfulMonad.mk'
  (id_map := fun x => by funext s; show (x s).andThen _ = x s; cases x s <;> rfl)
  (pure_bind := fun _ _ => rfl)
  (bind_assoc := fun x f g => by funext s; show ((x s).andThen f).andThen g = (x s).andThen _; cases x s <;> rfl)

class PgW where
  prog : Program
  w : World
abbrev XD := List (List Key × Addr × Value)
def dtxAt (P : Program) (w : World) (a : Addr) (xs : XD) (h : Heap) : Prop := (a == sysModules) = false ∧ xs.length ≤ sizeLine ∧ ∃ o es ep, h.get? a = some o ∧ o.ExactDict ∧ o.data = .dict es ep ∧ es.toList = xs.map (entryOfKey (tupleKind (mixKind P w))) ∧ (xs.map (·.1)).Nodup
def DTx (P : Program) (w : World) (a : Addr) (xs : XD) : HO := .ext (dtxAt P w a xs)
def DOx (a : Addr) : HO := .ext fun h => ∃ o, h.get? a = some o ∧ o.ExactDict
def KeysX (K : PySem.W.Frag) (H : Hp) (xs : XD) : Prop := ∀ x ∈ xs, SqT K H x.2.1 (x.1.map kV)
def XcO (cls : Value) (d : Option Addr) (a : Addr) : HO := .ext fun h => ∃ (oe : Obj) (vs : Array Value), h.get? a = some oe ∧ Zc cls d oe ∧ oe.data = .fields vs
variable [PgW]
mutual
def Den (K : PySem.W.Frag) (p : List (List Addr)) (G : Hp) : D → V → Prop
  | .non, v => v = .non
  | .bl b, v => v = .bl b
  | .int i, v => v = .int i
  | .str x, v => v = .str x
  | .tup xs, v => ∃ a vs, v = .ref a ∧ SqT K G a vs ∧ DenL K p G xs vs
  | .lst xs, v => ∃ a vs, v = .ref a ∧ G a = some (.lst vs) ∧ DenL K p G xs vs
  | .ins c ns fs, v => ∃ a dx vs, v = .ref a ∧ G a = some (.ins (He.ga K c) dx (ns.zip vs)) ∧ vs.length = ns.length ∧ DenL K p G fs vs
  | .mref i, v => ∃ a r, p[i]? = some (a :: r) ∧ v = .ref a
  | .dic ks xs, v => ∃ a o vs, v = .ref a ∧ G a = some (.frz o (.dK (ks.zip vs))) ∧ vs.length = ks.length ∧ DenL K p G xs vs
  | .scr ns, v => ∃ a, v = .ref a ∧ SqL K G a (ns.map .int)
  | .xcp c ns fs, v => ∃ a dd vs, v = .ref a ∧ G a = some (XcO (.ref (He.ga K c)) dd a) ∧ ((ns = [] ∧ dd = none) ∨ ∃ d, dd = some d ∧ G d = some (.xd (ns.zip vs))) ∧ vs.length = ns.length ∧ DenL K p G fs vs
  | .dct ks xs, v => ∃ a o u, v = .ref a ∧ G a = some (.frz o u) ∧ ((ks = [] ∧ xs = [] ∧ u = DOx a) ∨ ∃ es vs, u = DTx PgW.prog PgW.w a es ∧ es.map (·.1) = ks ∧ KeysX K G es ∧ Vals vs (es.map (·.2.2)) ∧ DenL K p G xs vs)
def DenL (K : PySem.W.Frag) (p : List (List Addr)) (G : Hp) : List D → List V → Prop
  | [], vs => vs = []
  | d :: ds, vs => ∃ v r, vs = v :: r ∧ Den K p G d v ∧ DenL K p G ds r
end
theorem SqT.mono {K : PySem.W.Frag} {H H' : Hp} {a : Addr} {xs : List V} (e : Same H H') (h : SqT K H a xs) : SqT K H' a xs := by
  rcases h with (h | ⟨o, h⟩) | h
  · exact .inl (.inl (e _ _ h))
  · exact .inl (.inr ⟨o, e _ _ h⟩)
  · exact .inr h
theorem KeysX.mono {K : PySem.W.Frag} {H H' : Hp} {xs : XD} (e : Same H H') (h : KeysX K H xs) : KeysX K H' xs := fun x hx => SqT.mono e (h x hx)
section
variable {K : PySem.W.Frag} {p q : List (List Addr)} {G G' : Hp}
theorem idx_ext (hp : ∃ r, q = p ++ r) {i : Nat} {x : List Addr} (h : p[i]? = some x) : q[i]? = some x := by
  obtain ⟨r, rfl⟩ := hp
  rw [List.getElem?_append_left (List.getElem?_eq_some_iff.mp h).1]
  exact h
mutual
theorem Den.mono (hp : ∃ r, q = p ++ r) (e : Same G G') : ∀ {d : D} {v : V}, Den K p G d v → Den K q G' d v
  | .non, _, h => h
  | .bl _, _, h => h
  | .int _, _, h => h
  | .str _, _, h => h
  | .tup _, _, ⟨a, vs, h1, h2, h3⟩ => ⟨a, vs, h1, SqT.mono e h2, DenL.mono hp e h3⟩
  | .lst _, _, ⟨a, vs, h1, h2, h3⟩ => ⟨a, vs, h1, e _ _ h2, DenL.mono hp e h3⟩
  | .ins _ _ _, _, ⟨a, dx, vs, h1, h2, h4, h3⟩ => ⟨a, dx, vs, h1, e _ _ h2, h4, DenL.mono hp e h3⟩
  | .mref _, _, ⟨a, r, h1, h2⟩ => ⟨a, r, idx_ext hp h1, h2⟩
  | .dic _ _, _, ⟨a, o, vs, h1, h2, h4, h3⟩ => ⟨a, o, vs, h1, e _ _ h2, h4, DenL.mono hp e h3⟩
  | .scr _, _, ⟨a, h1, h2⟩ => ⟨a, h1, e.seq h2⟩
  | .xcp _ _ _, _, ⟨a, dd, vs, h1, h2, h3, h4, h5⟩ => ⟨a, dd, vs, h1, e _ _ h2, h3.imp id fun ⟨d, q1, q2⟩ => ⟨d, q1, e _ _ q2⟩, h4, DenL.mono hp e h5⟩
  | .dct _ _, _, ⟨a, o, u, h1, h2, h3⟩ => ⟨a, o, u, h1, e _ _ h2, h3.imp id fun ⟨es, vs, h4, h5, h6, h7, h8⟩ => ⟨es, vs, h4, h5, h6.mono e, h7, DenL.mono hp e h8⟩⟩
theorem DenL.mono (hp : ∃ r, q = p ++ r) (e : Same G G') : ∀ {ds : List D} {vs : List V}, DenL K p G ds vs → DenL K q G' ds vs
  | [], _, h => h
  | _ :: _, _, ⟨v, r, h1, h2, h3⟩ => ⟨v, r, h1, Den.mono hp e h2, DenL.mono hp e h3⟩
end
theorem DenL.length : ∀ {ds : List D} {vs : List V}, DenL K p G ds vs → vs.length = ds.length
  | [], _, h => by
    have e : _ = [] := h
    rw [e]; rfl
  | _ :: _, _, ⟨v, r, h1, _, h3⟩ => by
    rw [h1, List.length_cons, List.length_cons, DenL.length h3]
theorem DenL.get : ∀ {ds : List D} {vs : List V} {i : Nat} {d : D}, DenL K p G ds vs → ds[i]? = some d → ∃ v, vs[i]? = some v ∧ Den K p G d v
  | [], _, _, _, _, e => by simp at e
  | x :: _, _, 0, d, ⟨v, r, h1, h2, _⟩, e => by
    simp at e; subst e
    exact ⟨v, by rw [h1]; rfl, h2⟩
  | _ :: ds, _, i + 1, d, ⟨v, r, h1, _, h3⟩, e => by
    obtain ⟨u, a, b⟩ := DenL.get (i := i) h3 (by simpa using e)
    exact ⟨u, by rw [h1]; simpa using a, b⟩
theorem DenL.append : ∀ {ds es : List D} {vs us : List V}, DenL K p G ds vs → DenL K p G es us → DenL K p G (ds ++ es) (vs ++ us)
  | [], _, _, _, h, h' => by
    have e : _ = [] := h
    rw [e]; exact h'
  | _ :: _, _, _, _, ⟨v, r, h1, h2, h3⟩, h' => ⟨v, r ++ _, by rw [h1]; rfl, h2, DenL.append h3 h'⟩
theorem DenL.one {d : D} {v : V} (h : Den K p G d v) : DenL K p G [d] [v] := ⟨v, [], rfl, h, rfl⟩
theorem DenL.nil : DenL K p G [] [] := rfl
theorem DenL.cons {d : D} {v : V} {ds : List D} {vs : List V} (h : Den K p G d v) (r : DenL K p G ds vs) : DenL K p G (d :: ds) (v :: vs) := ⟨v, vs, rfl, h, r⟩
theorem DenL.take : ∀ {ds : List D} {vs : List V} (n : Nat), DenL K p G ds vs → DenL K p G (ds.take n) (vs.take n)
  | _, _, 0, _ => by simp; exact rfl
  | [], _, n + 1, h => by
    have e : _ = [] := h
    rw [e]; exact rfl
  | _ :: _, _, n + 1, ⟨v, r, h1, h2, h3⟩ => by
    rw [h1]; exact ⟨v, _, rfl, h2, DenL.take n h3⟩
theorem DenL.drop : ∀ {ds : List D} {vs : List V} (n : Nat), DenL K p G ds vs → DenL K p G (ds.drop n) (vs.drop n)
  | _, _, 0, h => by simpa using h
  | [], _, n + 1, h => by
    have e : _ = [] := h
    rw [e]; exact rfl
  | _ :: _, _, n + 1, ⟨v, r, h1, h2, h3⟩ => by
    rw [h1]; exact DenL.drop n h3
theorem DenL.set {e : D} {u : V} (h' : Den K p G e u) : ∀ {ds : List D} {vs : List V} (i : Nat), DenL K p G ds vs → DenL K p G (ds.set i e) (vs.set i u)
  | [], _, _, h => by
    have e : _ = [] := h
    rw [e]; exact rfl
  | _ :: _, _, 0, ⟨v, r, h1, h2, h3⟩ => by
    rw [h1]; exact ⟨u, r, rfl, h', h3⟩
  | _ :: _, _, i + 1, ⟨v, r, h1, h2, h3⟩ => by
    rw [h1]; exact ⟨v, _, rfl, h2, DenL.set h' i h3⟩
end

mutual
def noLst : D → Bool
  | .lst _ => false
  | .scr _ => false
  | .tup xs => noLstL xs
  | .ins _ _ fs => noLstL fs
  | .dic _ vs => noLstL vs
  | .xcp _ _ fs => noLstL fs
  | .dct _ vs => noLstL vs
  | _ => true
def noLstL : List D → Bool
  | [] => true
  | d :: ds => noLst d && noLstL ds
end
def MoAt (K : PySem.W.Frag) (p : List (List Addr)) (G H : Hp) : List Addr → MO → Prop
  | [a, l, c], .tape t => H a = some (.dK [(.inr "large", .ref l), (.inr "cells", .ref c), (.inr "rest", .int t.rest), (.inr "turn", .int t.turn)]) ∧ H l = some (.lst (t.large.map .int)) ∧ H c = some (.lst (t.cells.map .int))
  | [x], .inst c ns fs => noLstL fs = true ∧ ∃ dx vs, H x = some (.ins (He.ga K c) dx (ns.zip vs)) ∧ vs.length = ns.length ∧ DenL K p G fs vs
  | [x], .tab n q => x = (He.cT K (n, none)).2 ∧ ∃ ps, H x = some (.tbl ps) ∧ TriplesOk ps.toList ∧ ∀ (pos : Pos) (cv : Value), codeAmong pos ps.toList = some cv → ∃ c, cv = .ref c ∧ G c = some (LamX.CodeO c q)
  | _, _ => False
theorem MoAt.dom {K : PySem.W.Frag} {p : List (List Addr)} {G H : Hp} : ∀ {as : List Addr} {o : MO}, MoAt K p G H as o → ∀ a ∈ as, H a ≠ none
  | [a, l, c], .tape t, ⟨h1, h2, h3⟩, b, hb => by
    simp only [List.mem_cons, List.not_mem_nil, or_false] at hb
    rcases hb with rfl | rfl | rfl
    · rw [h1]; simp
    · rw [h2]; simp
    · rw [h3]; simp
  | [x], .inst c ns fs, ⟨_, dx, vs, h1, _⟩, b, hb => by
    simp only [List.mem_cons, List.not_mem_nil, or_false] at hb
    subst hb
    rw [h1]; simp
  | [x], .tab n q, ⟨_, ps, h1, _⟩, b, hb => by
    simp only [List.mem_cons, List.not_mem_nil, or_false] at hb
    subst hb
    rw [h1]; simp
theorem MoAt.mono {K : PySem.W.Frag} {p p' : List (List Addr)} {G G' H H' : Hp} (hp : ∃ r, p' = p ++ r) (e : Same G G') : ∀ {as : List Addr} {o : MO}, MoAt K p G H as o → (∀ a ∈ as, H' a = H a) → MoAt K p' G' H' as o
  | [a, l, c], .tape t, ⟨h1, h2, h3⟩, k => ⟨(k a (by simp)).trans h1, (k l (by simp)).trans h2, (k c (by simp)).trans h3⟩
  | [x], .inst c ns fs, ⟨nl, dx, vs, h1, h2, h3⟩, k => ⟨nl, dx, vs, (k x (by simp)).trans h1, h2, h3.mono hp e⟩
  | [x], .tab n q, ⟨h0, ps, h1, h2, h3⟩, k => ⟨h0, ps, (k x (by simp)).trans h1, h2, fun pos cv z => let ⟨c, e1, e2⟩ := h3 pos cv z; ⟨c, e1, e _ _ e2⟩⟩
theorem MoAt.ice {K : PySem.W.Frag} {p : List (List Addr)} {G G' H : Hp} (e : Same G G') {as : List Addr} {o : MO} (h : MoAt K p G H as o) : MoAt K p G' H as o := h.mono ⟨[], by simp⟩ e fun _ _ => rfl

structure Rel0 (K : PySem.W.Frag) (p : List (List Addr)) (S : Sto) (G H : Hp) : Prop where
  sub : Same G H
  len : p.length = S.length
  mo : ∀ (i : Nat) (as : List Addr) (o : MO), p[i]? = some as → S[i]? = some o → MoAt K p G H as o
  nd : p.flatten.Nodup
  gn : ∀ a ∈ p.flatten, G a = none
structure Ext (p : List (List Addr)) (G H : Hp) (p' : List (List Addr)) (G' H' : Hp) : Prop where
  g : Same G G'
  gn : ∀ a, G a = none → H a ≠ none → G' a = none
  h : ∀ a o, H a = some o → a ∉ p.flatten → H' a = some o
  d : ∀ a, H a ≠ none → H' a ≠ none
  p : ∃ r, p' = p ++ r ∧ ∀ a ∈ r.flatten, H a = none
theorem Ext.pp {p p' : List (List Addr)} {G H G' H' : Hp} (e : Ext p G H p' G' H') : ∃ r, p' = p ++ r := let ⟨r, h, _⟩ := e.p; ⟨r, h⟩
theorem Ext.refl (p : List (List Addr)) (G H : Hp) : Ext p G H p G H := ⟨Same.refl _, fun _ h _ => h, fun _ _ h _ => h, fun _ h => h, [], by simp, by simp⟩
theorem Ext.trans {p p1 p2 : List (List Addr)} {G H G1 H1 G2 H2 : Hp} (a : Ext p G H p1 G1 H1) (b : Ext p1 G1 H1 p2 G2 H2) : Ext p G H p2 G2 H2 := by
  obtain ⟨r, e1, f1⟩ := a.p
  obtain ⟨r2, e2, f2⟩ := b.p
  refine ⟨a.g.trans b.g, fun x h1 h2 => b.gn x (a.gn x h1 h2) (a.d x h2), fun x o h1 h2 => b.h x o (a.h x o h1 h2) ?_, fun x h => b.d x (a.d x h), r ++ r2, by rw [e2, e1, List.append_assoc], fun x hx => ?_⟩
  · rw [e1, List.flatten_append, List.mem_append]
    rintro (z | z)
    · exact h2 z
    · rw [f1 x z] at h1; cases h1
  · rw [List.flatten_append, List.mem_append] at hx
    rcases hx with z | z
    · exact f1 x z
    · cases q : H x with
      | none => rfl
      | some o => exact absurd (f2 x z) (a.d x (by rw [q]; simp))
theorem Rel0.dom {K : PySem.W.Frag} {p : List (List Addr)} {S : Sto} {G H : Hp} (r : Rel0 K p S G H) {a : Addr} (h : a ∈ p.flatten) : H a ≠ none := by
  obtain ⟨as, h1, h2⟩ := List.mem_flatten.mp h
  obtain ⟨i, hi, e⟩ := List.getElem_of_mem h1
  have e1 : p[i]? = some as := by rw [List.getElem?_eq_getElem hi, e]
  have hs : i < S.length := by rw [← r.len]; exact hi
  exact (r.mo i as _ e1 (List.getElem?_eq_getElem hs)).dom a h2
theorem Rel0.new {K : PySem.W.Frag} {p : List (List Addr)} {S : Sto} {G H : Hp} (r : Rel0 K p S G H) {a : Addr} (o : HO) (h : H a = none) : Rel0 K p S (upd G a o) (upd H a o) ∧ Ext p G H p (upd G a o) (upd H a o) := by
  have ga : G a = none := Same.free r.sub h
  have np : a ∉ p.flatten := fun z => r.dom z h
  refine ⟨⟨fun b u e => ?_, r.len, fun i as x e1 e2 => (r.mo i as x e1 e2).mono ⟨[], by simp⟩ (fun b u e => by rw [upd_ne (ne_of_none e ga)]; exact e) fun b hb => ?_, r.nd, fun b hb => ?_⟩, ⟨fun b u e => ?_, fun b h1 h2 => ?_, fun b u e _ => ?_, fun b e => ?_, [], by simp, by simp⟩⟩
  · by_cases q : b = a
    · subst q; rw [upd_same] at e ⊢; exact e
    · rw [upd_ne q] at e ⊢; exact r.sub b u e
  · have : b ≠ a := by
      rintro rfl
      exact np (List.mem_flatten.mpr ⟨as, List.mem_of_getElem? e1, hb⟩)
    exact upd_ne this
  · have : b ≠ a := by rintro rfl; exact np hb
    rw [upd_ne this]; exact r.gn b hb
  · rw [upd_ne (ne_of_none e ga)]; exact e
  · have : b ≠ a := by rintro rfl; exact h2 h
    rw [upd_ne this]; exact h1
  · rw [upd_ne (ne_of_none e h)]; exact e
  · by_cases q : b = a
    · subst q; rw [upd_same]; simp
    · rw [upd_ne q]; exact e
theorem Rel0.own {K : PySem.W.Frag} {p : List (List Addr)} {S : Sto} {G H : Hp} (r : Rel0 K p S G H) {a : Addr} (o : HO) (ha : a ∉ p.flatten) (hg : G a = none) : Rel0 K p S G (upd H a o) := by
  refine ⟨fun b u e => ?_, r.len, fun i as x e1 e2 => (r.mo i as x e1 e2).mono ⟨[], by simp⟩ (Same.refl _) fun b hb => ?_, r.nd, r.gn⟩
  · rw [upd_ne (ne_of_none e hg)]; exact r.sub b u e
  · have : b ≠ a := by
      rintro rfl
      exact ha (List.mem_flatten.mpr ⟨as, List.mem_of_getElem? e1, hb⟩)
    exact upd_ne this

inductive DV where
  | val (d : D)
  | own (xs : List D)
  | slf (x : Addr) (c : Str) (ns : List Str) (fs : List D)
  | lam (v : V) (R : List (List Addr) → Hp → Prop)
  | hold (a : Addr) (o : HO) (R : List (List Addr) → Hp → Prop)
  | cust (Q : PySem.W.Frag → List (List Addr) → Hp → Addr → HO → Prop)
  /-- a list of two lists, all three held alone -/
  | two (xs ys : List D)
abbrev DSt := List (Option DV)
def SlotR (K : PySem.W.Frag) (p : List (List Addr)) (G H : Hp) : Option DV → Option V → List Addr → Prop
  | none, _, l => l = []
  | some (.val d), ov, l => l = [] ∧ ∃ v, ov = some v ∧ Den K p G d v
  | some (.own xs), ov, l => ∃ a vs, l = [a] ∧ ov = some (.ref a) ∧ H a = some (.lst vs) ∧ DenL K p G xs vs
  | some (.slf a c ns fs), ov, l => ∃ dx vs, l = [a] ∧ ov = some (.ref a) ∧ H a = some (.ins (He.ga K c) dx (ns.zip vs)) ∧ vs.length = ns.length ∧ DenL K p G fs vs
  | some (.lam v R), ov, l => l = [] ∧ ov = some v ∧ ∀ p' G', (∃ r, p' = p ++ r) → Same G G' → R p' G'
  | some (.hold a o R), ov, l => l = [a] ∧ ov = some (.ref a) ∧ H a = some o ∧ ∀ p' G', (∃ r, p' = p ++ r) → Same G G' → R p' G'
  | some (.cust Q), ov, l => ∃ a o, l = [a] ∧ ov = some (.ref a) ∧ H a = some o ∧ ∀ p' G', (∃ r, p' = p ++ r) → Same G G' → Q K p' G' a o
  | some (.two xs ys), ov, l => ∃ a b c us vs, l = [a, b, c] ∧ ov = some (.ref a) ∧ H a = some (.lst [.ref b, .ref c]) ∧ (H b = some (.lst us) ∧ DenL K p G xs us) ∧ (H c = some (.lst vs) ∧ DenL K p G ys vs)
def SlotsR (K : PySem.W.Frag) (p : List (List Addr)) (G H : Hp) : DSt → L2.St → List Addr → Prop
  | [], vs, ow => vs = [] ∧ ow = []
  | s :: ss, vs, ow => ∃ v r l k, vs = v :: r ∧ ow = l ++ k ∧ SlotR K p G H s v l ∧ SlotsR K p G H ss r k
structure RelS (K : PySem.W.Frag) (p : List (List Addr)) (G : Hp) (S : Sto) (H : Hp) (t : DSt) (σ : L2.St) (ow : List Addr) : Prop where
  rel : Rel0 K p S G H
  sl : SlotsR K p G H t σ ow
  nd : (p.flatten ++ ow).Nodup
  gn : ∀ a ∈ ow, G a = none
section
variable {K : PySem.W.Frag} {p p' : List (List Addr)} {G G' H H' : Hp} {S S' : Sto} {t : DSt} {σ : L2.St} {ow : List Addr}
theorem SlotR.mono (hp : ∃ r, p' = p ++ r) (e : Same G G') : ∀ {s : Option DV} {v : Option V} {l : List Addr}, (∀ a ∈ l, H' a = H a) → SlotR K p G H s v l → SlotR K p' G' H' s v l
  | none, _, _, _, h => h
  | some (.val _), _, _, _, ⟨h1, v, h2, h3⟩ => ⟨h1, v, h2, h3.mono hp e⟩
  | some (.own _), _, _, k, ⟨a, vs, h1, h2, h3, h4⟩ => ⟨a, vs, h1, h2, (k a (by rw [h1]; simp)).trans h3, h4.mono hp e⟩
  | some (.slf a _ _ _), _, _, k, ⟨dx, vs, h1, h2, h3, h4, h5⟩ => ⟨dx, vs, h1, h2, (k a (by rw [h1]; simp)).trans h3, h4, h5.mono hp e⟩
  | some (.lam _ _), _, _, _, ⟨h1, h2, h3⟩ => ⟨h1, h2, fun p2 G2 q1 q2 => h3 p2 G2 (by obtain ⟨r, e1⟩ := hp; obtain ⟨r2, e2⟩ := q1; exact ⟨r ++ r2, by rw [e2, e1, List.append_assoc]⟩) (e.trans q2)⟩
  | some (.hold a _ _), _, _, k, ⟨h1, h2, h4, h3⟩ => ⟨h1, h2, (k a (by rw [h1]; simp)).trans h4, fun p2 G2 q1 q2 => h3 p2 G2 (by obtain ⟨r, e1⟩ := hp; obtain ⟨r2, e2⟩ := q1; exact ⟨r ++ r2, by rw [e2, e1, List.append_assoc]⟩) (e.trans q2)⟩
  | some (.cust _), _, _, k, ⟨a, o, h1, h2, h4, h3⟩ => ⟨a, o, h1, h2, (k a (by rw [h1]; simp)).trans h4, fun p2 G2 q1 q2 => h3 p2 G2 (by obtain ⟨r, e1⟩ := hp; obtain ⟨r2, e2⟩ := q1; exact ⟨r ++ r2, by rw [e2, e1, List.append_assoc]⟩) (e.trans q2)⟩
  | some (.two _ _), _, _, k, ⟨a, b, c, us, vs, h1, h2, h3, ⟨h4, h5⟩, ⟨h6, h7⟩⟩ => ⟨a, b, c, us, vs, h1, h2, (k a (by rw [h1]; simp)).trans h3, ⟨(k b (by rw [h1]; simp)).trans h4, h5.mono hp e⟩, ⟨(k c (by rw [h1]; simp)).trans h6, h7.mono hp e⟩⟩
theorem SlotsR.mono (hp : ∃ r, p' = p ++ r) (e : Same G G') : ∀ {t : DSt} {σ : L2.St} {ow : List Addr}, (∀ a ∈ ow, H' a = H a) → SlotsR K p G H t σ ow → SlotsR K p' G' H' t σ ow
  | [], _, _, _, h => h
  | _ :: _, _, _, k, ⟨v, r, l, m, h1, h2, h3, h4⟩ => ⟨v, r, l, m, h1, h2, SlotR.mono hp e (fun a ha => k a (by rw [h2]; exact List.mem_append_left _ ha)) h3,
      SlotsR.mono hp e (fun a ha => k a (by rw [h2]; exact List.mem_append_right _ ha)) h4⟩
theorem SlotR.dom : ∀ {s : Option DV} {v : Option V} {l : List Addr}, SlotR K p G H s v l → ∀ a ∈ l, H a ≠ none
  | none, _, _, h, _, ha => by rw [show _ = [] from h] at ha; cases ha
  | some (.val _), _, _, h, _, ha => by rw [h.1] at ha; cases ha
  | some (.own _), _, _, ⟨a, vs, h1, _, h3, _⟩, b, hb => by
    rw [h1] at hb; simp at hb; subst hb; rw [h3]; simp
  | some (.slf a _ _ _), _, _, ⟨dx, vs, h1, _, h3, _⟩, b, hb => by
    rw [h1] at hb; simp at hb; subst hb; rw [h3]; simp
  | some (.lam _ _), _, _, ⟨h1, _⟩, b, hb => by rw [h1] at hb; cases hb
  | some (.hold a _ _), _, _, ⟨h1, _, h3, _⟩, b, hb => by
    rw [h1] at hb; simp at hb; subst hb; rw [h3]; simp
  | some (.cust _), _, _, ⟨a, o, h1, _, h3, _⟩, b, hb => by
    rw [h1] at hb; simp at hb; subst hb; rw [h3]; simp
  | some (.two _ _), _, _, ⟨a, b, c, us, vs, h1, _, h3, ⟨h4, _⟩, ⟨h6, _⟩⟩, z, hz => by
    rw [h1] at hz; simp at hz
    rcases hz with rfl | rfl | rfl
    · rw [h3]; simp
    · rw [h4]; simp
    · rw [h6]; simp
theorem SlotsR.dom : ∀ {t : DSt} {σ : L2.St} {ow : List Addr}, SlotsR K p G H t σ ow → ∀ a ∈ ow, H a ≠ none
  | [], _, _, h, _, ha => by rw [h.2] at ha; cases ha
  | _ :: _, _, _, ⟨v, r, l, m, h1, h2, h3, h4⟩, a, ha => by
    rw [h2] at ha
    rcases List.mem_append.mp ha with z | z
    · exact h3.dom a z
    · exact SlotsR.dom h4 a z
theorem RelS.ext (r : RelS K p G S H t σ ow) (e : Ext p G H p' G' H') (r' : Rel0 K p' S' G' H') : RelS K p' G' S' H' t σ ow := by
  obtain ⟨q, e1, f1⟩ := e.p
  have dj : ∀ a ∈ ow, a ∉ p.flatten := fun a ha hp => (List.nodup_append.mp r.nd).2.2 a hp a ha rfl
  refine ⟨r', SlotsR.mono e.pp e.g (fun a ha => ?_) r.sl, ?_, fun a ha => e.gn a (r.gn a ha) (r.sl.dom a ha)⟩
  · cases h : H a with
    | none => exact absurd h (r.sl.dom a ha)
    | some o => exact e.h a o h (dj a ha)
  · rw [List.nodup_append]
    refine ⟨r'.nd, (List.nodup_append.mp r.nd).2.1, fun a ha b hb hab => ?_⟩
    subst hab
    rw [e1, List.flatten_append, List.mem_append] at ha
    rcases ha with z | z
    · exact dj a hb z
    · exact r.sl.dom a hb (f1 a z)
theorem SlotsR.get : ∀ {t : DSt} {σ : L2.St} {ow : List Addr} {i : Nat} {d : D}, SlotsR K p G H t σ ow → t[i]? = some (some (.val d)) → ∃ v, σ[i]? = some (some v) ∧ Den K p G d v
  | [], _, _, _, _, _, e => by simp at e
  | _ :: _, _, _, 0, d, ⟨v, r, l, m, h1, h2, h3, h4⟩, e => by
    simp at e; subst e
    obtain ⟨_, u, e1, e2⟩ := h3
    exact ⟨u, by rw [h1, e1]; rfl, e2⟩
  | _ :: _, _, _, i + 1, d, ⟨v, r, l, m, h1, h2, h3, h4⟩, e => by
    obtain ⟨u, a, b⟩ := SlotsR.get (i := i) h4 (by simpa using e)
    exact ⟨u, by rw [h1]; simpa using a, b⟩
end
end RM

namespace RM
open PySem PySem.Spec PyProof.Rows L2
variable [PgW]

def ExcAt (K : PySem.W.Frag) (p : List (List Addr)) (G : Hp) (e : Exc) (cls : Value) : Option Addr → Prop
  | none => cls = .ref (He.ga K e.cls) ∧ e.ns = [] ∧ e.fs = []
  | some d => cls = .ref (He.ga K e.cls) ∧ ∃ vs, G d = some (.xd (e.ns.zip vs)) ∧ vs.length = e.ns.length ∧ DenL K p G e.fs vs
def okR {α β : Type} (R : List (List Addr) → Hp → α → β → Prop) (K : PySem.W.Frag) (p : List (List Addr)) (G H : Hp) (W : Value → Option Addr → Hp → Prop) (r : Res α) (Q : β → Hp → Prop) : Prop :=
  match r with
  | .ok d S' => ∀ v p' G' H', R p' G' d v → Rel0 K p' S' G' H' → Ext p G H p' G' H' → Q v H'
  | .exc e S' => ∀ cls dd p' G' H', ExcAt K p' G' e cls dd → Rel0 K p' S' G' H' → Ext p G H p' G' H' → W cls dd H'
  | .stuck => False
section
variable {α β γ δ : Type} {R : List (List Addr) → Hp → α → β → Prop} {R1 : List (List Addr) → Hp → γ → δ → Prop} {K : PySem.W.Frag} {p p1 : List (List Addr)} {G H G1 H1 : Hp} {W : Value → Option Addr → Hp → Prop} {r : Res α} {Q : β → Hp → Prop} {S : Sto}
theorem okR.ext (h : okR R K p G H W r Q) (e : Ext p G H p1 G1 H1) : okR R K p1 G1 H1 W r Q := by
  cases r with
  | ok d S' => exact fun v p' G' H' a b c => h v p' G' H' a b (e.trans c)
  | exc x S' => exact fun cls dd p' G' H' a b c => h cls dd p' G' H' a b (e.trans c)
  | stuck => exact h
theorem okR.seq {m : M γ} {f : γ → M α} {Q1 : δ → Hp → Prop} (h : okR R K p G H W ((m >>= f) S) Q)
    (k : ∀ d S1 v p1 G1 H1, m S = .ok d S1 → R1 p1 G1 d v → Rel0 K p1 S1 G1 H1 → Ext p G H p1 G1 H1 → okR R K p1 G1 H1 W (f d S1) Q → Q1 v H1) : okR R1 K p G H W (m S) Q1 := by
  have h' : okR R K p G H W ((m S).andThen f) Q := h
  cases e : m S with
  | ok d S1 =>
    rw [e] at h'
    exact fun v p1 G1 H1 a b c => k d S1 v p1 G1 H1 e a b c (okR.ext h' c)
  | exc x S1 =>
    rw [e] at h'
    exact h'
  | stuck =>
    rw [e] at h'
    exact h'
theorem okR.fin {d : α} {v : β} (h : okR R K p G H W (.ok d S) Q) (a : R p G d v) (b : Rel0 K p S G H) : Q v H := h v p G H a b (Ext.refl _ _ _)
theorem okR.imp {r : Res γ} {Q Q' : δ → Hp → Prop} (h : okR R1 K p G H W r Q) (k : ∀ v H', Q v H' → Q' v H') : okR R1 K p G H W r Q' := by
  cases r with
  | ok d S' => exact fun v p' G' H' a b c => k _ _ (h v p' G' H' a b c)
  | exc x S' => exact h
  | stuck => exact h
end
abbrev rB : List (List Addr) → Hp → Bool → Bool → Prop := fun _ _ a b => a = b
def tD (K : PySem.W.Frag) (W : WX) (m : DSt → M D) : TE := fun σ H Q => ∃ t p G S ow, RelS K p G S H t σ ow ∧ okR (Den K) K p G H (fun c d H' => W c d σ H') (m t S) Q
def tDA (K : PySem.W.Frag) (W : WX) (m : DSt → M (List D)) : TA := fun σ H Q => ∃ t p G S ow, RelS K p G S H t σ ow ∧ okR (DenL K) K p G H (fun c d H' => W c d σ H') (m t S) Q
def tDT (K : PySem.W.Frag) (W : WX) (m : DSt → M Bool) : TT := fun σ H Q => ∃ t p G S ow, RelS K p G S H t σ ow ∧ okR rB K p G H (fun c d H' => W c d σ H') (m t S) Q
abbrev DE (X : Cx) (W : WX) (e : Expr) (m : DSt → M D) : Prop := PE X e (tD X.K W m)
abbrev DA (X : Cx) (W : WX) (es : List Expr) (m : DSt → M (List D)) : Prop := PA X es (tDA X.K W m)
abbrev DT (X : Cx) (W : WX) (e : Expr) (m : DSt → M Bool) : Prop := PT X e (tDT X.K W m)
theorem PE.imp {X : Cx} {e : Expr} {t t' : TE} (h : PE X e t) (k : ∀ σ H Q, t' σ H Q → t σ H Q) : PE X e t' := ⟨fun pins s σ H Q I q => h.run pins s σ H Q I (k _ _ _ q)⟩
theorem PT.imp {X : Cx} {e : Expr} {t t' : TT} (h : PT X e t) (k : ∀ σ H Q, t' σ H Q → t σ H Q) : PT X e t' := ⟨fun pins s σ H Q I q => h.run pins s σ H Q I (k _ _ _ q)⟩
theorem PW.imp {X : Cx} {e : Expr} {t t' : TT} (h : PW X e t) (k : ∀ σ H Q, t' σ H Q → t σ H Q) : PW X e t' := ⟨fun wh pins s σ H Q I q => h.run wh pins s σ H Q I (k _ _ _ q)⟩
theorem PA.imp {X : Cx} {es : List Expr} {t t' : TA} (h : PA X es t) (k : ∀ σ H Q, t' σ H Q → t σ H Q) : PA X es t' := ⟨fun pos pins s σ H Q I q => h.run pos pins s σ H Q I (k _ _ _ q)⟩

theorem tD.next {K : PySem.W.Frag} {W : WX} {m : DSt → M D} {σ : L2.St} {t : DSt} {p p1 : List (List Addr)} {G H G1 H1 : Hp} {S S1 : Sto} {ow : List Addr} {Q : VK} (r : RelS K p G S H t σ ow) (e : Ext p G H p1 G1 H1) (r1 : Rel0 K p1 S1 G1 H1)
    (h : okR (Den K) K p1 G1 H1 (fun c d H' => W c d σ H') (m t S1) Q) : tD K W m σ H1 Q := ⟨t, p1, G1, S1, ow, r.ext e r1, h⟩
theorem tDT.next {K : PySem.W.Frag} {W : WX} {m : DSt → M Bool} {σ : L2.St} {t : DSt} {p p1 : List (List Addr)} {G H G1 H1 : Hp} {S S1 : Sto} {ow : List Addr} {Q : Bool → Hp → Prop} (r : RelS K p G S H t σ ow) (e : Ext p G H p1 G1 H1) (r1 : Rel0 K p1 S1 G1 H1)
    (h : okR rB K p1 G1 H1 (fun c d H' => W c d σ H') (m t S1) Q) : tDT K W m σ H1 Q := ⟨t, p1, G1, S1, ow, r.ext e r1, h⟩
theorem tDA.next {K : PySem.W.Frag} {W : WX} {m : DSt → M (List D)} {σ : L2.St} {t : DSt} {p p1 : List (List Addr)} {G H G1 H1 : Hp} {S S1 : Sto} {ow : List Addr} {Q : List V → Hp → Prop} (r : RelS K p G S H t σ ow) (e : Ext p G H p1 G1 H1) (r1 : Rel0 K p1 S1 G1 H1)
    (h : okR (DenL K) K p1 G1 H1 (fun c d H' => W c d σ H') (m t S1) Q) : tDA K W m σ H1 Q := ⟨t, p1, G1, S1, ow, r.ext e r1, h⟩

def getV (t : DSt) (i : Nat) : M D := match t[i]? with
  | some (some (.val d)) => pure d
  | _ => stuck
theorem getV_of (t : DSt) (i : Nat) : (∃ d, t[i]? = some (some (.val d)) ∧ getV t i = pure d) ∨ getV t i = stuck := by
  unfold getV
  split
  · rename_i d e
    exact .inl ⟨d, e, rfl⟩
  · exact .inr rfl
section
variable {X : Cx} {W : WX} {a b c : Expr} {es : List Expr} {ma mb mc : DSt → M D} {mt mu : DSt → M Bool} {pos : Pos}
theorem de_var (i : Nat) {x : Str} (hN : X.N[i]? = some x := by rfl) (hv : Vis X.env.scope x := by first | exact Or.inl rfl | exact Or.inr (Or.inl rfl) | exact Or.inr (Or.inr rfl)) (hd : (x == ("__debug__" : Str)) = false := by decide)
    (hcd : (x == ("__classdict__" : Str)) = false := by decide) : DE X W (.Name x pos) (fun t => getV t i) := by
  refine PE.imp (pe_var hN hv hd hcd) fun σ H Q ⟨t, p, G, S, ow, r, h⟩ => ?_
  have h : okR (Den X.K) X.K p G H (fun c d H' => W c d σ H') (getV t i S) Q := h
  rcases getV_of t i with ⟨d, e, q⟩ | q
  · rw [q] at h
    obtain ⟨v, e1, dn⟩ := r.sl.get e
    exact ⟨v, e1, okR.fin h dn r.rel⟩
  · rw [q] at h
    exact h.elim
theorem de_c {e : Expr} {v : V} (d : D) (h : PE X e (tC v)) (hd : ∀ p G, Den X.K p G d v) : DE X W e (fun _ => pure d) :=
  PE.imp h fun σ H Q ⟨t, p, G, S, ow, r, h⟩ => okR.fin h (hd p G) r.rel
theorem de_int {i j} : DE X W (.Constant (.int i) j pos) (fun _ => pure (.int i)) := de_c _ pe_int fun _ _ => rfl
theorem de_bl {i j} : DE X W (.Constant (.bool i) j pos) (fun _ => pure (.bl i)) := de_c _ pe_bl fun _ _ => rfl
theorem de_non {j} : DE X W (.Constant .none j pos) (fun _ => pure .non) := de_c _ pe_non fun _ _ => rfl
theorem de_str {x j} : DE X W (.Constant (.str x) j pos) (fun _ => pure (.str x)) := de_c _ pe_str fun _ _ => rfl
def By2 (K : PySem.W.Frag) (r2 : R2) (f : D → D → M D) : Prop := ∀ (d e : D) (v u : V) (p : List (List Addr)) (G H : Hp) (S : Sto) (W : Value → Option Addr → Hp → Prop) (Q : VK), Den K p G d v → Den K p G e u → Rel0 K p S G H → okR (Den K) K p G H W (f d e S) Q → r2 v u H Q
def By1 (K : PySem.W.Frag) (r1 : V → Hp → VK → Prop) (f : D → M D) : Prop := ∀ (d : D) (v : V) (p : List (List Addr)) (G H : Hp) (S : Sto) (W : Value → Option Addr → Hp → Prop) (Q : VK), Den K p G d v → Rel0 K p S G H → okR (Den K) K p G H W (f d S) Q → r1 v H Q
def ByA (K : PySem.W.Frag) (r1 : List V → Hp → VK → Prop) (f : List D → M D) : Prop := ∀ (d : List D) (v : List V) (p : List (List Addr)) (G H : Hp) (S : Sto) (W : Value → Option Addr → Hp → Prop) (Q : VK), DenL K p G d v → Rel0 K p S G H → okR (Den K) K p G H W (f d S) Q → r1 v H Q
theorem tD2 {K : PySem.W.Frag} {r2 : R2} {f : D → D → M D} (hb : By2 K r2 f) {σ : L2.St} {H : Hp} {Q : VK} (h : tD K W (fun t => do let x ← ma t; let y ← mb t; f x y) σ H Q) : tOp r2 (tD K W ma) (tD K W mb) σ H Q := by
  obtain ⟨t, p, G, S, ow, r, h⟩ := h
  refine ⟨t, p, G, S, ow, r, okR.seq h fun d S1 v p1 G1 H1 e1 dn r1 x1 h1 => ?_⟩
  refine tD.next r x1 r1 (okR.seq h1 fun d2 S2 v2 p2 G2 H2 e2 dn2 r2 x2 h2 => ?_)
  exact hb d d2 v v2 p2 G2 H2 S2 _ Q (dn.mono x2.pp x2.g) dn2 r2 h2
theorem de_op {op : Operator} {r2 : R2} {f : D → D → M D} (ho : OpR X (binaryOp op) r2) (hb : By2 X.K r2 f) (ha : DE X W a ma) (hb' : DE X W b mb) : DE X W (.BinOp a op b pos) (fun t => do let x ← ma t; let y ← mb t; f x y) :=
  PE.imp (pe_op ho ha hb') fun _ _ _ h => tD2 hb h
theorem de_cmp {op : CmpOp} {r2 : R2} {f : D → D → M D} (ho : OpR X (compareOp op) r2) (hb : By2 X.K r2 f) (ha : DE X W a ma) (hb' : DE X W b mb) (hm : behindInMarks op b = false) : DE X W (.Compare a [op] [b] pos) (fun t => do let x ← ma t; let y ← mb t; f x y) :=
  PE.imp (pe_cmpR ho ha hb' hm) fun _ _ _ h => tD2 hb h
theorem de_un {op : UnaryOp} {r1 : V → Hp → VK → Prop} {f : D → M D} (ho : UnR X (unaryOp op) r1) (hb : By1 X.K r1 f) (ha : DE X W a ma) : DE X W (.UnaryOp op a pos) (fun t => do let x ← ma t; f x) := by
  refine PE.imp (pe_un ho ha) fun σ H Q ⟨t, p, G, S, ow, r, h⟩ => ?_
  exact ⟨t, p, G, S, ow, r, okR.seq h fun d S1 v p1 G1 H1 e1 dn r1 x1 h1 => hb d v p1 G1 H1 S1 _ Q dn r1 h1⟩

def asB : D → M Bool
  | .bl b => pure b
  | _ => stuck
theorem dt_val (ha : DE X W a ma) (he : ∀ whole, isTrue a X.env whole = (do let v ← whole; standAt a.pos; holding [v] (truthy v)) := by intro _; rfl) : DT X W a (fun t => do let x ← ma t; asB x) := by
  refine PT.imp (pt_val ha he) fun σ H Q ⟨t, p, G, S, ow, r, h⟩ => ?_
  refine ⟨t, p, G, S, ow, r, okR.seq h fun d S1 v p1 G1 H1 e1 dn r1 x1 h1 => ?_⟩
  cases d with
  | bl b => exact ⟨b, dn, okR.fin (d := b) h1 rfl r1⟩
  | _ => exact h1.elim
theorem dt_cmp {op : CmpOp} {r2 : R2} {f : D → D → M D} (ho : OpR X (compareOp op) r2) (hb : By2 X.K r2 f) (ha : DE X W a ma) (hb' : DE X W b mb) (hm : behindInMarks op b = false) : DT X W (.Compare a [op] [b] pos) (fun t => do let x ← (do let x ← ma t; let y ← mb t; f x y); asB x) := by
  refine PT.imp (pt_cmpR ho ha hb' hm) fun σ H Q ⟨t, p, G, S, ow, r, h⟩ => ?_
  refine tD2 (ma := ma) (mb := mb) hb ⟨t, p, G, S, ow, r, okR.seq h fun d S1 v p1 G1 H1 e1 dn r1 x1 h1 => ?_⟩
  cases d with
  | bl b => exact ⟨b, dn, okR.fin (d := b) h1 rfl r1⟩
  | _ => exact h1.elim
theorem dt_not (ha : DT X W a mt) : DT X W (.UnaryOp .Not a pos) (fun t => do let x ← mt t; pure (!x)) := by
  refine PT.imp (pt_not ha) fun σ H Q ⟨t, p, G, S, ow, r, h⟩ => ?_
  refine ⟨t, p, G, S, ow, r, okR.seq h fun d S1 v p1 G1 H1 e1 dn r1 x1 h1 => ?_⟩
  cases dn
  exact okR.fin (d := !d) h1 rfl r1
abbrev DW (X : Cx) (W : WX) (e : Expr) (m : DSt → M Bool) : Prop := PW X e (tDT X.K W m)
theorem dw_and1 (ha : DT X W a mt) : DW X W (.BoolOp .And [a] pos) mt := pw_and1 ha
theorem dw_or1 (ha : DT X W a mt) : DW X W (.BoolOp .Or [a] pos) mt := pw_or1 ha
theorem dw_and {rest : List Expr} (ha : DT X W a mt) (hb : DW X W (.BoolOp .And (b :: rest) pos) mu) : DW X W (.BoolOp .And (a :: b :: rest) pos) (fun t => do if ← mt t then mu t else pure false) := by
  refine PW.imp (pw_and ha hb) fun σ H Q ⟨t, p, G, S, ow, r, h⟩ => ?_
  refine ⟨t, p, G, S, ow, r, okR.seq h fun d S1 v p1 G1 H1 e1 dn r1 x1 h1 => ?_⟩
  cases dn
  cases d with
  | true => exact iteT (tDT.next r x1 r1 h1)
  | false => exact iteF (okR.fin (d := false) h1 rfl r1)
theorem dw_or {rest : List Expr} (ha : DT X W a mt) (hb : DW X W (.BoolOp .Or (b :: rest) pos) mu) : DW X W (.BoolOp .Or (a :: b :: rest) pos) (fun t => do if ← mt t then pure true else mu t) := by
  refine PW.imp (pw_or ha hb) fun σ H Q ⟨t, p, G, S, ow, r, h⟩ => ?_
  refine ⟨t, p, G, S, ow, r, okR.seq h fun d S1 v p1 G1 H1 e1 dn r1 x1 h1 => ?_⟩
  cases dn
  cases d with
  | false => exact iteF (tDT.next r x1 r1 h1)
  | true => exact iteT (okR.fin (d := true) h1 rfl r1)
theorem DW.dt (h : DW X W a mt) : DT X W a mt := h.pt
theorem de_if (hc : DT X W c mt) (ha : DE X W a ma) (hb : DE X W b mb) : DE X W (.IfExp c a b pos) (fun t => do if ← mt t then ma t else mb t) := by
  refine PE.imp (pe_ifExp hc ha hb) fun σ H Q ⟨t, p, G, S, ow, r, h⟩ => ?_
  refine ⟨t, p, G, S, ow, r, okR.seq h fun d S1 v p1 G1 H1 e1 dn r1 x1 h1 => ?_⟩
  cases dn
  cases d with
  | true => exact iteT (tD.next r x1 r1 h1)
  | false => exact iteF (tD.next r x1 r1 h1)

variable {ms : DSt → M (List D)}
theorem da_nil : DA X W [] (fun _ => pure []) := PA.imp pa_nil fun σ H Q ⟨t, p, G, S, ow, r, h⟩ => okR.fin (d := []) h DenL.nil r.rel
theorem da_cons (ha : DE X W a ma) (hr : DA X W es ms) (hs : starEach (a :: es) X.env = (false, eval a X.env) :: starEach es X.env := by rfl) : DA X W (a :: es) (fun t => do let x ← ma t; let xs ← ms t; pure (x :: xs)) := by
  refine PA.imp (pa_cons ha hr hs) fun σ H Q ⟨t, p, G, S, ow, r, h⟩ => ?_
  refine ⟨t, p, G, S, ow, r, okR.seq h fun d S1 v p1 G1 H1 e1 dn r1 x1 h1 => ?_⟩
  refine tDA.next r x1 r1 (okR.seq h1 fun d2 S2 v2 p2 G2 H2 e2 dn2 r2 x2 h2 => ?_)
  exact okR.fin (d := d :: d2) h2 (DenL.cons (dn.mono x2.pp x2.g) dn2) r2
theorem okR.new {K : PySem.W.Frag} {p : List (List Addr)} {G H : Hp} {W : Value → Option Addr → Hp → Prop} {d : D} {S : Sto} {Q : VK} {l : Addr} {o : HO} (h : okR (Den K) K p G H W (.ok d S) Q) (r : Rel0 K p S G H) (hl : H l = none) (dn : Den K p (upd G l o) d (.ref l)) : Q (.ref l) (upd H l o) :=
  h _ p _ _ dn (r.new o hl).1 (r.new o hl).2
theorem Same.upd_of {G : Hp} {l : Addr} {o : HO} (h : G l = none) : Same G (upd G l o) := fun b u e => by rw [upd_ne (ne_of_none e h)]; exact e
theorem Rel0.gfree {K : PySem.W.Frag} {p : List (List Addr)} {S : Sto} {G H : Hp} (r : Rel0 K p S G H) {a : Addr} (h : H a = none) : G a = none := Same.free r.sub h
theorem DenL.upd {K : PySem.W.Frag} {p : List (List Addr)} {G : Hp} {l : Addr} {o : HO} {ds : List D} {vs : List V} (h : DenL K p G ds vs) (hl : G l = none) : DenL K p (L2.upd G l o) ds vs := h.mono ⟨[], by simp⟩ (Same.upd_of hl)
theorem Den.upd {K : PySem.W.Frag} {p : List (List Addr)} {G : Hp} {l : Addr} {o : HO} {d : D} {v : V} (h : Den K p G d v) (hl : G l = none) : Den K p (L2.upd G l o) d v := h.mono ⟨[], by simp⟩ (Same.upd_of hl)
def tupD (ds : List D) : M D := if ds.length ≤ sizeLine then pure (.tup ds) else stuck
def lstD (ds : List D) : M D := if ds.length ≤ sizeLine then pure (.lst ds) else stuck
theorem okR.tup {K : PySem.W.Frag} {p : List (List Addr)} {G H : Hp} {W : Value → Option Addr → Hp → Prop} {ds : List D} {vs : List V} {S : Sto} {Q : VK} {l : Addr} (h : okR (Den K) K p G H W (.ok (.tup ds) S) Q) (r : Rel0 K p S G H) (hl : H l = none) (dn : DenL K p G ds vs) : Q (.ref l) (L2.upd H l (.tup vs)) :=
  okR.new h r hl ⟨l, vs, rfl, SqT.of upd_same, dn.upd (r.gfree hl)⟩
theorem okR.lst {K : PySem.W.Frag} {p : List (List Addr)} {G H : Hp} {W : Value → Option Addr → Hp → Prop} {ds : List D} {vs : List V} {S : Sto} {Q : VK} {l : Addr} (h : okR (Den K) K p G H W (.ok (.lst ds) S) Q) (r : Rel0 K p S G H) (hl : H l = none) (dn : DenL K p G ds vs) : Q (.ref l) (L2.upd H l (.lst vs)) :=
  okR.new h r hl ⟨l, vs, rfl, upd_same, dn.upd (r.gfree hl)⟩
theorem de_tup {x1} (h : DA X W es ms) : DE X W (.Tuple es x1 pos) (fun t => do let xs ← ms t; tupD xs) := by
  refine PE.imp (pe_tup h) fun σ H Q ⟨t, p, G, S, ow, r, h⟩ => ?_
  refine ⟨t, p, G, S, ow, r, okR.seq h fun d S1 v p1 G1 H1 e1 dn r1 x1 h1 => ?_⟩
  unfold tupD at h1
  split at h1
  · exact ⟨by rw [dn.length]; assumption, fun l hl => okR.tup h1 r1 hl dn⟩
  · exact h1.elim
theorem de_lst (h : DA X W es ms) : DE X W (.List es pos) (fun t => do let xs ← ms t; lstD xs) := by
  refine PE.imp (pe_lst h) fun σ H Q ⟨t, p, G, S, ow, r, h⟩ => ?_
  refine ⟨t, p, G, S, ow, r, okR.seq h fun d S1 v p1 G1 H1 e1 dn r1 x1 h1 => ?_⟩
  unfold lstD at h1
  split at h1
  · exact ⟨by rw [dn.length]; assumption, fun l hl => okR.lst h1 r1 hl dn⟩
  · exact h1.elim
theorem de_callB {x : Str} {id : String} {r1 : List V → Hp → VK → Prop} {f : List D → M D} {p : Pos} (hc : CallR X (.builtin id) r1) (hb : ByA X.K r1 f) (hg : Gl X x) (hm : X.mg x = none) (hv : bootBuiltins x = some (.builtin id)) (ha : DA X W (a :: es) ms) (hn : x ≠ "__name__" := by decide) (hdb : (x == ("__debug__" : Str)) = false := by decide)
    (he : starEach (a :: es) X.env = (false, eval a X.env) :: starEach es X.env := by rfl) (hpl : (backTo pos (starEach es X.env)).any (·.1) = false := by rfl) : DE X W (.Call (.Name x p) (a :: es) [] pos) (fun t => do let xs ← ms t; f xs) := by
  refine PE.imp (pe_callB hc hg hm hv ha hn hdb he hpl) fun σ H Q ⟨t, p, G, S, ow, r, h⟩ => ?_
  exact ⟨t, p, G, S, ow, r, okR.seq h fun d S1 v p1 G1 H1 e1 dn r1 x1 h1 => hb d v p1 G1 H1 S1 _ Q dn r1 h1⟩
theorem de_callTy {x : Str} {T : String} {r1 : List V → Hp → VK → Prop} {f : List D → M D} {p : Pos} (hc : CallR X (.type T) r1) (hb : ByA X.K r1 f) (hg : Gl X x) (hm : X.mg x = none) (hv : bootBuiltins x = some (.type T)) (ha : DA X W (a :: es) ms) (hn : x ≠ "__name__" := by decide) (hdb : (x == ("__debug__" : Str)) = false := by decide)
    (he : starEach (a :: es) X.env = (false, eval a X.env) :: starEach es X.env := by rfl) (hpl : (backTo pos (starEach es X.env)).any (·.1) = false := by rfl) : DE X W (.Call (.Name x p) (a :: es) [] pos) (fun t => do let xs ← ms t; f xs) := by
  refine PE.imp (pe_callTy hc hg hm hv ha hn hdb he hpl) fun σ H Q ⟨t, p, G, S, ow, r, h⟩ => ?_
  exact ⟨t, p, G, S, ow, r, okR.seq h fun d S1 v p1 G1 H1 e1 dn r1 x1 h1 => hb d v p1 G1 H1 S1 _ Q dn r1 h1⟩
end
end RM

namespace RM
open PySem PySem.Spec PyProof.Rows L2
variable [PgW]

def addD : D → D → M D
  | .int i, .int j => pure (.int (i + j))
  | .str x, .str y => if x.length + y.length ≤ sizeLine then pure (.str (x ++ y)) else stuck
  | .lst xs, .lst ys => if xs.length + ys.length ≤ sizeLine then pure (.lst (xs ++ ys)) else stuck
  | .tup xs, .tup ys => if xs.length + ys.length ≤ sizeLine then pure (.tup (xs ++ ys)) else stuck
  | _, _ => stuck
def subD : D → D → M D
  | .int i, .int j => pure (.int (i - j))
  | _, _ => stuck
def mulD : D → D → M D
  | .int i, .int j => if (-(2 ^ 64) < i ∧ i < 2 ^ 64) ∨ (-(2 ^ 64) < j ∧ j < 2 ^ 64) then pure (.int (i * j)) else stuck
  | .lst xs, .int k => if -(2 ^ 63) ≤ k ∧ k < 2 ^ 63 ∧ xs.length * k.toNat ≤ sizeLine then pure (.lst (List.replicate k.toNat xs).flatten) else stuck
  | _, _ => stuck
def modD : D → D → M D
  | .int i, .int j => if 0 < j then pure (.int (i % j)) else stuck
  | _, _ => stuck
def fdivD : D → D → M D
  | .int i, .int j => if 0 < j ∧ j.natAbs.log2 < 9000 then pure (.int (i / j)) else stuck
  | _, _ => stuck
def powD : D → D → M D
  | .int i, .int j => if 0 ≤ j ∧ j ≤ 1000000 ∧ i.natAbs < 2 ^ 64 then pure (.int (i ^ j.toNat)) else stuck
  | _, _ => stuck
def negD : D → M D
  | .int i => pure (.int (-i))
  | _ => stuck
section
variable {K : PySem.W.Frag}
theorem DenL.nil_iff {p : List (List Addr)} {G : Hp} {ds : List D} {vs : List V} (h : DenL K p G ds vs) : vs = [] ↔ ds = [] := by
  have e := h.length
  constructor
  · intro z
    rw [z] at e
    exact List.length_eq_zero_iff.mp e.symm
  · intro z
    rw [z] at e
    exact List.length_eq_zero_iff.mp e
theorem by_add : By2 K (fun x y H Q => rI0 (fun i j => .int (i + j)) x y H Q ∨ (∃ i j, x = .str i ∧ y = .str j ∧ i.length + j.length ≤ sizeLine ∧ Q (.str (i ++ j)) H) ∨ rCat x y H Q ∨ rCatA K x y H Q) addD := by
  intro d e v u p G H S W Q hd he r h
  cases d <;> cases e <;> try exact h.elim
  · exact .inl ⟨_, _, hd, he, okR.fin (v := V.int _) h rfl r⟩
  · unfold addD at h
    dsimp only at h
    split at h
    · rename_i hz
      exact .inr (.inl ⟨_, _, hd, he, hz, okR.fin (v := V.str _) h rfl r⟩)
    · exact h.elim
  · unfold addD at h
    dsimp only at h
    split at h
    · rename_i hz
      obtain ⟨a, vs, rfl, ha, hv⟩ := hd
      obtain ⟨b, us, rfl, hb, hu⟩ := he
      refine .inr (.inr (.inr ⟨a, b, vs, us, rfl, rfl, SqT.mono r.sub ha, SqT.mono r.sub hb, by rw [hv.length, hu.length]; exact hz, fun z => ?_, fun _ z => ?_, fun _ z l hl => okR.tup h r hl (hv.append hu)⟩))
      · subst z
        rw [(hv.nil_iff.mp rfl), List.nil_append] at h
        exact okR.fin h ⟨b, us, rfl, hb, hu⟩ r
      · subst z
        rw [(hu.nil_iff.mp rfl), List.append_nil] at h
        exact okR.fin h ⟨a, vs, rfl, ha, hv⟩ r
    · exact h.elim
  · unfold addD at h
    dsimp only at h
    split at h
    · rename_i hz
      obtain ⟨a, vs, rfl, ha, hv⟩ := hd
      obtain ⟨b, us, rfl, hb, hu⟩ := he
      exact .inr (.inr (.inl ⟨a, b, vs, us, rfl, rfl, r.sub _ _ ha, r.sub _ _ hb, by rw [hv.length, hu.length]; exact hz, fun l hl => okR.lst h r hl (hv.append hu)⟩))
    · exact h.elim
theorem by_sub : By2 K (rI0 fun i j => .int (i - j)) subD := by
  intro d e v u p G H S W Q hd he r h
  cases d <;> cases e <;> try exact h.elim
  exact ⟨_, _, hd, he, okR.fin (v := V.int _) h rfl r⟩
theorem DenL.replicate {p : List (List Addr)} {G : Hp} {ds : List D} {vs : List V} (h : DenL K p G ds vs) : ∀ k : Nat, DenL K p G (List.replicate k ds).flatten (List.replicate k vs).flatten
  | 0 => rfl
  | k + 1 => by
    rw [List.replicate_succ, List.replicate_succ, List.flatten_cons, List.flatten_cons]
    exact h.append (DenL.replicate h k)
theorem by_mul : By2 K (fun x y H Q => rI CMul (fun i j => .int (i * j)) x y H Q ∨ rRep x y H Q) mulD := by
  intro d e v u p G H S W Q hd he r h
  cases d <;> cases e <;> try exact h.elim
  · unfold mulD at h
    dsimp only at h
    split at h
    · rename_i hz
      exact .inl ⟨_, _, hd, he, hz, okR.fin (v := V.int _) h rfl r⟩
    · exact h.elim
  · unfold mulD at h
    dsimp only at h
    split at h
    · rename_i hz
      obtain ⟨a, vs, rfl, ha, hv⟩ := hd
      exact .inr ⟨a, _, vs, rfl, he, r.sub _ _ ha, hz.1, hz.2.1, by rw [hv.length]; exact hz.2.2, fun l hl => okR.lst h r hl (hv.replicate _)⟩
    · exact h.elim
theorem by_mod : By2 K (rI (fun _ j => 0 < j) fun i j => .int (i % j)) modD := by
  intro d e v u p G H S W Q hd he r h
  cases d <;> cases e <;> try exact h.elim
  unfold modD at h
  dsimp only at h
  split at h
  · rename_i hz
    exact ⟨_, _, hd, he, hz, okR.fin (v := V.int _) h rfl r⟩
  · exact h.elim
theorem by_fdiv : By2 K (rI CDivW fun i j => .int (i / j)) fdivD := by
  intro d e v u p G H S W Q hd he r h
  cases d <;> cases e <;> try exact h.elim
  unfold fdivD at h
  dsimp only at h
  split at h
  · rename_i hz
    exact ⟨_, _, hd, he, hz, okR.fin (v := V.int _) h rfl r⟩
  · exact h.elim
theorem by_pow : By2 K (rI CPow fun i j => .int (i ^ j.toNat)) powD := by
  intro d e v u p G H S W Q hd he r h
  cases d <;> cases e <;> try exact h.elim
  unfold powD at h
  dsimp only at h
  split at h
  · rename_i hz
    exact ⟨_, _, hd, he, hz, okR.fin (v := V.int _) h rfl r⟩
  · exact h.elim
theorem by_neg : By1 K (rU fun i => .int (-i)) negD := by
  intro d v p G H S W Q hd r h
  cases d <;> try exact h.elim
  exact ⟨_, hd, okR.fin (v := V.int _) h rfl r⟩
end
section
variable {X : Cx} {W : WX} {a b c : Expr} {es : List Expr} {ma mb mc : DSt → M D} {pos : Pos}
theorem de_add (ha : DE X W a ma) (hb : DE X W b mb) : DE X W (.BinOp a .Add b pos) (fun t => do let x ← ma t; let y ← mb t; addD x y) := de_op (op_add.or (op_add_str.or (op_cat.or op_catA))) by_add ha hb
theorem de_sub (ha : DE X W a ma) (hb : DE X W b mb) : DE X W (.BinOp a .Sub b pos) (fun t => do let x ← ma t; let y ← mb t; subD x y) := de_op op_sub by_sub ha hb
theorem de_mul (ha : DE X W a ma) (hb : DE X W b mb) : DE X W (.BinOp a .Mult b pos) (fun t => do let x ← ma t; let y ← mb t; mulD x y) := de_op (op_mul.or op_rep) by_mul ha hb
theorem de_mod (ha : DE X W a ma) (hb : DE X W b mb) : DE X W (.BinOp a .Mod b pos) (fun t => do let x ← ma t; let y ← mb t; modD x y) := de_op op_mod by_mod ha hb
theorem de_fdiv (ha : DE X W a ma) (hb : DE X W b mb) : DE X W (.BinOp a .FloorDiv b pos) (fun t => do let x ← ma t; let y ← mb t; fdivD x y) := de_op op_fdivW by_fdiv ha hb
theorem de_pow (ha : DE X W a ma) (hb : DE X W b mb) : DE X W (.BinOp a .Pow b pos) (fun t => do let x ← ma t; let y ← mb t; powD x y) := de_op op_pow by_pow ha hb
theorem de_neg (ha : DE X W a ma) : DE X W (.UnaryOp .USub a pos) (fun t => do let x ← ma t; negD x) := de_un un_neg by_neg ha
end
def isNonD : D → D → M D
  | d, .non => pure (.bl (match d with | .non => true | _ => false))
  | _, _ => stuck
def notNonD : D → D → M D
  | d, .non => pure (.bl (match d with | .non => false | _ => true))
  | _, _ => stuck
def strLt (x y : Str) : Bool := decide (x.cps.toList < y.cps.toList)
def ltD : D → D → M D
  | .int i, .int j => pure (.bl (decide (i < j)))
  | .str i, .str j => pure (.bl (strLt i j))
  | _, _ => stuck
def leD : D → D → M D
  | .int i, .int j => pure (.bl (decide (i ≤ j)))
  | _, _ => stuck
def gtD : D → D → M D
  | .int i, .int j => pure (.bl (decide (j < i)))
  | _, _ => stuck
def geD : D → D → M D
  | .int i, .int j => pure (.bl (decide (j ≤ i)))
  | _, _ => stuck
mutual
def toPy : D → Option PyData
  | .non => some .none
  | .bl b => some (.bool b)
  | .int i => some (.int i)
  | .str x => some (.str x)
  | .tup xs => (toPyL xs).map .tuple
  | .lst xs => (toPyL xs).map .list
  | .ins _ _ _ => none
  | .mref _ => none
  | .dic _ _ => none
  | .scr _ => none
  | .xcp _ _ _ => none
  | .dct _ _ => none
def toPyL : List D → Option (List PyData)
  | [] => some []
  | x :: xs => match toPy x, toPyL xs with
    | some y, some ys => some (y :: ys)
    | _, _ => none
end
def eqDeep (neg : Bool) (d e : D) : M D := match toPy d, toPy e with
  | some x, some y => if SeqAt.shaped x = true ∧ SeqAt.shaped y = true then pure (.bl (if neg then !PyData.eqv x y else PyData.eqv x y)) else stuck
  | _, _ => stuck
def eqD : D → D → M D
  | .int i, .int j => pure (.bl (i == j))
  | .str i, .str j => pure (.bl (i == j))
  | .bl i, .bl j => pure (.bl (i == j))
  | d, e => eqDeep false d e
def neD : D → D → M D
  | .int i, .int j => pure (.bl (!(i == j)))
  | .str i, .str j => pure (.bl (!(i == j)))
  | .bl i, .bl j => pure (.bl (!(i == j)))
  | d, e => eqDeep true d e
section
variable {K : PySem.W.Frag}
mutual
theorem toPy_dp {p : List (List Addr)} {G H : Hp} (sub : Same G H) : ∀ {d : D} {v : V} {x : PyData}, Den K p G d v → toPy d = some x → Dp K H v x
  | .non, _, _, h, e => by
    cases (show _ = _ from h); cases e; exact .non
  | .bl b, _, _, h, e => by
    cases (show _ = _ from h); cases e; exact .bl b
  | .int i, _, _, h, e => by
    cases (show _ = _ from h); cases e; exact .int i
  | .str i, _, _, h, e => by
    cases (show _ = _ from h); cases e; exact .str i
  | .tup xs, _, _, ⟨a, vs, h1, h2, h3⟩, e => by
    subst h1
    obtain ⟨ys, e1, e2⟩ := Option.map_eq_some_iff.mp (show (toPyL xs).map PyData.tuple = some _ from e)
    subst e2
    exact .tup (SqT.mono sub h2) (toPyL_dp sub h3 e1)
  | .lst xs, _, _, ⟨a, vs, h1, h2, h3⟩, e => by
    subst h1
    obtain ⟨ys, e1, e2⟩ := Option.map_eq_some_iff.mp (show (toPyL xs).map PyData.list = some _ from e)
    subst e2
    exact .lst (SqL.of (sub _ _ h2)) (toPyL_dp sub h3 e1)
  | .ins _ _ _, _, _, _, e => by cases e
  | .mref _, _, _, _, e => by cases e
  | .dic _ _, _, _, _, e => by cases e
  | .scr _, _, _, _, e => by cases e
  | .xcp _ _ _, _, _, _, e => by cases e
  | .dct _ _, _, _, _, e => by cases e
theorem toPyL_dp {p : List (List Addr)} {G H : Hp} (sub : Same G H) : ∀ {d : List D} {v : List V} {x : List PyData}, DenL K p G d v → toPyL d = some x → DpAll K H v x
  | [], _, _, h, e => by
    cases (show _ = [] from h); cases e; exact .nil
  | y :: ys, _, _, ⟨v, r, h1, h2, h3⟩, e => by
    subst h1
    have e' : (match toPy y, toPyL ys with
      | some y, some ys => some (y :: ys)
      | _, _ => none) = some _ := e
    cases q1 : toPy y with
    | none => rw [q1] at e'; cases e'
    | some z =>
      cases q2 : toPyL ys with
      | none => rw [q1, q2] at e'; cases e'
      | some zs =>
        rw [q1, q2] at e'
        cases e'
        exact .cons (toPy_dp sub h2 q1) (toPyL_dp sub h3 q2)
end
theorem deep_split {neg : Bool} {p : List (List Addr)} {G H : Hp} {S : Sto} {W : Value → Option Addr → Hp → Prop} {Q : VK} {d e : D} {v u : V} (hd : Den K p G d v) (he : Den K p G e u) (r : Rel0 K p S G H) (h : okR (Den K) K p G H W (eqDeep neg d e S) Q) :
    ∃ x y, Dp K H v x ∧ Dp K H u y ∧ SeqAt.shaped x = true ∧ SeqAt.shaped y = true ∧ Q (.bl (if neg then !PyData.eqv x y else PyData.eqv x y)) H := by
  unfold eqDeep at h
  cases q1 : toPy d with
  | none => rw [q1] at h; exact h.elim
  | some x =>
    cases q2 : toPy e with
    | none => rw [q1, q2] at h; exact h.elim
    | some y =>
      rw [q1, q2] at h
      dsimp only at h
      split at h
      · rename_i hz
        exact ⟨x, y, toPy_dp r.sub hd q1, toPy_dp r.sub he q2, hz.1, hz.2, okR.fin (v := V.bl _) h rfl r⟩
      · exact h.elim
theorem by_eq : By2 K (fun x y H Q => rEq x y H Q ∨ rEqD K x y H Q) eqD := by
  intro d e v u p G H S W Q hd he r h
  unfold eqD at h
  split at h
  · cases (show v = _ from hd); cases (show u = _ from he)
    refine .inl ⟨rfl, ?_⟩
    rw [dec_int]
    exact okR.fin (v := V.bl _) h rfl r
  · cases (show v = _ from hd); cases (show u = _ from he)
    refine .inl ⟨rfl, ?_⟩
    rw [dec_str]
    exact okR.fin (v := V.bl _) h rfl r
  · cases (show v = _ from hd); cases (show u = _ from he)
    refine .inl ⟨rfl, ?_⟩
    rw [dec_bl]
    exact okR.fin (v := V.bl _) h rfl r
  · obtain ⟨x, y, k1, k2, k3, k4, k5⟩ := deep_split hd he r h
    exact .inr ⟨x, y, k1, k2, k3, k4, k5⟩
theorem by_ne : By2 K (fun x y H Q => rNe x y H Q ∨ rNeD K x y H Q) neD := by
  intro d e v u p G H S W Q hd he r h
  unfold neD at h
  split at h
  · cases (show v = _ from hd); cases (show u = _ from he)
    refine .inl ⟨rfl, ?_⟩
    rw [dec_int]
    exact okR.fin (v := V.bl _) h rfl r
  · cases (show v = _ from hd); cases (show u = _ from he)
    refine .inl ⟨rfl, ?_⟩
    rw [dec_str]
    exact okR.fin (v := V.bl _) h rfl r
  · cases (show v = _ from hd); cases (show u = _ from he)
    refine .inl ⟨rfl, ?_⟩
    rw [dec_bl]
    exact okR.fin (v := V.bl _) h rfl r
  · obtain ⟨x, y, k1, k2, k3, k4, k5⟩ := deep_split hd he r h
    exact .inr ⟨x, y, k1, k2, k3, k4, k5⟩
theorem by_gt : By2 K (rI0 fun i j => .bl (decide (j < i))) gtD := by
  intro d e v u p G H S W Q hd he r h
  cases d <;> cases e <;> try exact h.elim
  exact ⟨_, _, hd, he, okR.fin (v := V.bl _) h rfl r⟩
end
section
variable {X : Cx} {W : WX} {a b c : Expr} {es : List Expr} {ma mb mc : DSt → M D} {pos : Pos}
theorem de_eq (hu : X.A.units + 64 < cLine) (ha : DE X W a ma) (hb : DE X W b mb) : DE X W (.Compare a [.Eq] [b] pos) (fun t => do let x ← ma t; let y ← mb t; eqD x y) := de_cmp (op_eq.or (op_eqD hu)) by_eq ha hb (nomark _)
theorem dt_eq (hu : X.A.units + 64 < cLine) (ha : DE X W a ma) (hb : DE X W b mb) : DT X W (.Compare a [.Eq] [b] pos) (fun t => do let x ← (do let x ← ma t; let y ← mb t; eqD x y); asB x) := dt_cmp (op_eq.or (op_eqD hu)) by_eq ha hb (nomark _)
theorem dt_ne (hu : X.A.units + 64 < cLine) (ha : DE X W a ma) (hb : DE X W b mb) : DT X W (.Compare a [.NotEq] [b] pos) (fun t => do let x ← (do let x ← ma t; let y ← mb t; neD x y); asB x) := dt_cmp (op_ne.or (op_neD hu)) by_ne ha hb (nomark _)
theorem dt_gt (ha : DE X W a ma) (hb : DE X W b mb) : DT X W (.Compare a [.Gt] [b] pos) (fun t => do let x ← (do let x ← ma t; let y ← mb t; gtD x y); asB x) := dt_cmp op_gt by_gt ha hb (nomark _)
end
end RM

namespace RM
open PySem PySem.Spec PyProof.Rows L2
variable [PgW]

inductive Ctl where
  | nx (t : DSt) | rt (d : D) | bk (t : DSt) | ct (t : DSt) | rl (xs : List D)
structure Snap where
  p : List (List Addr)
  G : Hp
  H : Hp
  pF : List (List Addr)
  GF : Hp
structure RelF (K : PySem.W.Frag) (n : Snap) (p : List (List Addr)) (G : Hp) (S : Sto) (H : Hp) (t : DSt) (σ : L2.St) (ow : List Addr) : Prop where
  rs : RelS K p G S H t σ ow
  ext : Ext n.p n.G n.H p G H
  own : ∀ a ∈ ow, n.H a = none
  fp : ∃ r, p = n.pF ++ r
  fg : Same n.GF G
theorem RelF.step {K : PySem.W.Frag} {n : Snap} {p p1 : List (List Addr)} {G H G1 H1 : Hp} {S S1 : Sto} {t : DSt} {σ : L2.St} {ow : List Addr} (r : RelF K n p G S H t σ ow) (e : Ext p G H p1 G1 H1) (r1 : Rel0 K p1 S1 G1 H1) : RelF K n p1 G1 S1 H1 t σ ow := by
  obtain ⟨q, e1⟩ := r.fp
  obtain ⟨q2, e2⟩ := e.pp
  exact ⟨r.rs.ext e r1, r.ext.trans e, r.own, ⟨q ++ q2, by rw [e2, e1, List.append_assoc]⟩, r.fg.trans e.g⟩
abbrev Wf := Value → Option Addr → Hp → Prop
abbrev Wf.x (W : Wf) : WX := fun c d _ H => W c d H
def okS (K : PySem.W.Frag) (W : Wf) (n : Snap) (r : Res Ctl) (E : Ends) : Prop := match r with
  | .ok (.nx t') S' => ∀ p' G' H' σ' ow', RelF K n p' G' S' H' t' σ' ow' → E.nx σ' H'
  | .ok (.bk t') S' => ∀ p' G' H' σ' ow', RelF K n p' G' S' H' t' σ' ow' → E.bk σ' H'
  | .ok (.ct t') S' => ∀ p' G' H' σ' ow', RelF K n p' G' S' H' t' σ' ow' → E.ct σ' H'
  | .ok (.rt d) S' => ∀ v p' G' H', Den K p' G' d v → Rel0 K p' S' G' H' → Ext n.p n.G n.H p' G' H' → E.rt v H'
  | .ok (.rl xs) S' => ∀ a vs p' G' H', n.H a = none → H' a = some (.lst vs) → DenL K p' G' xs vs → G' a = none → a ∉ p'.flatten → Rel0 K p' S' G' H' → Ext n.p n.G n.H p' G' H' → E.rt (.ref a) H'
  | .exc e S' => ∀ cls dd p' G' H', ExcAt K p' G' e cls dd → Rel0 K p' S' G' H' → Ext n.p n.G n.H p' G' H' → W cls dd H'
  | .stuck => False
def tDS (K : PySem.W.Frag) (W : Wf) (m : DSt → M Ctl) : TS := fun E σ H => ∃ n t p G S ow, RelF K n p G S H t σ ow ∧ okS K W n (m t S) E
abbrev DS (X : Cx) (W : Wf) (st : Stmt) (m : DSt → M Ctl) : Prop := PS X st (tDS X.K W m)
abbrev DSs (X : Cx) (W : Wf) (st : List Stmt) (m : DSt → M Ctl) : Prop := PSs X st (tDS X.K W m)
theorem PS.imp {X : Cx} {st : Stmt} {t t' : TS} (h : PS X st t) (k : ∀ E σ H, t' E σ H → t E σ H) : PS X st t' := ⟨fun pins s σ H E I q => h.run pins s σ H E I (k _ _ _ q)⟩
theorem PSs.imp {X : Cx} {st : List Stmt} {t t' : TS} (h : PSs X st t) (k : ∀ E σ H, t' E σ H → t E σ H) : PSs X st t' := ⟨fun pins s σ H E I q => h.run pins s σ H E I (k _ _ _ q)⟩
theorem okS.seq {α β : Type} {R1 : List (List Addr) → Hp → α → β → Prop} {K : PySem.W.Frag} {W : Wf} {n : Snap} {E : Ends} {p : List (List Addr)} {G H : Hp} {S : Sto} {t : DSt} {σ : L2.St} {ow : List Addr} {m : M α} {f : α → M Ctl} {Q1 : β → Hp → Prop}
    (h : okS K W n ((m >>= f) S) E) (r : RelF K n p G S H t σ ow)
    (k : ∀ d S1 v p1 G1 H1, m S = .ok d S1 → R1 p1 G1 d v → RelF K n p1 G1 S1 H1 t σ ow → Ext p G H p1 G1 H1 → okS K W n (f d S1) E → Q1 v H1) : okR R1 K p G H (fun c d H' => W c d H') (m S) Q1 := by
  have h' : okS K W n ((m S).andThen f) E := h
  cases e : m S with
  | ok d S1 =>
    rw [e] at h'
    exact fun v p1 G1 H1 a b c => k d S1 v p1 G1 H1 e a (r.step c b) c h'
  | exc x S1 =>
    rw [e] at h'
    exact fun cls dd p1 G1 H1 a b c => h' cls dd p1 G1 H1 a b (r.ext.trans c)
  | stuck =>
    rw [e] at h'
    exact h'
def seqC (u : DSt → M Ctl) : Ctl → M Ctl
  | .nx t => u t
  | c => pure c
section
variable {X : Cx} {W : Wf} {st : Stmt} {rest : List Stmt} {m u : DSt → M Ctl} {a b c e : Expr} {ma mb : DSt → M D} {mt : DSt → M Bool} {pos : Pos}
theorem ds_nil : DSs X W [] (fun t => pure (.nx t)) := PSs.imp pss_nil fun E σ H ⟨n, t, p, G, S, ow, r, h⟩ => h p G H σ ow r
theorem okS.imp {K : PySem.W.Frag} {W : Wf} {n : Snap} {E E' : Ends} {r : Res Ctl} (h : okS K W n r E) (k1 : ∀ σ H, E.nx σ H → E'.nx σ H) (k2 : ∀ σ H, E.bk σ H → E'.bk σ H) (k3 : ∀ σ H, E.ct σ H → E'.ct σ H) (k4 : ∀ v H, E.rt v H → E'.rt v H) : okS K W n r E' := by
  cases r with
  | ok c S' =>
    cases c with
    | nx t => exact fun p' G' H' σ' ow' r => k1 _ _ (h p' G' H' σ' ow' r)
    | bk t => exact fun p' G' H' σ' ow' r => k2 _ _ (h p' G' H' σ' ow' r)
    | ct t => exact fun p' G' H' σ' ow' r => k3 _ _ (h p' G' H' σ' ow' r)
    | rt d => exact fun v p' G' H' a b c => k4 _ _ (h v p' G' H' a b c)
    | rl xs => exact fun l vs p' G' H' a b c d e f g => k4 _ _ (h l vs p' G' H' a b c d e f g)
  | exc x S' => exact h
  | stuck => exact h
theorem okS.then {K : PySem.W.Frag} {W : Wf} {n : Snap} {E E1 : Ends} {r : Res Ctl} (h : okS K W n (r.andThen (seqC u)) E) (kb : E.bk = E1.bk) (kc : E.ct = E1.ct) (kr : E.rt = E1.rt)
    (k : ∀ t' S' p' G' H' σ' ow', RelF K n p' G' S' H' t' σ' ow' → okS K W n (u t' S') E → E1.nx σ' H') : okS K W n r E1 := by
  cases r with
  | ok c S' =>
    cases c with
    | nx t => exact fun p' G' H' σ' ow' r => k t S' p' G' H' σ' ow' r h
    | bk t => intro p' G' H' σ' ow' r; rw [← kb]; exact h p' G' H' σ' ow' r
    | ct t => intro p' G' H' σ' ow' r; rw [← kc]; exact h p' G' H' σ' ow' r
    | rt d => intro v p' G' H' a b c; rw [← kr]; exact h v p' G' H' a b c
    | rl xs => intro l vs p' G' H' a b c d e f g; rw [← kr]; exact h l vs p' G' H' a b c d e f g
  | exc x S' => exact h
  | stuck => exact h
theorem ds_cons (h1 : DS X W st m) (h2 : DSs X W rest u) : DSs X W (st :: rest) (fun t => do let c ← m t; seqC u c) := by
  refine PSs.imp (pss_cons h1 h2) fun E σ H ⟨n, t, p, G, S, ow, r, h⟩ => ?_
  refine ⟨n, t, p, G, S, ow, r, okS.then (u := u) h rfl rfl rfl fun t' S' p' G' H' σ' ow' r' h' => ?_⟩
  exact ⟨n, t', p', G', S', ow', r', h'⟩
theorem ds_one (h1 : DS X W st m) : DSs X W [st] m := pss_one h1
theorem ds_ret (he : DE X W.x e ma) : DS X W (.Return (some e) pos) (fun t => do let x ← ma t; pure (.rt x)) := by
  refine PS.imp (ps_ret he) fun E σ H ⟨n, t, p, G, S, ow, r, h⟩ => ?_
  exact ⟨t, p, G, S, ow, r.rs, okS.seq h r fun d S1 v p1 G1 H1 e1 dn r1 x1 h1 => h1 v p1 G1 H1 dn r1.rs.rel r1.ext⟩
theorem ds_if {xs ys : List Stmt} (hc : DT X W.x c mt) (ha : DSs X W xs m) (hb : DSs X W ys u) : DS X W (.If c xs ys pos) (fun t => do if ← mt t then m t else u t) := by
  refine PS.imp (ps_if hc ha hb) fun E σ H ⟨n, t, p, G, S, ow, r, h⟩ => ?_
  refine ⟨t, p, G, S, ow, r.rs, okS.seq h r fun d S1 v p1 G1 H1 e1 dn r1 x1 h1 => ?_⟩
  cases dn
  cases d with
  | true => exact iteT ⟨n, t, p1, G1, S1, ow, r1, h1⟩
  | false => exact iteF ⟨n, t, p1, G1, S1, ow, r1, h1⟩
theorem SlotsR.len {K : PySem.W.Frag} {p : List (List Addr)} {G H : Hp} : ∀ {t : DSt} {σ : L2.St} {ow : List Addr}, SlotsR K p G H t σ ow → σ.length = t.length
  | [], _, _, h => by rw [h.1]; rfl
  | _ :: _, _, _, ⟨v, r, l, k, h1, h2, h3, h4⟩ => by rw [h1, List.length_cons, List.length_cons, SlotsR.len h4]
theorem SlotsR.set {K : PySem.W.Frag} {p : List (List Addr)} {G H : Hp} {s : Option DV} {v : Option V} {l' : List Addr} (hs : SlotR K p G H s v l') : ∀ {t : DSt} {σ : L2.St} {ow : List Addr} (i : Nat), i < t.length → SlotsR K p G H t σ ow →
    ∃ a l b, ow = a ++ l ++ b ∧ SlotsR K p G H (t.set i s) (σ.set i v) (a ++ l' ++ b)
  | _ :: _, _, _, 0, _, ⟨v0, r, l, k, h1, h2, h3, h4⟩ => by
    refine ⟨[], l, k, by rw [h2]; rfl, ?_⟩
    rw [h1]
    exact ⟨v, r, l', k, rfl, rfl, hs, h4⟩
  | _ :: _, _, _, i + 1, hi, ⟨v0, r, l, k, h1, h2, h3, h4⟩ => by
    obtain ⟨a, x, b, e, q⟩ := SlotsR.set hs i (by simpa using hi) h4
    refine ⟨l ++ a, x, b, by rw [h2, e]; simp, ?_⟩
    rw [h1]
    refine ⟨v0, _, l, a ++ l' ++ b, rfl, by simp, h3, q⟩
theorem nodup_mid {α : Type} {P a l b : List α} (h : (P ++ (a ++ l ++ b)).Nodup) : (P ++ (a ++ [] ++ b)).Nodup := by
  have : (P ++ (a ++ [] ++ b)).Sublist (P ++ (a ++ l ++ b)) := by
    refine List.Sublist.append (List.Sublist.refl _) (List.Sublist.append (List.Sublist.append (List.Sublist.refl _) (List.nil_sublist _)) (List.Sublist.refl _))
  exact h.sublist this
theorem RelS.set0 {K : PySem.W.Frag} {p : List (List Addr)} {G H : Hp} {S : Sto} {t : DSt} {σ : L2.St} {ow : List Addr} {s : Option DV} {v : Option V} (r : RelS K p G S H t σ ow) {i : Nat} (hi : i < t.length) (hs : SlotR K p G H s v []) :
    ∃ ow', (∀ a ∈ ow', a ∈ ow) ∧ RelS K p G S H (t.set i s) (σ.set i v) ow' := by
  obtain ⟨a, l, b, e, q⟩ := SlotsR.set hs i hi r.sl
  subst e
  refine ⟨a ++ [] ++ b, fun x hx => ?_, r.rel, q, nodup_mid r.nd, fun x hx => r.gn x ?_⟩
  · simp at hx ⊢; rcases hx with z | z <;> simp [z]
  · simp at hx ⊢; rcases hx with z | z <;> simp [z]
theorem RelF.set0 {K : PySem.W.Frag} {n : Snap} {p : List (List Addr)} {G H : Hp} {S : Sto} {t : DSt} {σ : L2.St} {ow : List Addr} {s : Option DV} {v : Option V} (r : RelF K n p G S H t σ ow) {i : Nat} (hi : i < t.length) (hs : SlotR K p G H s v []) :
    ∃ ow', RelF K n p G S H (t.set i s) (σ.set i v) ow' := by
  obtain ⟨ow', k, q⟩ := r.rs.set0 hi hs
  exact ⟨ow', q, r.ext, fun a ha => r.own a (k a ha), r.fp, r.fg⟩
def setV (t : DSt) (i : Nat) (d : D) : Option DSt := if i < t.length then some (t.set i (some (.val d))) else none
def liftO {α : Type} : Option α → M α
  | some x => pure x
  | none => stuck
def gD (K : PySem.W.Frag) (W : Wf) (g : D → DSt → Option DSt) : TG := fun v σ H Q => ∃ n d t p G S ow, RelF K n p G S H t σ ow ∧ Den K p G d v ∧ ∃ t', g d t = some t' ∧ ∀ p' G' H' σ' ow', RelF K n p' G' S H' t' σ' ow' → Q σ' H'
abbrev DG (X : Cx) (W : Wf) (tg : Expr) (g : D → DSt → Option DSt) : Prop := PG X tg (gD X.K W g)
theorem PG.imp {X : Cx} {e : Expr} {t t' : TG} (h : PG X e t) (k : ∀ v σ H Q, t' v σ H Q → t v σ H Q) : PG X e t' := ⟨fun pins s σ H v u Q I r q => h.run pins s σ H v u Q I r (k _ _ _ _ q)⟩
theorem ds_set (i : Nat) {x : Str} {pos' : Pos} (hN : X.N.Nodup) (hi : X.N[i]? = some x) (hx : Loc X.env.scope x) (he : DE X W.x e ma) (hs : swapsWith e (some (.Name x pos')) pos.line X.env = pure false := by rfl) (hf : X.fn x = true ∨ X.env.scope.names.lookup x = some .local := by first | exact .inl rfl | exact .inr rfl | assumption) :
    DS X W (.Assign [.Name x pos'] e pos) (fun t => do let d ← ma t; let t' ← liftO (setV t i d); pure (.nx t')) := by
  refine PS.imp (L2.ps_set hN hi hx he hs hf) fun E σ H ⟨n, t, p, G, S, ow, r, h⟩ => ?_
  refine ⟨t, p, G, S, ow, r.rs, okS.seq h r fun d S1 v p1 G1 H1 e1 dn r1 x1 h1 => ?_⟩
  unfold setV at h1
  by_cases hi : i < t.length
  · rw [if_pos hi] at h1
    obtain ⟨ow', r'⟩ := r1.set0 hi (s := some (.val d)) (v := some v) ⟨rfl, v, rfl, dn⟩
    exact h1 p1 G1 H1 _ ow' r'
  · rw [if_neg hi] at h1
    exact h1.elim
end
def startD (n : Nat) (ds : List D) : DSt := ds.map (fun d => some (.val d)) ++ List.replicate (n - ds.length) none
def endC : Ctl → M D
  | .nx _ => pure .non
  | .rt d => pure d
  | _ => stuck
def runB (n : Nat) (m : DSt → M Ctl) (ds : List D) : M D := do let c ← m (startD n ds); endC c
def spD (K : PySem.W.Frag) (k : Nat) (f : List D → M D) : Sp := fun vs H Q E => ∃ ds p G S, ds.length = k ∧ DenL K p G ds vs ∧ Rel0 K p S G H ∧ okR (Den K) K p G H E (f ds S) Q
theorem spD.len {K : PySem.W.Frag} {k : Nat} {f : List D → M D} (vs : List V) (H : Hp) (Q : VK) (E : XK) (h : spD K k f vs H Q E) : vs.length = k := by
  obtain ⟨ds, p, G, S, e, dn, _⟩ := h
  rw [dn.length, e]
theorem slots_rep {K : PySem.W.Frag} {p : List (List Addr)} {G H : Hp} : ∀ k : Nat, SlotsR K p G H (List.replicate k none) (List.replicate k none) []
  | 0 => ⟨rfl, rfl⟩
  | k + 1 => ⟨none, List.replicate k none, [], [], rfl, rfl, rfl, slots_rep k⟩
theorem slots_start {K : PySem.W.Frag} {p : List (List Addr)} {G H : Hp} {k : Nat} : ∀ {ds : List D} {vs : List V}, DenL K p G ds vs → SlotsR K p G H (ds.map (fun d => some (.val d)) ++ List.replicate k none) (vs.map some ++ List.replicate k none) []
  | [], _, h => by
    cases (show _ = [] from h)
    exact slots_rep k
  | d :: ds, _, ⟨v, r, h1, h2, h3⟩ => by
    subst h1
    exact ⟨some v, _, [], [], rfl, rfl, ⟨rfl, v, rfl, h2⟩, slots_start h3⟩
section
variable {P : Program} {w : World} {K : PySem.W.Frag} {mg : Str → Option Value} {base : Heap} {x qual : Str} {params : Arguments} {body : List Stmt} {scope : Scope} {dvs : List V} {kws : List (Str × V)} {f : Addr} {fd : FuncData}
theorem tDS.enter {K : PySem.W.Frag} {N : List Str} {m : DSt → M Ctl} {ds : List D} {vs : List V} {p : List (List Addr)} {G H : Hp} {S : Sto} {Q : VK} {E : XK} (dn : DenL K p G ds vs) (r : Rel0 K p S G H) (h : okR (Den K) K p G H E (runB N.length m ds S) Q) :
    tDS K E m { nx := fun _ H' => Q .non H', rt := Q } (L2.start N vs) H := by
  refine ⟨⟨p, G, H, p, G⟩, startD N.length ds, p, G, S, [], ⟨⟨r, ?_, by simpa using r.nd, by simp⟩, Ext.refl _ _ _, by simp, ⟨[], by simp⟩, Same.refl _⟩, ?_⟩
  · unfold L2.start startD
    rw [← dn.length]
    exact slots_start dn
  · have h' : okR (Den K) K p G H E (((m (startD N.length ds)) S).andThen endC) Q := h
    cases e : m (startD N.length ds) S with
    | ok c S' =>
      rw [e] at h'
      cases c with
      | nx t => exact fun p' G' H' σ' ow' r' => h' .non p' G' H' rfl r'.rs.rel r'.ext
      | rt d => exact fun v p' G' H' a b c => h' v p' G' H' a b c
      | bk t => exact h'.elim
      | ct t => exact h'.elim
      | rl xs => exact h'.elim
    | exc z S' =>
      rw [e] at h'
      exact h'
    | stuck =>
      rw [e] at h'
      exact h'
end
end RM

namespace RM
open PySem PySem.Spec PyProof.Rows L2
variable [PgW]

abbrev W0 : WX := fun _ _ _ _ => False
abbrev F0 : Wf := fun _ _ _ => False
def noE {α : Type} (m : M α) : M α := fun s => match m s with
  | .exc _ _ => .stuck
  | r => r
def argsD (n : Nat) (g : List D → M D) (xs : List D) : M D := if xs.length = n then g xs else stuck
section
variable {X : Cx} {W : WX} {a b c : Expr} {es : List Expr} {ma mb mc : DSt → M D} {ms : DSt → M (List D)} {pos p : Pos} {k : Nat} {f : Addr} {fd : FuncData} {ps : List Str} {g : List D → M D} {x : Str} {dvs : List V} {ds : List Value} {dds : List D}
theorem okR.args {K : PySem.W.Frag} {q : List (List Addr)} {G H : Hp} {S : Sto} {Q : VK} {xs : List D} {n : Nat} {W : Value → Option Addr → Hp → Prop} (h : okR (Den K) K q G H W (argsD n g xs S) Q) : xs.length = n ∧ okR (Den K) K q G H W (g xs S) Q := by
  unfold argsD at h
  by_cases e : xs.length = n
  · rw [if_pos e] at h
    exact ⟨e, h⟩
  · rw [if_neg e] at h
    exact h.elim
end

structure ItOk (K : PySem.W.Frag) (p : List (List Addr)) (G : Hp) (ds : List D) (J : It) : Prop where
  go : ∀ i H, Same G H → i < ds.length → J.go i H
  stop : ∀ H, Same G H → J.stop ds.length H
  yld : ∀ (i : Nat) (d : D) (H : Hp) (x : V) (H' : Hp), ds[i]? = some d → Same G H → J.yld i H x H' → (H' = H ∧ Den K p G d x) ∨ (∃ T vs es, x = .ref T ∧ H T = none ∧ H' = upd H T (.tup vs) ∧ d = .tup es ∧ DenL K p G es vs)
def tDI (K : PySem.W.Frag) (W : WX) (m : DSt → M (List D)) : TI := fun σ H R => ∃ t p G S ow, RelS K p G S H t σ ow ∧ okR (ItOk K) K p G H (fun c d H' => W c d σ H') (m t S) R
abbrev DI (X : Cx) (W : WX) (tg e : Expr) (m : DSt → M (List D)) : Prop := PI X tg e (tDI X.K W m)
theorem PI.imp {X : Cx} {tg e : Expr} {t t' : TI} (h : PI X tg e t) (k : ∀ σ H Q, t' σ H Q → t σ H Q) : PI X tg e t' := ⟨fun pins s σ H Q I q => h.run pins s σ H Q I (k _ _ _ q)⟩
theorem PI.or {X : Cx} {tg e : Expr} {t t' : TI} (h : PI X tg e t) (h' : PI X tg e t') : PI X tg e (fun σ H Q => t σ H Q ∨ t' σ H Q) := ⟨fun pins s σ H Q I q => by
  rcases q with q | q
  · exact h.run pins s σ H Q I q
  · exact h'.run pins s σ H Q I q⟩
def signs (x : Str) : List D := x.cps.toList.map fun c => .str ⟨#[c]⟩
def iterD : D → M (List D)
  | .lst xs => pure xs
  | .tup xs => pure xs
  | .str x => pure (signs x)
  | .scr ns => pure (ns.map .int)
  | _ => stuck
section
variable {K : PySem.W.Frag} {p : List (List Addr)} {G : Hp}
end
section
variable {X : Cx} {W : WX} {tg a b : Expr} {ma mb : DSt → M D} {ms : DSt → M (List D)} {pos pp : Pos}
def rangeL (lo hi : Int) : List D := (List.range (hi - lo).toNat).map fun i => .int (lo + (i : Nat))
def rangeD : List D → M (List D)
  | [.int j] => if -(2 ^ 62) ≤ j ∧ j < 2 ^ 62 then pure (rangeL 0 j) else stuck
  | [.int i, .int j] => if -(2 ^ 62) ≤ i ∧ i < 2 ^ 62 ∧ -(2 ^ 62) ≤ j ∧ j < 2 ^ 62 then pure (rangeL i j) else stuck
  | _ => stuck
theorem itok_range {K : PySem.W.Frag} {p : List (List Addr)} {G : Hp} (lo hi : Int) : ItOk K p G (rangeL lo hi) (Itr lo (hi - lo).toNat) where
  go := fun i H s h => by
    unfold rangeL at h
    rw [List.length_map, List.length_range] at h
    exact h
  stop := fun H s => by
    unfold rangeL
    rw [List.length_map, List.length_range]
    exact Nat.le_refl _
  yld := fun i d H v H' e s y => by
    obtain ⟨rfl, y⟩ := y
    refine .inl ⟨rfl, ?_⟩
    unfold rangeL at e
    rw [List.getElem?_map] at e
    obtain ⟨j, e1, e2⟩ := Option.map_eq_some_iff.mp e
    obtain ⟨hl, hj⟩ := List.getElem?_eq_some_iff.mp e1
    rw [List.getElem_range] at hj
    subst e2
    subst y
    rw [← hj]
    rfl
theorem denL1 {K : PySem.W.Frag} {p : List (List Addr)} {G : Hp} {d : D} {vs : List V} (h : DenL K p G [d] vs) : ∃ v, vs = [v] ∧ Den K p G d v := by
  obtain ⟨v, r, h1, h2, h3⟩ := h
  cases (show r = [] from h3)
  exact ⟨v, h1, h2⟩
theorem denL2 {K : PySem.W.Frag} {p : List (List Addr)} {G : Hp} {d e : D} {vs : List V} (h : DenL K p G [d, e] vs) : ∃ v u, vs = [v, u] ∧ Den K p G d v ∧ Den K p G e u := by
  obtain ⟨v, r, h1, h2, h3⟩ := h
  obtain ⟨u, rfl, h4⟩ := denL1 h3
  exact ⟨v, u, h1, h2, h4⟩
theorem rangeD_ok {K : PySem.W.Frag} {p : List (List Addr)} {G H : Hp} {S : Sto} {W : Value → Option Addr → Hp → Prop} {R : It → Hp → Prop} {ds : List D} {vs : List V} (dn : DenL K p G ds vs) (r : Rel0 K p S G H) (h : okR (ItOk K) K p G H W (rangeD ds S) R) :
    (∃ j : Int, vs = [.int j] ∧ -(2 ^ 62) ≤ j ∧ j < 2 ^ 62 ∧ R (Itr 0 j.toNat) H) ∨ (∃ i j : Int, vs = [.int i, .int j] ∧ (-(2 ^ 62) ≤ i ∧ i < 2 ^ 62 ∧ -(2 ^ 62) ≤ j ∧ j < 2 ^ 62) ∧ R (Itr i (j - i).toNat) H) := by
  unfold rangeD at h
  split at h
  · rename_i j
    obtain ⟨v, rfl, e⟩ := denL1 dn
    cases (show v = _ from e)
    by_cases hz : -(2 ^ 62) ≤ j ∧ j < 2 ^ 62
    · rw [if_pos hz] at h
      have q := okR.fin (v := Itr 0 (j - 0).toNat) h (itok_range 0 j) r
      rw [Int.sub_zero] at q
      exact .inl ⟨j, rfl, hz.1, hz.2, q⟩
    · rw [if_neg hz] at h
      exact h.elim
  · rename_i i j
    obtain ⟨v, u, rfl, e1, e2⟩ := denL2 dn
    cases (show v = _ from e1)
    cases (show u = _ from e2)
    by_cases hz : -(2 ^ 62) ≤ i ∧ i < 2 ^ 62 ∧ -(2 ^ 62) ≤ j ∧ j < 2 ^ 62
    · rw [if_pos hz] at h
      exact .inr ⟨i, j, rfl, hz, okR.fin (v := Itr i (j - i).toNat) h (itok_range i j) r⟩
    · rw [if_neg hz] at h
      exact h.elim
  · exact h.elim
theorem di_range1 (hg : Gl X "range") (hm : X.mg "range" = none) (ha : DE X W a ma) (hs : starEach [a] X.env = [(false, eval a X.env)] := by rfl) : DI X W tg (.Call (.Name "range" pp) [a] [] pos) (fun t => do let x ← ma t; rangeD [x]) := by
  refine PI.imp (pi_range1 hg hm (pa_cons ha pa_nil hs) hs) fun σ H R ⟨t, p, G, S, ow, r, h⟩ => ?_
  refine ⟨t, p, G, S, ow, r, okR.seq h fun d S1 v p1 G1 H1 e1 dn r1 x1 h1 => ?_⟩
  rcases rangeD_ok (DenL.one dn) r1 h1 with q | ⟨i, j, e, _⟩
  · exact q
  · cases e
end

section
variable {X : Cx} {W : Wf} {tg it : Expr} {mi : DSt → M (List D)} {g : D → DSt → Option DSt} {mb : DSt → M Ctl} {body : List Stmt} {pos : Pos}
theorem RelF.frozen {K : PySem.W.Frag} {n : Snap} {p : List (List Addr)} {G H : Hp} {S : Sto} {t : DSt} {σ : L2.St} {ow : List Addr} (r : RelF K n p G S H t σ ow) : RelF K ⟨n.p, n.G, n.H, p, G⟩ p G S H t σ ow := ⟨r.rs, r.ext, r.own, ⟨[], by simp⟩, Same.refl _⟩
theorem RelF.thaw {K : PySem.W.Frag} {n : Snap} {p p' : List (List Addr)} {G H G' H' : Hp} {S S' : Sto} {t t' : DSt} {σ σ' : L2.St} {ow ow' : List Addr} (r : RelF K n p G S H t σ ow) (r' : RelF K ⟨n.p, n.G, n.H, p, G⟩ p' G' S' H' t' σ' ow') : RelF K n p' G' S' H' t' σ' ow' := by
  obtain ⟨q, e⟩ := r.fp
  obtain ⟨q', e'⟩ := r'.fp
  refine ⟨r'.rs, r'.ext, r'.own, ⟨q ++ q', ?_⟩, r.fg.trans r'.fg⟩
  have e2 : p' = p ++ q' := e'
  rw [e2, e, List.append_assoc]
theorem RelF.pair {K : PySem.W.Frag} {n : Snap} {p : List (List Addr)} {G H : Hp} {S : Sto} {t : DSt} {σ : L2.St} {ow : List Addr} (r : RelF K n p G S H t σ ow) {T : Addr} (vs : List V) (hT : H T = none) : RelF K n p (upd G T (.tup vs)) S (upd H T (.tup vs)) t σ ow :=
  r.step (r.rs.rel.new _ hT).2 (r.rs.rel.new _ hT).1
end
end RM

namespace RM
open PySem PySem.Spec PyProof.Rows L2
variable [PgW]

inductive Tgt where
  | nm (i : Nat) | tp (is : List Nat)
def Tgt.slots : Tgt → List Nat
  | .nm i => [i]
  | .tp is => is
def gNs : List Nat → TGs
  | [] => gNil
  | i :: is => gCons (gName i) (gNs is)
def Tgt.tg (K : PySem.W.Frag) : Tgt → TG
  | .nm i => gName i
  | .tp is => gTup K is.length (gNs is)
def setVs : DSt → List Nat → List D → Option DSt
  | t, [], [] => some t
  | t, i :: is, d :: ds => (setV t i d).bind fun t' => setVs t' is ds
  | _, _, _ => none
def Tgt.set : Tgt → D → DSt → Option DSt
  | .nm i, d, t => setV t i d
  | .tp is, .tup es, t => setVs t is es
  | .tp _, _, _ => none
theorem wipe_comm {σ : L2.St} {i : Nat} {x : Option V} : ∀ {vs : List Nat}, i ∉ vs → wipe (σ.set i x) vs = (wipe σ vs).set i x
  | [], _ => rfl
  | v :: vs, h => by
    simp only [List.mem_cons, not_or] at h
    unfold wipe
    rw [wipe_comm h.2, List.set_comm _ _ (by exact h.1)]
theorem wipe_set {σ : L2.St} {i : Nat} {x : Option V} : ∀ {vs : List Nat}, i ∈ vs → wipe (σ.set i x) vs = wipe σ vs
  | [], h => by cases h
  | v :: vs, h => by
    unfold wipe
    by_cases hv : i ∈ vs
    · rw [wipe_set hv]
    · have e : i = v := by
        rcases List.mem_cons.mp h with z | z
        · exact z
        · exact absurd z hv
      subst e
      rw [wipe_comm hv, List.set_set]
theorem wipe_idem {σ : L2.St} : ∀ {vs : List Nat}, wipe (wipe σ vs) vs = wipe σ vs := by
  have key : ∀ (ws vs : List Nat) (σ : L2.St), (∀ i ∈ ws, i ∈ vs) → wipe (wipe σ ws) vs = wipe σ vs := by
    intro ws
    induction ws with
    | nil => intro vs σ _; rfl
    | cons w ws ih =>
      intro vs σ h
      show wipe ((wipe σ ws).set w none) vs = _
      rw [wipe_set (h w (by simp)), ih vs σ fun i hi => h i (by simp [hi])]
  intro vs
  exact key vs vs σ fun _ h => h
def wipeD (t : DSt) : List Nat → DSt
  | [] => t
  | v :: vs => (wipeD t vs).set v none
section
variable {K : PySem.W.Frag} {p : List (List Addr)} {G H : Hp} {S : Sto}
theorem RelS.wipe {t : DSt} {σ : L2.St} {ow : List Addr} (r : RelS K p G S H t σ ow) : ∀ vs : List Nat, ∃ ow', (∀ a ∈ ow', a ∈ ow) ∧ RelS K p G S H (wipeD t vs) (L2.wipe σ vs) ow'
  | [] => ⟨ow, fun _ h => h, r⟩
  | v :: vs => by
    obtain ⟨ow1, k1, r1⟩ := RelS.wipe r vs
    show ∃ ow', _ ∧ RelS K p G S H ((wipeD t vs).set v none) ((L2.wipe σ vs).set v none) ow'
    by_cases hv : v < (wipeD t vs).length
    · obtain ⟨ow2, k2, r2⟩ := r1.set0 hv (s := none) (v := none) rfl
      exact ⟨ow2, fun a ha => k1 a (k2 a ha), r2⟩
    · have e1 : (wipeD t vs).set v none = wipeD t vs := List.set_eq_of_length_le (by omega)
      have e2 : (L2.wipe σ vs).set v none = L2.wipe σ vs := List.set_eq_of_length_le (by rw [r1.sl.len]; omega)
      rw [e1, e2]
      exact ⟨ow1, k1, r1⟩
theorem setV_ok {t t' : DSt} {σ : L2.St} {ow : List Addr} {i : Nat} {d : D} {v : V} (r : RelS K p G S H t σ ow) (dn : Den K p G d v) (e : setV t i d = some t') : ∃ ow', (∀ a ∈ ow', a ∈ ow) ∧ RelS K p G S H t' (σ.set i (some v)) ow' := by
  unfold setV at e
  by_cases hi : i < t.length
  · rw [if_pos hi] at e
    cases e
    exact r.set0 hi (s := some (.val d)) (v := some v) ⟨rfl, v, rfl, dn⟩
  · rw [if_neg hi] at e
    cases e
theorem gNs_ok {Q : L2.St → Hp → Prop} : ∀ {is : List Nat} {ds : List D} {vs : List V} {t t' : DSt} {σ : L2.St} {ow : List Addr}, RelS K p G S H t σ ow → DenL K p G ds vs → setVs t is ds = some t' →
    (∀ σ' ow', (∀ a ∈ ow', a ∈ ow) → RelS K p G S H t' σ' ow' → (∀ ws, (∀ i ∈ is, i ∈ ws) → L2.wipe σ' ws = L2.wipe σ ws) → Q σ' H) → gNs is vs σ H Q
  | [], [], vs, t, t', σ, ow, r, dn, e, k => by
    cases (show vs = [] from dn)
    cases e
    exact ⟨rfl, k σ ow (fun _ h => h) r fun _ _ => rfl⟩
  | [], _ :: _, _, _, _, _, _, _, _, e, _ => by cases e
  | _ :: _, [], _, _, _, _, _, _, _, e, _ => by cases e
  | i :: is, d :: ds, vs, t, t', σ, ow, r, dn, e, k => by
    obtain ⟨v, vr, rfl, h2, h3⟩ := dn
    obtain ⟨t1, e1, e2⟩ := Option.bind_eq_some_iff.mp (show (setV t i d).bind (fun t' => setVs t' is ds) = some t' from e)
    obtain ⟨ow1, k1, r1⟩ := setV_ok r h2 e1
    refine ⟨v, vr, rfl, ?_⟩
    show gNs is vr (σ.set i (some v)) H Q
    refine gNs_ok r1 h3 e2 fun σ' ow' k2 r2 hw => k σ' ow' (fun a ha => k1 a (k2 a ha)) r2 fun ws hs => ?_
    rw [hw ws fun j hj => hs j (by simp [hj]), wipe_set (hs i (by simp))]
theorem setVs_len : ∀ {is : List Nat} {ds : List D} {t t' : DSt}, setVs t is ds = some t' → ds.length = is.length
  | [], [], _, _, _ => rfl
  | [], _ :: _, _, _, e => by cases e
  | _ :: _, [], _, _, e => by cases e
  | i :: is, d :: ds, t, t', e => by
    obtain ⟨t1, e1, e2⟩ := Option.bind_eq_some_iff.mp (show (setV t i d).bind (fun t' => setVs t' is ds) = some t' from e)
    rw [List.length_cons, List.length_cons, setVs_len e2]
theorem Tgt.ok {Q : L2.St → Hp → Prop} {T : Tgt} {d : D} {v : V} {t t' : DSt} {σ : L2.St} {ow : List Addr} (r : RelS K p G S H t σ ow) (dn : Den K p G d v) (e : T.set d t = some t')
    (k : ∀ σ' ow', (∀ a ∈ ow', a ∈ ow) → RelS K p G S H t' σ' ow' → (∀ ws, (∀ i ∈ T.slots, i ∈ ws) → L2.wipe σ' ws = L2.wipe σ ws) → Q σ' H) : T.tg K v σ H Q := by
  cases T with
  | nm i =>
    obtain ⟨ow', k1, r1⟩ := setV_ok r dn e
    exact k _ ow' k1 r1 fun ws hs => wipe_set (hs i (by simp [Tgt.slots]))
  | tp is =>
    cases d with
    | tup es =>
      obtain ⟨a, vs, rfl, ha, hv⟩ := dn
      refine ⟨a, vs, rfl, SqT.mono r.rel.sub ha, by rw [hv.length]; exact setVs_len e, ?_⟩
      exact gNs_ok r hv e k
    | _ => cases e
end
section
variable {X : Cx} {W : Wf} {tg : Expr} {pos : Pos}
theorem dg_tgt {T : Tgt} (h : PG X tg (T.tg X.K)) : DG X W tg T.set := by
  refine PG.imp h fun v σ H Q ⟨n, d, t, p, G, S, ow, r, dn, t', e, h⟩ => ?_
  exact Tgt.ok r.rs dn e fun σ' ow' k r' _ => h p G H σ' ow' ⟨r', r.ext, fun a ha => r.own a (k a ha), r.fp, r.fg⟩
theorem okR.noE {α β : Type} {R : List (List Addr) → Hp → α → β → Prop} {K : PySem.W.Frag} {p : List (List Addr)} {G H : Hp} {W W' : Value → Option Addr → Hp → Prop} {m : M α} {S : Sto} {Q : β → Hp → Prop} (h : okR R K p G H W (RM.noE m S) Q) : okR R K p G H W' (m S) Q := by
  unfold RM.noE at h
  cases e : m S with
  | ok d S1 =>
    rw [e] at h
    exact h
  | exc z S1 =>
    rw [e] at h
    exact h.elim
  | stuck =>
    rw [e] at h
    exact h
def okF (K : PySem.W.Frag) (p : List (List Addr)) (G H : Hp) (W : Value → Option Addr → Hp → Prop) (r : Res (List D)) (Q : VK) : Prop := match r with
  | .ok xs S' => ∀ a vs p' G' H', H a = none → H' a = some (.lst vs) → DenL K p' G' xs vs → G' a = none → a ∉ p'.flatten → Rel0 K p' S' G' H' → Ext p G H p' G' H' → Q (.ref a) H'
  | .exc e S' => ∀ cls dd p' G' H', ExcAt K p' G' e cls dd → Rel0 K p' S' G' H' → Ext p G H p' G' H' → W cls dd H'
  | .stuck => False
theorem okF.ext {K : PySem.W.Frag} {p p1 : List (List Addr)} {G H G1 H1 : Hp} {W : Value → Option Addr → Hp → Prop} {r : Res (List D)} {Q : VK} (h : okF K p G H W r Q) (e : Ext p G H p1 G1 H1) : okF K p1 G1 H1 W r Q := by
  cases r with
  | ok d S' =>
    refine fun a vs p' G' H' h0 a1 a2 a3 a4 b c => h a vs p' G' H' ?_ a1 a2 a3 a4 b (e.trans c)
    cases q : H a with
    | none => rfl
    | some o => exact absurd h0 (e.d a (by rw [q]; simp))
  | exc x S' => exact fun cls dd p' G' H' a b c => h cls dd p' G' H' a b (e.trans c)
  | stuck => exact h
theorem okF.seq {α β : Type} {R1 : List (List Addr) → Hp → α → β → Prop} {K : PySem.W.Frag} {p : List (List Addr)} {G H : Hp} {W : Value → Option Addr → Hp → Prop} {Q : VK} {S : Sto} {m : M α} {f : α → M (List D)} {Q1 : β → Hp → Prop} (h : okF K p G H W ((m >>= f) S) Q)
    (k : ∀ d S1 v p1 G1 H1, m S = .ok d S1 → R1 p1 G1 d v → Rel0 K p1 S1 G1 H1 → Ext p G H p1 G1 H1 → okF K p1 G1 H1 W (f d S1) Q → Q1 v H1) : okR R1 K p G H W (m S) Q1 := by
  have h' : okF K p G H W ((m S).andThen f) Q := h
  cases e : m S with
  | ok d S1 =>
    rw [e] at h'
    exact fun v p1 G1 H1 a b c => k d S1 v p1 G1 H1 e a b c (okF.ext h' c)
  | exc x S1 =>
    rw [e] at h'
    exact h'
  | stuck =>
    rw [e] at h'
    exact h'
theorem okR.toF {K : PySem.W.Frag} {p : List (List Addr)} {G H : Hp} {W : Value → Option Addr → Hp → Prop} {Q : VK} {S : Sto} {m : M (List D)} (h : okR (Den K) K p G H W ((do let xs ← m; pure (D.lst xs) : M D) S) Q) : okF K p G H W (m S) Q := by
  have h' : okR (Den K) K p G H W ((m S).andThen fun xs => pure (D.lst xs)) Q := h
  cases e : m S with
  | ok xs S1 =>
    rw [e] at h'
    intro a vs p' G' H' h0 h1 h2 h3 h4 r x
    refine h' (.ref a) p' (upd G' a (.lst vs)) H' ⟨a, vs, rfl, upd_same, h2.upd h3⟩ ⟨fun b o e => ?_, r.len, fun i as o e1 e2 => (r.mo i as o e1 e2).ice (Same.upd_of h3), r.nd, fun b hb => ?_⟩ ⟨x.g.trans (Same.upd_of h3), fun b hb1 hb2 => ?_, x.h, x.d, x.p⟩
    · by_cases q : b = a
      · subst q; rw [upd_same] at e; cases e; exact h1
      · rw [upd_ne q] at e; exact r.sub b o e
    · have : b ≠ a := by rintro rfl; exact h4 hb
      rw [upd_ne this]; exact r.gn b hb
    · have : b ≠ a := by rintro rfl; exact hb2 h0
      rw [upd_ne this]; exact x.gn b hb1 hb2
  | exc z S1 =>
    rw [e] at h'
    exact h'
  | stuck =>
    rw [e] at h'
    exact h'
def tDF (K : PySem.W.Frag) (W : WX) (m : DSt → M (List D)) : TE := fun σ H Q => ∃ t p G S ow, RelS K p G S H t σ ow ∧ okF K p G H (fun c d H' => W c d σ H') (m t S) Q
abbrev DF (X : Cx) (W : WX) (e : Expr) (m : DSt → M (List D)) : Prop := PE X e (tDF X.K W m)
theorem DF.de {V : WX} {e : Expr} {m : DSt → M (List D)} (h : DF X V e m) : DE X V e (fun t => do let xs ← m t; pure (.lst xs)) :=
  PE.imp h fun σ H Q ⟨t, p, G, S, ow, r, q⟩ => ⟨t, p, G, S, ow, r, okR.toF q⟩
theorem okF.noE {K : PySem.W.Frag} {p : List (List Addr)} {G H : Hp} {W W' : Value → Option Addr → Hp → Prop} {m : M (List D)} {S : Sto} {Q : VK} (h : okF K p G H W (RM.noE m S) Q) : okF K p G H W' (m S) Q := by
  unfold RM.noE at h
  cases e : m S with
  | ok d S1 =>
    rw [e] at h
    exact h
  | exc z S1 =>
    rw [e] at h
    exact h.elim
  | stuck =>
    rw [e] at h
    exact h
section
variable {V : WX} {elt iter : Expr} {ifs : List Expr} {scope : Scope} {own : List (Str × Nat)} {T : Tgt} {mi : DSt → M (List D)} {mt : DSt → M Bool} {me : DSt → M D}
end
end
end RM

namespace RM
open PySem PySem.Spec PyProof.Rows L2
variable [PgW]

structure FnG (P : Program) (w : World) (K : PySem.W.Frag) (mg : Str → Option Value) (base : Heap) (k : Nat) (f : Addr) (fd : FuncData) (ps : List Str) (sp : Sp) : Prop where
  arity : ∀ vs H Q E, sp vs H Q E → vs.length = ps.length
  go : ∀ (A : Around) (fr : List Env) (s : Shared) (H : Hp) (ar : Args) (us : List Value) (vs : List V) (Q : VK) (E : XK), A.guards = some [] → Room k A →
    Env0 P w K mg base A fr s H → BindsTo s fd ar (ps.zip us) → Vals vs us → sp vs H Q E → codeAny (model P w) A (.call (.ref f) ar) (CR (L2.CX P w) fr P w H s Q E) s
theorem FnG.up {P : Program} {w : World} {K : PySem.W.Frag} {mg : Str → Option Value} {base : Heap} {j k : Nat} {f : Addr} {fd : FuncData} {ps : List Str} {sp : Sp} (F : FnG P w K mg base j f fd ps sp) (h : j ≤ k) : FnG P w K mg base k f fd ps sp :=
  ⟨F.arity, fun A fr s H ar us vs Q E g r => F.go A fr s H ar us vs Q E g (r.mono h)⟩
section
variable {P : Program} {w : World} {K : PySem.W.Frag} {mg : Str → Option Value} {base : Heap} {x qual : Str} {params : Arguments} {body : List Stmt} {scope : Scope} {dvs : List V} {kws : List (Str × V)} {f : Addr} {fd : FuncData}
theorem fnG_of {N ps : List Str} {k : Nat} {sp : Sp} (F : FunD K x qual params body scope dvs kws f fd) (S : FnScope N ps scope) (ar : ∀ vs H Q E, sp vs H Q E → vs.length = ps.length)
    (hb : ∀ (cdv : Value) (A : Around) (fr : List Env) (s : Shared) (H : Hp) (vs : List V) (Q : VK) (E : XK), (A.deeper (envOfC qual scope s.heap.objs.size f cdv)).guards = some [] → Room k (A.deeper (envOfC qual scope s.heap.objs.size f cdv)) → sp vs H Q E →
      ∃ t, PSs (cxOf (L2.CX P w) P w K mg base N qual scope f cdv A fr s H E) body t ∧ t { nx := fun _ H' => Q .non H', rt := Q } (L2.start N vs) H) : FnG P w K mg base (k + 1) f fd ps sp := by
  obtain ⟨oc, od, dV, kV, doc, pm, an, cdv, ct, osl, rfl, lk, hcd, _, _⟩ := F.ex
  refine ⟨ar, fun A fr s H arg us vs Q E hG hr e0 bd r hsp => ?_⟩
  have kin : K.In s.heap := e0.mod.kin.keeps fun b o e => (e0.bs b o e).1
  have nol : s.heap.NoLimit := e0.mod.nolimit.keeps fun b o e => (e0.bs b o e).1
  have kinds : ∀ z ∈ ps.zip us, scope.names.lookup z.1 = some .local ∨ (scope.names.lookup z.1 = some .cell ∧ ((cellsFrom (s.heap.objs.size + 1) scope.names []).lookup z.1).isSome = true) := by
    intro ⟨n, v⟩ hz
    have hn := (List.of_mem_zip hz).1
    cases S.par n hn with
    | inl q => exact Or.inl q
    | inr q => exact Or.inr ⟨q, PySem.W.cellsFrom_some _ _ _ (.inl q)⟩
  refine codeAny_call_function hr.depth (kin _ _ lk) rfl S.co S.gen rfl (PySem.W.codeRec_of kin hcd) (bd _ _ _ _ ?_)
  refine wpAny_newFunctionEnv_cells S.kind kinds fun env henv s1 inc => ?_
  subst henv
  refine ⟨nol.keeps inc.toInCall.keep, codeAny_func ?_⟩
  obtain ⟨t, ht, hq⟩ := hb cdv A fr s H vs Q E hG (hr.deeper _) hsp
  have I0 := inv_start (CX := L2.CX P w) (E := E) S hr.hd e0 (ar _ _ _ _ hsp) r inc
  refine wpAny_mono (ht.run [] s1 _ H _ I0 hq) (fun fl s2 q => ?_) fun e s2 q => q
  match fl, q with
  | .ret u, ⟨v, σ2, H2, J, rv, q⟩ => exact ⟨v, H2, J.os, J.bare, J.base, J.hok, rv, q⟩
  | .next, ⟨σ2, H2, J, q⟩ => exact ⟨.non, H2, J.os, J.bare, J.base, J.hok, rfl, q⟩
  | .brk, ⟨_, _, _, q⟩ => exact False.elim q
  | .cont, ⟨_, _, _, q⟩ => exact False.elim q
abbrev FnD (P : Program) (w : World) (K : PySem.W.Frag) (mg : Str → Option Value) (base : Heap) (k : Nat) (f : Addr) (fd : FuncData) (ps : List Str) (g : List D → M D) : Prop := FnG P w K mg base k f fd ps (spD K ps.length g)
structure BodyX (X : Cx) (k : Nat) (W : Wf) : Prop where
  room : Room k X.A
  gd : X.A.guards = some []
  tk : Takes X W.x
  po : PassesOwn (model X.prog X.w) X.A X.env X.xe
  calm : X.calm = true
theorem fnD_of {N ps : List Str} {k : Nat} {m : DSt → M Ctl} {g : List D → M D} (F : FunD K x qual params body scope dvs kws f fd) (S : FnScope N ps scope)
    (hb : ∀ (cdv : Value) (A : Around) (fr : List Env) (s : Shared) (H : Hp) (E : XK), BodyX (cxOf (L2.CX P w) P w K mg base N qual scope f cdv A fr s H E) k E → DSs (cxOf (L2.CX P w) P w K mg base N qual scope f cdv A fr s H E) E body m)
    (hg : g = runB N.length m) : FnD P w K mg base (k + 1) f fd ps g := by
  refine fnG_of F S (fun vs H Q E h => spD.len vs H Q _ h) fun cdv A fr s H vs Q E hG hr h => ?_
  obtain ⟨ds, p, G, St, e, dn, r, h⟩ := h
  refine ⟨_, hb cdv A fr s H E ⟨hr, hG, takes_of rfl rfl rfl rfl, passes_of rfl, rfl⟩, ?_⟩
  rw [hg] at h
  exact tDS.enter dn r h
end
section
variable {X : Cx} {W : WX} {a b c : Expr} {es : List Expr} {kw : List Keyword} {ma mb mc : DSt → M D} {ms mk : DSt → M (List D)} {pos p : Pos} {k : Nat} {f : Addr} {fd : FuncData} {ps ks : List Str} {g : List D → M D} {x : Str} {dvs : List V} {ds : List Value} {dds : List D} {sp : Sp}
theorem run_G {pins : List (Addr × Obj)} {σ : L2.St} {H : Hp} {s : Shared} {Q : VK} {ar : Args} {us : List Value} {vs : List V} (F : FnG X.prog X.w X.K X.mg X.base k f fd ps sp) (hr : Room k X.A) (hG : X.A.guards = some []) (tk : Takes X W)
    (I : Inv X pins σ H s) (bd : BindsTo s fd ar (ps.zip us)) (r : Vals vs us) (h : sp vs H Q fun c d H' => W c d σ H') : codeAny (model X.prog X.w) X.A (.call (.ref f) ar) (fun r s' => match r with
      | .ok (.ret u) => EP X pins σ Q u s'
      | .ok _ => False
      | .error e => X.xe e s') s := by
  refine codeAny_mono (F.go X.A X.stack s H ar us vs Q _ hG hr I.env0 bd r h) fun r s2 q => ?_
  match r, q with
  | .error e, q => exact tk e s2 (XE.of_call I (fun _ _ _ z => z) q)
  | .ok (.ret u), q => exact I.after q
  | .ok .next, q => exact False.elim q
  | .ok .brk, q => exact False.elim q
  | .ok .cont, q => exact False.elim q
theorem call_G {pins : List (Addr × Obj)} {σ : L2.St} {H : Hp} {s : Shared} {Q : VK} {us : List Value} {kv : List (Str × Value)} {zs : List Value} {vs : List V} (F : FnG X.prog X.w X.K X.mg X.base k f fd ps sp) (hr : Room k X.A) (hG : X.A.guards = some []) (tk : Takes X W)
    (I : Inv X pins σ H s) (bd : BindsTo s fd ⟨us, kv⟩ (ps.zip zs)) (r : Vals vs zs) (h : sp vs H Q fun c d H' => W c d σ H') : wpAny (model X.prog X.w) X.A (call (.ref f) us kv) (EP X pins σ Q) X.xe s := by
  refine wpAny_call (codeAny_mono (run_G F hr hG tk I bd r h) fun r s2 q => ?_)
  match r, q with
  | .error e, q => exact q
  | .ok (.ret u), q => exact q
  | .ok .next, q => exact False.elim q
  | .ok .brk, q => exact False.elim q
  | .ok .cont, q => exact False.elim q
theorem de_call (F : FnD X.prog X.w X.K X.mg X.base k f fd ps g) (hr : Room k X.A) (hG : X.A.guards = some []) (tk : Takes X W) (hg : Gl X x) (hm : X.mg x = some (.ref f)) (hk : PySem.W.keepIn X.K (.ref f) = true) (hb : Binds X.K fd ps ds) (hd : Vals dvs ds) (hdd : ∀ q G, DenL X.K q G dds dvs)
    (ha : DA X W (a :: es) ms) (hdb : (x == ("__debug__" : Str)) = false := by decide) (he : starEach (a :: es) X.env = (false, eval a X.env) :: starEach es X.env := by rfl) (hpl : (backTo pos (starEach es X.env)).any (·.1) = false := by rfl) :
    DE X W (.Call (.Name x p) (a :: es) [] pos) (fun t => do let xs ← ms t; argsD ps.length g (xs ++ dds)) := by
  refine ⟨fun pins s σ H Q I ⟨t, q, G, S, ow, r, h⟩ => ?_⟩
  refine wpAny_Call_Name_kw (ld_glob I hg hm (PySem.W.callWith_K (h₀ := X.base) I.ok.mod.kin hk ?_ he hpl) hdb)
  refine thn (ha.run pos pins s σ H (fun vs H1 => spD X.K ps.length g (vs ++ dvs) H1 Q fun c d H' => W c d σ H') I ⟨t, q, G, S, ow, r, okR.seq h fun d S1 v p1 G1 H1 e1 dn r1 x1 h1 => ?_⟩) fun us s1 ⟨vs, H1, I1, rv, q1⟩ => ⟨I1.kIn, ?_⟩
  · obtain ⟨e, h2⟩ := okR.args h1
    exact ⟨d ++ dds, p1, G1, S1, e, dn.append (hdd p1 G1), r1, h2⟩
  · have r2 := rv.append hd
    exact call_G F hr hG tk I1 (hb s1 us I1.kIn (by rw [← r2.length]; exact F.arity _ _ _ _ q1)) r2 q1
theorem de_call0 (F : FnD X.prog X.w X.K X.mg X.base k f fd ps g) (hr : Room k X.A) (hG : X.A.guards = some []) (tk : Takes X W) (hg : Gl X x) (hm : X.mg x = some (.ref f)) (hk : PySem.W.keepIn X.K (.ref f) = true) (hb : Binds X.K fd ps ds) (hd : Vals dvs ds) (hdd : ∀ q G, DenL X.K q G dds dvs)
    (hdb : (x == ("__debug__" : Str)) = false := by decide) : DE X W (.Call (.Name x p) [] [] pos) (fun _ => argsD ps.length g dds) := by
  refine ⟨fun pins s σ H Q I ⟨t, q, G, S, ow, r, h⟩ => ?_⟩
  refine wpAny_Call_Name_kw (ld_glob I hg hm (PySem.W.callWith_K0 I.kIn hk ?_) hdb)
  obtain ⟨e, h2⟩ := okR.args h
  have q1 : spD X.K ps.length g dvs H Q fun c d H' => W c d σ H' := ⟨dds, q, G, S, e, hdd q G, r.rel, h2⟩
  exact call_G (us := []) F hr hG tk I (hb s [] I.kIn (by rw [List.nil_append, ← hd.length]; exact F.arity _ _ _ _ q1)) hd q1
abbrev DK (X : Cx) (W : WX) (kw : List Keyword) (m : DSt → M (List D)) : Prop := PK X kw (tDA X.K W m)
theorem PK.imp {t t' : TA} (h : PK X kw t) (k : ∀ σ H Q, t' σ H Q → t σ H Q) : PK X kw t' := ⟨fun pos pins s σ H Q I q => h.run pos pins s σ H Q I (k _ _ _ q)⟩
theorem dk_nil : DK X W [] (fun _ => pure []) := PK.imp pk_nil fun σ H Q ⟨t, p, G, S, ow, r, h⟩ => okR.fin (d := []) h DenL.nil r.rel
theorem dk_cons {nm : Option Str} {kpos : Pos} (ha : DE X W a ma) (hr : DK X W kw mk) : DK X W (⟨nm, a, kpos⟩ :: kw) (fun t => do let x ← ma t; let xs ← mk t; pure (x :: xs)) := by
  refine PK.imp (pk_cons ha hr) fun σ H Q ⟨t, p, G, S, ow, r, h⟩ => ?_
  refine ⟨t, p, G, S, ow, r, okR.seq h fun d S1 v p1 G1 H1 e1 dn r1 x1 h1 => ?_⟩
  refine tDA.next r x1 r1 (okR.seq h1 fun d2 S2 v2 p2 G2 H2 e2 dn2 r2 x2 h2 => ?_)
  exact okR.fin (d := d :: d2) h2 (DenL.cons (dn.mono x2.pp x2.g) dn2) r2
def argsK (n m l : Nat) (ar : {α : Type} → List α → List α → List α → List α) (dds : List D) (g : List D → M D) (xs ys : List D) : M D := if xs.length = n ∧ ys.length = m then argsD l g (ar xs ys dds) else stuck
theorem okR.argsK {K : PySem.W.Frag} {q : List (List Addr)} {G H : Hp} {S : Sto} {Q : VK} {xs ys : List D} {n m l : Nat} {ar : {α : Type} → List α → List α → List α → List α} {W : Value → Option Addr → Hp → Prop} (h : okR (Den K) K q G H W (argsK n m l ar dds g xs ys S) Q) :
    xs.length = n ∧ ys.length = m ∧ (ar xs ys dds).length = l ∧ okR (Den K) K q G H W (g (ar xs ys dds) S) Q := by
  unfold RM.argsK at h
  by_cases e : xs.length = n ∧ ys.length = m
  · rw [if_pos e] at h
    obtain ⟨e2, h2⟩ := okR.args h
    exact ⟨e.1, e.2, e2, h2⟩
  · rw [if_neg e] at h
    exact h.elim
variable {ar : {α : Type} → List α → List α → List α → List α} {n : Nat}
end
end RM

namespace RM
open PySem PySem.Spec PyProof.Rows L2
variable [PgW]

def toInts : List D → Option (List Int)
  | [] => some []
  | .int b :: r => (toInts r).map (b :: ·)
  | _ :: _ => none
def toStrs : List D → Option (List Str)
  | [] => some []
  | .str b :: r => (toStrs r).map (b :: ·)
  | _ :: _ => none
section
variable {K : PySem.W.Frag} {p : List (List Addr)} {G H : Hp}
theorem toInts_den : ∀ {ds : List D} {vs : List V} {bs : List Int}, DenL K p G ds vs → toInts ds = some bs → vs = bs.map V.int
  | [], _, _, h, e => by
    cases (show _ = [] from h); cases e; rfl
  | .int b :: r, _, _, ⟨v, w, h1, h2, h3⟩, e => by
    obtain ⟨cs, e1, e2⟩ := Option.map_eq_some_iff.mp (show (toInts r).map (b :: ·) = some _ from e)
    subst e2
    cases (show v = _ from h2)
    rw [h1, toInts_den h3 e1]
    rfl
  | .non :: _, _, _, _, e => by cases e
  | .bl _ :: _, _, _, _, e => by cases e
  | .str _ :: _, _, _, _, e => by cases e
  | .tup _ :: _, _, _, _, e => by cases e
  | .lst _ :: _, _, _, _, e => by cases e
  | .ins _ _ _ :: _, _, _, _, e => by cases e
  | .mref _ :: _, _, _, _, e => by cases e
  | .dic _ _ :: _, _, _, _, e => by cases e
  | .scr _ :: _, _, _, _, e => by cases e
  | .xcp _ _ _ :: _, _, _, _, e => by cases e
  | .dct _ _ :: _, _, _, _, e => by cases e
end
def lenD : List D → M D
  | [.lst xs] => pure (.int xs.length)
  | [.tup xs] => pure (.int xs.length)
  | [.str x] => if x.length ≤ sizeLine then pure (.int x.length) else stuck
  | [.scr ns] => pure (.int ns.length)
  | _ => stuck
def intD : List D → M D
  | [.int i] => pure (.int i)
  | _ => stuck
def leastI : Int → List Int → Int
  | a, [] => a
  | a, b :: r => leastI (if b < a then b else a) r
def mostI : Int → List Int → Int
  | a, [] => a
  | a, b :: r => mostI (if b > a then b else a) r
def minD : List D → M D
  | [.int i, .int j] => pure (.int (if j < i then j else i))
  | [.lst xs] => match toInts xs with
    | some (n :: ns) => pure (.int (leastI n ns))
    | _ => stuck
  | _ => stuck
def maxD : List D → M D
  | [.int i, .int j] => pure (.int (if j > i then j else i))
  | [.lst xs] => match toInts xs with
    | some (n :: ns) => pure (.int (mostI n ns))
    | _ => stuck
  | _ => stuck
def tupleD : List D → M D
  | [.lst xs] => pure (.tup xs)
  | [.tup xs] => pure (.tup xs)
  | _ => stuck
def listD : List D → M D
  | [.lst xs] => pure (.lst xs)
  | [.tup xs] => pure (.lst xs)
  | _ => stuck
theorem leastI_of {m : Int} : ∀ (ns : List Int) (n : Int), m ∈ n :: ns → (∀ y ∈ n :: ns, m ≤ y) → m = leastI n ns
  | [], n, h, _ => by
    rcases List.mem_cons.mp h with z | z
    · exact z
    · cases z
  | b :: r, n, h, k => by
    unfold leastI
    refine leastI_of r _ ?_ fun y hy => ?_
    · have h1 := k n (by simp)
      have h2 := k b (by simp)
      rcases List.mem_cons.mp h with z | z
      · by_cases q : b < n
        · omega
        · rw [if_neg q, z]; simp
      · rcases List.mem_cons.mp z with z | z
        · by_cases q : b < n
          · rw [if_pos q, z]; simp
          · rw [if_neg q]
            have : m = n := by omega
            rw [this]; simp
        · exact List.mem_cons_of_mem _ z
    · rcases List.mem_cons.mp hy with z | z
      · rw [z]
        split
        · exact k b (by simp)
        · exact k n (by simp)
      · exact k y (by simp [z])
section
variable {K : PySem.W.Frag}
theorem by_len : ByA K (fun xs H Q => ∃ x n, xs = [x] ∧ LenV K x H n ∧ Q (.int n) H) lenD := by
  intro ds vs p G H S W Q hd r h
  unfold lenD at h
  split at h
  · obtain ⟨v, rfl, a, us, rfl, ha, hv⟩ := denL1 hd
    exact ⟨_, _, rfl, .inl ⟨us, SqL.of (r.sub _ _ ha), rfl⟩, okR.fin (v := V.int us.length) h (by rw [hv.length]; rfl) r⟩
  · obtain ⟨v, rfl, a, us, rfl, ha, hv⟩ := denL1 hd
    exact ⟨_, _, rfl, .inr ⟨us, SqT.mono r.sub ha, rfl⟩, okR.fin (v := V.int us.length) h (by rw [hv.length]; rfl) r⟩
  · rename_i x
    obtain ⟨v, rfl, hv⟩ := denL1 hd
    cases (show v = _ from hv)
    by_cases hz : x.length ≤ sizeLine
    · rw [if_pos hz] at h
      exact ⟨_, _, rfl, ⟨hz, rfl⟩, okR.fin (v := V.int x.length) h rfl r⟩
    · rw [if_neg hz] at h
      exact h.elim
  · rename_i ns
    obtain ⟨v, rfl, a, rfl, ha⟩ := denL1 hd
    exact ⟨_, _, rfl, .inl ⟨_, r.sub.seq ha, rfl⟩, okR.fin (v := V.int _) h (by rw [List.length_map]; rfl) r⟩
  · exact h.elim
theorem by_int : ByA K (fun xs H Q => (∃ i, xs = [.int i] ∧ Q (.int i) H) ∨ ∃ k, xs = [.bl k] ∧ Q (.int (if k then 1 else 0)) H) intD := by
  intro ds vs p G H S W Q hd r h
  unfold intD at h
  split at h
  · rename_i i
    obtain ⟨v, rfl, hv⟩ := denL1 hd
    cases (show v = _ from hv)
    exact .inl ⟨i, rfl, okR.fin (v := V.int _) h rfl r⟩
  · exact h.elim
theorem by_min : ByA K (fun xs H Q => (∃ i j, xs = [.int i, .int j] ∧ Q (.int (if j < i then j else i)) H) ∨ rMin K xs H Q) minD := by
  intro ds vs p G H S W Q hd r h
  unfold minD at h
  split at h
  · rename_i i j
    obtain ⟨v, u, rfl, h1, h2⟩ := denL2 hd
    cases (show v = _ from h1)
    cases (show u = _ from h2)
    exact .inl ⟨i, j, rfl, okR.fin (v := V.int _) h rfl r⟩
  · rename_i xs
    obtain ⟨v, rfl, a, us, rfl, ha, hv⟩ := denL1 hd
    cases e : toInts xs with
    | none => rw [e] at h; exact h.elim
    | some ns =>
      rw [e] at h
      cases ns with
      | nil => exact h.elim
      | cons n ns =>
        rw [toInts_den hv e] at ha
        refine .inr ⟨a, n :: ns, rfl, SqL.of (r.sub _ _ ha), by simp, fun m h1 h2 => ?_⟩
        rw [leastI_of ns n h1 h2]
        exact okR.fin (v := V.int _) h rfl r
  · exact h.elim
end
section
variable {X : Cx} {W : WX} {a b : Expr} {es : List Expr} {ma mb : DSt → M D} {ms : DSt → M (List D)} {pos p : Pos}
theorem CallR.or {f : Value} {r r' : List V → Hp → VK → Prop} (h : CallR X f r) (h' : CallR X f r') : CallR X f (fun xs H Q => r xs H Q ∨ r' xs H Q) := by
  intro pins s σ H xs us Q I rv q
  rcases q with q | q
  · exact h pins s σ H xs us Q I rv q
  · exact h' pins s σ H xs us Q I rv q
theorem de_len (hg : Gl X "len") (hm : X.mg "len" = none) (ha : DA X W [a] ms) (he : starEach [a] X.env = [(false, eval a X.env)] := by rfl) : DE X W (.Call (.Name "len" p) [a] [] pos) (fun t => do let xs ← ms t; lenD xs) := de_callB call_len by_len hg hm boot_len ha (by decide) (by decide) he rfl
theorem de_int_ (hg : Gl X "int") (hm : X.mg "int" = none) (ha : DA X W [a] ms) (he : starEach [a] X.env = [(false, eval a X.env)] := by rfl) : DE X W (.Call (.Name "int" p) [a] [] pos) (fun t => do let xs ← ms t; intD xs) := de_callTy call_int1 by_int hg hm (by decide +kernel) ha (by decide) (by decide) he rfl
theorem de_min (hc : X.calm = true) (hg : Gl X "min") (hm : X.mg "min" = none) (ha : DA X W (a :: es) ms) (he : starEach (a :: es) X.env = (false, eval a X.env) :: starEach es X.env := by rfl) (hpl : (backTo pos (starEach es X.env)).any (·.1) = false := by rfl) : DE X W (.Call (.Name "min" p) (a :: es) [] pos) (fun t => do let xs ← ms t; minD xs) :=
  de_callB ((call_min2 hc).or (cr_min hc)) by_min hg hm (by decide +kernel) ha (by decide) (by decide) he hpl
end
def idxD : D → D → M D
  | .lst xs, .int i => match atI xs i with
    | some d => pure d
    | none => stuck
  | .tup xs, .int i => match atI xs i with
    | some d => pure d
    | none => stuck
  | .str z, .int i => if z.length ≤ sizeLine then match atI z.cps.toList i with
      | some c => pure (.str ⟨#[c]⟩)
      | none => stuck
    else stuck
  | _, _ => stuck
theorem atI_den {K : PySem.W.Frag} {p : List (List Addr)} {G : Hp} {ds : List D} {vs : List V} {i : Int} {d : D} (h : DenL K p G ds vs) (e : atI ds i = some d) : ∃ v, atI vs i = some v ∧ Den K p G d v := by
  unfold atI at e ⊢
  obtain ⟨j, e1, e2⟩ := Option.bind_eq_some_iff.mp e
  obtain ⟨v, e3, e4⟩ := h.get e2
  exact ⟨v, by rw [h.length, e1]; exact e3, e4⟩
theorem by_idx {K : PySem.W.Frag} : By2 K (rIx K) idxD := by
  intro d e v u p G H S W Q hd he r h
  cases d <;> cases e <;> try exact h.elim
  · rename_i z i
    unfold idxD at h
    dsimp only at h
    split at h
    · rename_i hz
      cases q : atI z.cps.toList i with
      | none => rw [q] at h; exact h.elim
      | some c =>
        rw [q] at h
        exact .inr (.inr ⟨z, i, c, hd, he, hz, q, okR.fin (v := V.str _) h rfl r⟩)
    · exact h.elim
  · rename_i xs i
    unfold idxD at h
    dsimp only at h
    cases q : atI xs i with
    | none => rw [q] at h; exact h.elim
    | some c =>
      rw [q] at h
      obtain ⟨a, vs, rfl, ha, hv⟩ := hd
      obtain ⟨w, e1, e2⟩ := atI_den hv q
      exact .inr (.inl ⟨a, vs, i, w, rfl, he, SqT.mono r.sub ha, e1, okR.fin h e2 r⟩)
  · rename_i xs i
    unfold idxD at h
    dsimp only at h
    cases q : atI xs i with
    | none => rw [q] at h; exact h.elim
    | some c =>
      rw [q] at h
      obtain ⟨a, vs, rfl, ha, hv⟩ := hd
      obtain ⟨w, e1, e2⟩ := atI_den hv q
      exact .inl ⟨a, vs, i, w, rfl, he, SqL.of (r.sub _ _ ha), e1, okR.fin h e2 r⟩
def cutL {α : Type} (xs : List α) (lo hi : Option Int) : List α := (xs.drop (HT.sIx xs.length 0 lo)).take (HT.sIx xs.length xs.length hi - HT.sIx xs.length 0 lo)
def sliceD : D → Option Int → Option Int → M D
  | .lst xs, lo, hi => pure (.lst (cutL xs lo hi))
  | .tup xs, lo, hi => pure (.tup (cutL xs lo hi))
  | .str z, lo, hi => if z.length ≤ sizeLine then pure (.str (cutS z lo hi)) else stuck
  | _, _, _ => stuck
def partD : D → M (Option Int)
  | .int i => pure (some i)
  | _ => stuck
section
variable {X : Cx} {W : WX} {a b e : Expr} {ma mb : DSt → M D} {ml mh : DSt → M (Option Int)} {lo hi : Option Expr} {pos p2 : Pos}
theorem PO.imp {e : Option Expr} {t t' : TO} (h : PO X e t) (k : ∀ σ H Q, t' σ H Q → t σ H Q) : PO X e t' := ⟨fun pins s σ H Q I q => h.run pins s σ H Q I (k _ _ _ q)⟩
theorem de_idx (ha : DE X W a ma) (hb : DE X W b mb) (hs : PlainIx b) : DE X W (.Subscript a b pos) (fun t => do let x ← ma t; let y ← mb t; idxD x y) := PE.imp (pe_ix ix_seq ha hb hs) fun _ _ _ h => tD2 by_idx h
end
def flatD : D → Bool
  | .non => true
  | .bl _ => true
  | .int _ => true
  | .str _ => true
  | _ => false
section
variable {K : PySem.W.Frag} {p : List (List Addr)} {G : Hp}
end
section
variable {X : Cx} {W : WX} {a b : Expr} {ma mb : DSt → M D} {pos : Pos}
end
def joinD : D → D → M D
  | .str a, .lst xs => match toStrs xs with
    | some ys => if (ys.map (·.length)).sum + ys.length * a.length ≤ 16777216 then pure (.str (Txt.join a ys)) else stuck
    | none => stuck
  | .str a, .tup xs => match toStrs xs with
    | some ys => if (ys.map (·.length)).sum + ys.length * a.length ≤ 16777216 then pure (.str (Txt.join a ys)) else stuck
    | none => stuck
  | _, _ => stuck
section
variable {X : Cx} {W : WX} {a b : Expr} {ma mb : DSt → M D} {pos apos : Pos}
def strD : D → M Str
  | .str a => pure a
  | _ => stuck
end
end RM

namespace RM
open PySem PySem.Spec PyProof.Rows L2
variable [PgW]

inductive Ty where
  | b (n : String) | o (c : Str)
  deriving DecidableEq
def builtinKinds : List String := ["NoneType", "bool", "int", "str", "tuple", "list", "dict"]
def askedTypes : List String := ["int", "bool", "str", "tuple", "list", "dict"]
def kindD : D → Option Ty
  | .non => some (.b "NoneType")
  | .bl _ => some (.b "bool")
  | .int _ => some (.b "int")
  | .str _ => some (.b "str")
  | .tup _ => some (.b "tuple")
  | .lst _ => some (.b "list")
  | .dic _ _ => some (.b "dict")
  | .ins c _ _ => some (.o c)
  | .mref _ => none
  | .scr _ => none
  | .xcp _ _ _ => none
  | .dct _ _ => none
def isKind : Ty → Ty → Bool
  | .b n, .b m => n == m || (n == "bool" && m == "int")
  | .o c, .o e => decide (c = e)
  | _, _ => false
def tyOk (cs : List Str) : Ty → Bool
  | .b n => decide (n ∈ askedTypes)
  | .o c => decide (c ∈ cs)
def kindOk (cs : List Str) : Ty → Bool
  | .b n => decide (n ∈ builtinKinds)
  | .o c => decide (c ∈ cs)
def kindZ : D → Option Ty
  | .dct _ _ => some (.b "dict")
  | d => kindD d
def isiD (cs : List Str) (ts : List Ty) (d : D) : M D := match kindZ d with
  | some k => if kindOk cs k = true ∧ ts.all (tyOk cs) = true then pure (.bl (ts.any fun t => isKind k t)) else stuck
  | none => stuck
def tyVal (K : PySem.W.Frag) : Ty → Value
  | .b n => .type n
  | .o c => .ref (He.ga K c)
def tyV' (K : PySem.W.Frag) : Ty → V
  | .b n => .ty n
  | .o c => .ref (He.ga K c)
def clsB (K : PySem.W.Frag) (cs : List Str) : Bool := cs.all fun c =>
  (He.Fa.cls c).ok K && He.eqO (PySem.W.findIn K (.ref (He.ga K c)) "__class__") (some (some (.builtin "object.__class__"))) &&
  He.eqO (PySem.W.specialIn K (.builtin "object.__class__") "__get__") (some (some (.builtin "getset_descriptor.__get__"))) && decide (PySem.W.takesIn K (.builtin "object.__class__") = some true) &&
  decide (PySem.W.mroIn K (He.ga K c) (.type "object") = some true) && (askedTypes.all fun n => decide (PySem.W.kitOne K (.ref (He.ga K c)) (.type n) = some false)) &&
  (builtinKinds.all fun n => decide (PySem.W.kitOne K (.type n) (.ref (He.ga K c)) = some false)) && cs.all fun e => decide (PySem.W.kitOne K (.ref (He.ga K c)) (.ref (He.ga K e)) = some (decide (c = e)))
structure ClsT (K : PySem.W.Frag) (cs : List Str) : Prop where
  cl : ∀ c ∈ cs, Cls K (He.ga K c)
  ha : ∀ c ∈ cs, PySem.W.findIn K (.ref (He.ga K c)) "__class__" = some (some (.builtin "object.__class__"))
  hn : ∀ c ∈ cs, PySem.W.specialIn K (.builtin "object.__class__") "__get__" = some (some (.builtin "getset_descriptor.__get__"))
  ht : ∀ c ∈ cs, PySem.W.takesIn K (.builtin "object.__class__") = some true
  hm : ∀ c ∈ cs, PySem.W.mroIn K (He.ga K c) (.type "object") = some true
  ob : ∀ c ∈ cs, ∀ n ∈ askedTypes, PySem.W.kitOne K (.ref (He.ga K c)) (.type n) = some false
  bo : ∀ c ∈ cs, ∀ n ∈ builtinKinds, PySem.W.kitOne K (.type n) (.ref (He.ga K c)) = some false
  oo : ∀ c ∈ cs, ∀ e ∈ cs, PySem.W.kitOne K (.ref (He.ga K c)) (.ref (He.ga K e)) = some (decide (c = e))
theorem clsB_ok {K : PySem.W.Frag} {cs : List Str} (h : clsB K cs = true) : ClsT K cs := by
  have k : ∀ c ∈ cs, _ := fun c hc => List.all_eq_true.mp h c hc
  simp only [Bool.and_eq_true, List.all_eq_true, decide_eq_true_eq] at k
  exact ⟨fun c hc => He.cls_ok (k c hc).1.1.1.1.1.1.1, fun c hc => He.eqO_ok (k c hc).1.1.1.1.1.1.2, fun c hc => He.eqO_ok (k c hc).1.1.1.1.1.2, fun c hc => (k c hc).1.1.1.1.2, fun c hc => (k c hc).1.1.1.2,
    fun c hc n hn => (k c hc).1.1.2 n hn, fun c hc n hn => (k c hc).1.2 n hn, fun c hc e he => (k c hc).2 e he⟩
theorem clsV_of {K : PySem.W.Frag} (t : Ty) : ClsV (tyV' K t) (tyVal K t) := by
  cases t with
  | b n => exact .ty n
  | o c => exact .own _
section
variable {X : Cx} {W : WX} {a b b2 : Expr} {ma : DSt → M D} {pos p pt : Pos} {cs : List Str} {x1 : Nat}
theorem pe_ty (n : String) {x : Str} (hg : Gl X x) (hm : X.mg x = none) (hv : bootBuiltins x = some (.type n)) (hn : x ≠ "__name__" := by decide) (hd : (x == ("__debug__" : Str)) = false := by decide) : PE X (.Name x pos) (tC (tyV' X.K (.b n))) := pe_bltn hg hm hv rfl hn hd
theorem pe_own (c : Str) (hg : Gl X c) (hm : X.mg c = some (.ref (He.ga X.K c))) (hd : (c == ("__debug__" : Str)) = false := by decide) : PE X (.Name c pos) (tC (tyV' X.K (.o c))) := pe_glob hg hm rfl hd
end
end RM

namespace RM
open PySem PySem.Spec PyProof.Rows L2
variable [PgW]

section
variable {X : Cx} {W : WX} {a b : Expr} {es : List Expr} {ma mb : DSt → M D} {ms : DSt → M (List D)} {pos p : Pos}
def sizeL (xs : List D) : M (List D) := if xs.length ≤ sizeLine then pure xs else stuck
def listF : D → M (List D)
  | .lst xs => pure xs
  | .tup xs => pure xs
  | _ => stuck
end
def getO (t : DSt) (i : Nat) : M (List D) := match t[i]? with
  | some (some (.own xs)) => pure xs
  | _ => stuck
theorem SlotsR.getO {K : PySem.W.Frag} {p : List (List Addr)} {G H : Hp} : ∀ {t : DSt} {σ : L2.St} {ow : List Addr} {i : Nat} {xs : List D}, SlotsR K p G H t σ ow → t[i]? = some (some (.own xs)) → ∃ a vs, σ[i]? = some (some (.ref a)) ∧ a ∈ ow ∧ H a = some (.lst vs) ∧ DenL K p G xs vs
  | [], _, _, _, _, _, e => by simp at e
  | _ :: _, _, _, 0, d, ⟨v, r, l, m, h1, h2, h3, h4⟩, e => by
    simp at e; subst e
    obtain ⟨a, vs, e1, e2, e3, e4⟩ := h3
    exact ⟨a, vs, by rw [h1, e2]; rfl, by rw [h2, e1]; simp, e3, e4⟩
  | _ :: _, _, _, i + 1, d, ⟨v, r, l, m, h1, h2, h3, h4⟩, e => by
    obtain ⟨a, vs, e1, e2, e3, e4⟩ := SlotsR.getO (i := i) h4 (by simpa using e)
    exact ⟨a, vs, by rw [h1]; simpa using e1, by rw [h2]; exact List.mem_append_right _ e2, e3, e4⟩
theorem SlotsR.putO {K : PySem.W.Frag} {p : List (List Addr)} {G H H' : Hp} {a : Addr} {ys : List D} {us : List V} (hk : ∀ b, b ≠ a → H' b = H b) (ha : H' a = some (.lst us)) (dn : DenL K p G ys us) : ∀ {t : DSt} {σ : L2.St} {ow : List Addr} {i : Nat} {xs : List D},
    SlotsR K p G H t σ ow → ow.Nodup → t[i]? = some (some (.own xs)) → σ[i]? = some (some (.ref a)) → SlotsR K p G H' (t.set i (some (.own ys))) σ ow
  | [], _, _, _, _, _, _, e, _ => by simp at e
  | _ :: _, _, _, 0, xs, ⟨v, r, l, m, h1, h2, h3, h4⟩, nd, e, eσ => by
    simp at e; subst e
    obtain ⟨b, vs, e1, e2, e3, e4⟩ := h3
    rw [h1] at eσ
    simp at eσ
    rw [e2] at eσ
    cases eσ
    subst e1
    rw [h2] at nd
    refine ⟨v, r, [a], m, h1, h2, ⟨a, us, rfl, e2, ha, dn⟩, SlotsR.mono ⟨[], by simp⟩ (Same.refl _) (fun b hb => hk b ?_) h4⟩
    rintro rfl
    simp at nd
    exact nd.1 hb
  | s :: _, _, _, i + 1, xs, ⟨v, r, l, m, h1, h2, h3, h4⟩, nd, e, eσ => by
    rw [h2] at nd
    rw [h1] at eσ
    have nd2 := (List.nodup_append.mp nd).2.1
    obtain ⟨a2, vs, q1, q2, q3, q4⟩ := SlotsR.getO (i := i) h4 (by simpa using e)
    have ea : a2 = a := by
      have : r[i]? = some (some (.ref a)) := by simpa using eσ
      rw [q1] at this
      cases this
      rfl
    subst ea
    refine ⟨v, r, l, m, h1, h2, SlotR.mono ⟨[], by simp⟩ (Same.refl _) (fun b hb => hk b ?_) h3, SlotsR.putO hk ha dn (i := i) h4 nd2 (by simpa using e) (by simpa using eσ)⟩
    rintro rfl
    exact (List.nodup_append.mp nd).2.2 b hb b q2 rfl
theorem RelF.putO {K : PySem.W.Frag} {n : Snap} {p : List (List Addr)} {G H : Hp} {S : Sto} {t : DSt} {σ : L2.St} {ow : List Addr} {i : Nat} {xs ys : List D} {a : Addr} {us : List V} (r : RelF K n p G S H t σ ow) (e : t[i]? = some (some (.own xs))) (eσ : σ[i]? = some (some (.ref a))) (ha : a ∈ ow) (dn : DenL K p G ys us) :
    RelF K n p G S (upd H a (.lst us)) (t.set i (some (.own ys))) σ ow := by
  have ga := r.rs.gn a ha
  have pa : a ∉ p.flatten := fun z => (List.nodup_append.mp r.rs.nd).2.2 a z a ha rfl
  have h0 := r.own a ha
  refine ⟨⟨r.rs.rel.own _ pa ga, SlotsR.putO (fun b hb => upd_ne hb) upd_same dn r.rs.sl (List.nodup_append.mp r.rs.nd).2.1 e eσ, r.rs.nd, r.rs.gn⟩, ⟨r.ext.g, r.ext.gn, fun b o e1 e2 => ?_, fun b e1 => ?_, r.ext.p⟩, r.own, r.fp, r.fg⟩
  · rw [upd_ne (ne_of_none e1 h0)]
    exact r.ext.h b o e1 e2
  · by_cases q : b = a
    · subst q; rw [upd_same]; simp
    · rw [upd_ne q]; exact r.ext.d b e1
section
variable {X : Cx} {W : Wf} {a b e : Expr} {es : List Expr} {ma mb : DSt → M D} {mf : DSt → M (List D)} {pos apos cpos : Pos} {rest : List Stmt} {u : DSt → M Ctl}
def setO (t : DSt) (i : Nat) (xs : List D) : Option DSt := if i < t.length then some (t.set i (some (.own xs))) else none
def freeze (i : Nat) (t : DSt) : DSt := match t[i]? with
  | some (some (.own xs)) => t.set i (some (.val (.lst xs)))
  | _ => t
theorem SlotsR.ice {K : PySem.W.Frag} {p : List (List Addr)} {G H : Hp} : ∀ {t : DSt} {σ : L2.St} {ow : List Addr} {i : Nat} {xs : List D}, SlotsR K p G H t σ ow → t[i]? = some (some (.own xs)) →
    ∃ a vs x y, ow = x ++ a :: y ∧ H a = some (.lst vs) ∧ DenL K p G xs vs ∧ (G a = none → SlotsR K p (upd G a (.lst vs)) H (t.set i (some (.val (.lst xs)))) σ (x ++ y))
  | [], _, _, _, _, _, e => by simp at e
  | _ :: _, _, _, 0, xs, ⟨v, r, l, m, h1, h2, h3, h4⟩, e => by
    simp at e; subst e
    obtain ⟨a, vs, e1, e2, e3, e4⟩ := h3
    refine ⟨a, vs, [], m, by rw [h2, e1]; rfl, e3, e4, fun ga => ?_⟩
    exact ⟨v, r, [], m, h1, rfl, ⟨rfl, _, e2, a, vs, rfl, upd_same, e4.upd ga⟩, SlotsR.mono ⟨[], by simp⟩ (Same.upd_of ga) (fun _ _ => rfl) h4⟩
  | s :: _, _, _, i + 1, xs, ⟨v, r, l, m, h1, h2, h3, h4⟩, e => by
    obtain ⟨a, vs, x, y, e1, e2, e3, e4⟩ := SlotsR.ice (i := i) h4 (by simpa using e)
    refine ⟨a, vs, l ++ x, y, by rw [h2, e1, List.append_assoc], e2, e3, fun ga => ?_⟩
    exact ⟨v, r, l, x ++ y, h1, by rw [List.append_assoc], SlotR.mono ⟨[], by simp⟩ (Same.upd_of ga) (fun _ _ => rfl) h3, e4 ga⟩
theorem RelF.ice {K : PySem.W.Frag} {n : Snap} {p : List (List Addr)} {G H : Hp} {S : Sto} {t : DSt} {σ : L2.St} {ow : List Addr} {i : Nat} {xs : List D} (r : RelF K n p G S H t σ ow) (e : t[i]? = some (some (.own xs))) : ∃ G' ow', RelF K n p G' S H (t.set i (some (.val (.lst xs)))) σ ow' := by
  obtain ⟨a, vs, x, y, eo, hH, dn, q⟩ := r.rs.sl.ice e
  have ha : a ∈ ow := by rw [eo]; simp
  have ga := r.rs.gn a ha
  have pa : a ∉ p.flatten := fun z => (List.nodup_append.mp r.rs.nd).2.2 a z a ha rfl
  have nH := r.own a ha
  have ndo := (List.nodup_append.mp r.rs.nd).2.1
  have sub : ∀ b ∈ x ++ y, b ∈ ow ∧ b ≠ a := fun b hb => by
    rw [eo] at ndo ⊢
    refine ⟨by simp at hb ⊢; rcases hb with z | z <;> simp [z], ?_⟩
    rintro rfl
    have := (List.perm_middle.nodup_iff.mp ndo)
    exact (List.nodup_cons.mp this).1 hb
  have sm : Same G (upd G a (.lst vs)) := Same.upd_of ga
  refine ⟨upd G a (.lst vs), x ++ y, ⟨⟨fun b o z => ?_, r.rs.rel.len, fun i as o e1 e2 => (r.rs.rel.mo i as o e1 e2).ice sm, r.rs.rel.nd, fun b hb => ?_⟩, q ga, ?_, fun b hb => ?_⟩, ⟨r.ext.g.trans sm, fun b h1 h2 => ?_, r.ext.h, r.ext.d, r.ext.p⟩, fun b hb => r.own b (sub b hb).1, r.fp, r.fg.trans sm⟩
  · by_cases w : b = a
    · subst w; rw [upd_same] at z; cases z; exact hH
    · rw [upd_ne w] at z; exact r.rs.rel.sub b o z
  · have : b ≠ a := by rintro rfl; exact pa hb
    rw [upd_ne this]; exact r.rs.rel.gn b hb
  · have : (p.flatten ++ (x ++ y)).Sublist (p.flatten ++ ow) := by
      rw [eo]
      exact List.Sublist.append (List.Sublist.refl _) (List.Sublist.append (List.Sublist.refl _) (List.sublist_cons_self a y))
    exact r.rs.nd.sublist this
  · rw [upd_ne (sub b hb).2]
    exact r.rs.gn b (sub b hb).1
  · have : b ≠ a := by rintro rfl; exact h2 nH
    rw [upd_ne this]; exact r.ext.gn b h1 h2
def putO (xs : List D) (y : D) : D → Option (List D)
  | .int k => (ixN xs.length k).map fun j => xs.set j y
  | _ => none
end
end RM

namespace RM
open PySem PySem.Spec PyProof.Rows L2
variable [PgW]

mutual
def D.low (n : Nat) : D → Bool
  | .mref i => decide (i < n)
  | .tup xs => lowL n xs
  | .lst xs => lowL n xs
  | .ins _ _ fs => lowL n fs
  | .dic _ vs => lowL n vs
  | .non => true
  | .bl _ => true
  | .int _ => true
  | .str _ => true
  | .scr _ => true
  | .xcp _ _ fs => lowL n fs
  | .dct _ vs => lowL n vs
def lowL (n : Nat) : List D → Bool
  | [] => true
  | d :: ds => D.low n d && lowL n ds
end
section
variable {K : PySem.W.Frag} {p r : List (List Addr)} {G : Hp}
mutual
theorem Den.shrink : ∀ {d : D} {v : V}, Den K (p ++ r) G d v → d.low p.length = true → Den K p G d v
  | .non, _, h, _ => h
  | .bl _, _, h, _ => h
  | .int _, _, h, _ => h
  | .str _, _, h, _ => h
  | .tup _, _, ⟨a, vs, h1, h2, h3⟩, e => ⟨a, vs, h1, h2, DenL.shrink h3 e⟩
  | .lst _, _, ⟨a, vs, h1, h2, h3⟩, e => ⟨a, vs, h1, h2, DenL.shrink h3 e⟩
  | .ins _ _ _, _, ⟨a, dx, vs, h1, h2, h4, h3⟩, e => ⟨a, dx, vs, h1, h2, h4, DenL.shrink h3 e⟩
  | .mref i, _, ⟨a, q, h1, h2⟩, e => by
    have hi : i < p.length := of_decide_eq_true e
    rw [List.getElem?_append_left hi] at h1
    exact ⟨a, q, h1, h2⟩
  | .dic _ _, _, ⟨a, o, vs, h1, h2, h4, h3⟩, e => ⟨a, o, vs, h1, h2, h4, DenL.shrink h3 e⟩
  | .scr _, _, h, _ => h
  | .xcp _ _ _, _, ⟨a, dd, vs, h1, h2, h3, h4, h5⟩, e => ⟨a, dd, vs, h1, h2, h3, h4, DenL.shrink h5 e⟩
  | .dct _ _, _, ⟨a, o, u, h1, h2, h3⟩, e => ⟨a, o, u, h1, h2, h3.imp id fun ⟨es, vs, h4, h5, h6, h7, h8⟩ => ⟨es, vs, h4, h5, h6, h7, DenL.shrink h8 e⟩⟩
theorem DenL.shrink : ∀ {ds : List D} {vs : List V}, DenL K (p ++ r) G ds vs → lowL p.length ds = true → DenL K p G ds vs
  | [], _, h, _ => h
  | _ :: _, _, ⟨v, q, h1, h2, h3⟩, e => by
    have e' := Bool.and_eq_true_iff.mp e
    exact ⟨v, q, h1, Den.shrink h2 e'.1, DenL.shrink h3 e'.2⟩
end
end
def moLow (n : Nat) : MO → Bool
  | .tape _ => true
  | .inst _ _ fs => lowL n fs
  | .tab _ _ => true
theorem MoAt.shrink {K : PySem.W.Frag} {p r : List (List Addr)} {G H : Hp} : ∀ {as : List Addr} {o : MO}, MoAt K (p ++ r) G H as o → moLow p.length o = true → MoAt K p G H as o
  | [_, _, _], .tape _, h, _ => h
  | [_], .inst _ _ _, ⟨n, dx, vs, h1, h2, h3⟩, e => ⟨n, dx, vs, h1, h2, h3.shrink e⟩
  | [_], .tab _ _, h, _ => h

structure FldT (K : PySem.W.Frag) (tab : List (Str × Str)) : Prop where
  cl : ∀ q ∈ tab, Cls K (He.ga K q.1)
  na : ∀ q ∈ tab, NoAttr K (He.ga K q.1) q.2
def fldB (K : PySem.W.Frag) (tab : List (Str × Str)) : Bool := tab.all fun q => (He.Fa.cls q.1).ok K && (He.Fa.noat q.1 q.2).ok K
theorem fldB_ok {K : PySem.W.Frag} {tab : List (Str × Str)} (h : fldB K tab = true) : FldT K tab :=
  ⟨fun q hq => He.cls_ok (Bool.and_eq_true_iff.mp (List.all_eq_true.mp h q hq)).1, fun q hq => He.noat_ok (Bool.and_eq_true_iff.mp (List.all_eq_true.mp h q hq)).2⟩
def lookF : List Str → List D → Str → Option D
  | n :: ns, d :: ds, f => if f = n then some d else lookF ns ds f
  | _, _, _ => none
theorem lookF_den {K : PySem.W.Frag} {p : List (List Addr)} {G : Hp} {f : Str} {d : D} : ∀ {ns : List Str} {fs : List D} {vs : List V}, DenL K p G fs vs → lookF ns fs f = some d → ∃ v, (ns.zip vs).lookup f = some v ∧ Den K p G d v
  | [], fs, _, _, e => by cases fs <;> cases e
  | _ :: _, [], _, _, e => by cases e
  | n :: ns, x :: xs, _, ⟨v, r, h1, h2, h3⟩, e => by
    subst h1
    unfold lookF at e
    show ∃ v', ((n, v) :: ns.zip r).lookup f = some v' ∧ _
    rw [List.lookup_cons]
    by_cases q : f = n
    · rw [if_pos q] at e
      cases e
      have : (f == n) = true := by rw [q]; exact beq_self_eq_true n
      rw [this]
      exact ⟨v, rfl, h2⟩
    · rw [if_neg q] at e
      have : (f == n) = false := beq_eq_false_iff_ne.mpr q
      rw [this]
      exact lookF_den h3 e
theorem Rel0.inst {K : PySem.W.Frag} {p : List (List Addr)} {S : Sto} {G H : Hp} {i : Nat} {c : Str} {ns : List Str} {fs : List D} {a : Addr} {r : List Addr} (rel : Rel0 K p S G H) (hp : p[i]? = some (a :: r)) (hs : S[i]? = some (.inst c ns fs)) : r = [] ∧ noLstL fs = true ∧ ∃ dx vs, H a = some (.ins (He.ga K c) dx (ns.zip vs)) ∧ vs.length = ns.length ∧ DenL K p G fs vs := by
  have m := rel.mo i _ _ hp hs
  cases r with
  | nil => exact ⟨rfl, m⟩
  | cons b r =>
    cases r with
    | nil => exact m.elim
    | cons c2 r =>
      cases r with
      | nil => exact m.elim
      | cons _ _ => exact m.elim
section
variable {X : Cx} {W : WX} {a : Expr} {ma : DSt → M D} {pos : Pos} {tab : List (Str × Str)}
end
theorem flat_apart {a : Addr} : ∀ {l : List (List Addr)} {i j : Nat} {x y : List Addr}, l.flatten.Nodup → l[i]? = some x → l[j]? = some y → i ≠ j → a ∈ x → a ∈ y → False
  | [], _, _, _, _, _, e, _, _, _, _ => by simp at e
  | z :: l, 0, 0, _, _, _, _, _, n, _, _ => n rfl
  | z :: l, 0, j + 1, x, y, nd, e1, e2, _, h1, h2 => by
    simp at e1; subst e1
    rw [List.flatten_cons, List.nodup_append] at nd
    exact nd.2.2 a h1 a (List.mem_flatten.mpr ⟨y, List.mem_of_getElem? (by simpa using e2), h2⟩) rfl
  | z :: l, i + 1, 0, x, y, nd, e1, e2, _, h1, h2 => by
    simp at e2; subst e2
    rw [List.flatten_cons, List.nodup_append] at nd
    exact nd.2.2 a h2 a (List.mem_flatten.mpr ⟨x, List.mem_of_getElem? (by simpa using e1), h1⟩) rfl
  | z :: l, i + 1, j + 1, x, y, nd, e1, e2, n, h1, h2 => by
    rw [List.flatten_cons, List.nodup_append] at nd
    exact flat_apart (i := i) (j := j) nd.2.1 (by simpa using e1) (by simpa using e2) (fun e => n (by rw [e])) h1 h2
theorem Rel0.put {K : PySem.W.Frag} {p : List (List Addr)} {S : Sto} {G H : Hp} {i : Nat} {c : Str} {ns ns' : List Str} {fs fs' : List D} {a dx : Addr} {vs' : List V} (r : Rel0 K p S G H) (hp : p[i]? = some [a]) (hs : S[i]? = some (.inst c ns fs)) (hl : vs'.length = ns'.length) (dn : DenL K p G fs' vs') (nl : noLstL fs' = true) :
    Rel0 K p (S.set i (.inst c ns' fs')) G (upd H a (.ins (He.ga K c) dx (ns'.zip vs'))) := by
  have ha : a ∈ p.flatten := List.mem_flatten.mpr ⟨[a], List.mem_of_getElem? hp, by simp⟩
  have ga := r.gn a ha
  have hi : i < S.length := (List.getElem?_eq_some_iff.mp hs).1
  refine ⟨fun b o e => ?_, by rw [List.length_set]; exact r.len, fun j as o e1 e2 => ?_, r.nd, r.gn⟩
  · rw [upd_ne (ne_of_none e ga)]
    exact r.sub b o e
  · by_cases hj : i = j
    · subst hj
      rw [hp] at e1
      cases e1
      rw [List.getElem?_set_self hi] at e2
      cases e2
      exact ⟨nl, dx, vs', upd_same, hl, dn⟩
    · rw [List.getElem?_set_ne hj] at e2
      refine (r.mo j as o e1 e2).mono ⟨[], by simp⟩ (Same.refl _) fun b hb => upd_ne ?_
      rintro rfl
      exact flat_apart r.nd hp e1 hj (by simp) hb
theorem Ext.put {p : List (List Addr)} {G H : Hp} {i : Nat} {a : Addr} {r : List Addr} {o : HO} (hp : p[i]? = some (a :: r)) : Ext p G H p G (upd H a o) := by
  have ha : a ∈ p.flatten := List.mem_flatten.mpr ⟨a :: r, List.mem_of_getElem? hp, by simp⟩
  refine ⟨Same.refl _, fun _ h _ => h, fun b u e hb => ?_, fun b e => ?_, [], by simp, by simp⟩
  · have : b ≠ a := by rintro rfl; exact hb ha
    rw [upd_ne this]; exact e
  · by_cases q : b = a
    · subst q; rw [upd_same]; simp
    · rw [upd_ne q]; exact e
section
variable {X : Cx} {W : Wf} {a e : Expr} {ma me : DSt → M D} {pos pos' : Pos} {tab : List (Str × Str)}
end
section
variable {X : Cx} {W : WX} {a b c : Expr} {es : List Expr} {kw : List Keyword} {ms mk : DSt → M (List D)} {pos p : Pos} {k : Nat} {f : Addr} {fd : FuncData} {ps ks : List Str} {g : List D → M D} {dvs : List V} {ds : List Value} {dds : List D} {sp : Sp}
end
end RM

namespace RM
open PySem PySem.Spec PyProof.Rows L2
variable [PgW]

def whileD (c : DSt → M Bool) (b : DSt → M Ctl) : Nat → DSt → M Ctl
  | 0, _ => stuck
  | n + 1, t => do
    if ← c t then do
      let r ← b t
      match r with
      | .nx t' => whileD c b n t'
      | .ct t' => whileD c b n t'
      | .bk t' => pure (.nx t')
      | .rt x => pure (.rt x)
      | .rl x => pure (.rl x)
    else pure (.nx t)
section
variable {X : Cx} {W : Wf} {c : Expr} {body : List Stmt} {mc : DSt → M Bool} {mb : DSt → M Ctl} {pos : Pos}
theorem ds_while (fuel : Nat) (hp : PassesOwn (model X.prog X.w) X.A X.env X.xe) (hc : DT X W.x c mc) (hb : DSs X W body mb) : DS X W (.While c body [] pos) (fun t => whileD mc mb fuel t) := by
  refine PS.imp (ps_while hp hc hb) fun E σ H ⟨n, t, p, G, S, ow, r, h⟩ => ?_
  refine ⟨fun k σ' H' => ∃ t' p' G' S' ow', RelF X.K n p' G' S' H' t' σ' ow' ∧ okS X.K W n (whileD mc mb k t' S') E, ⟨fuel, t, p, G, S, ow, r, h⟩, ?_⟩
  rintro k σ1 H1 ⟨t1, p1, G1, S1, ow1, r1, h1⟩
  cases k with
  | zero => exact h1.elim
  | succ k =>
    have h2 : okS X.K W n ((mc t1 >>= _) S1) E := h1
    refine ⟨t1, p1, G1, S1, ow1, r1.rs, okS.seq h2 r1 fun b S2 bv p2 G2 H2 eb db r2 x2 h3 => ?_⟩
    cases db
    cases b with
    | false => exact iteF (h3 p2 G2 H2 σ1 ow1 r2)
    | true =>
      refine iteT ⟨fun σ3 H3 => ∃ t3 p3 G3 S3 ow3, RelF X.K n p3 G3 S3 H3 t3 σ3 ow3 ∧ okS X.K W n (whileD mc mb k t3 S3) E, fun σ3 H3 q => ⟨k, Nat.lt_succ_self k, q⟩, n, t1, p2, G2, S2, ow1, r2, ?_⟩
      have h4 : okS X.K W n ((mb t1 S2).andThen _) E := h3
      cases em : mb t1 S2 with
      | stuck => rw [em] at h4; exact h4
      | exc z S3 => rw [em] at h4; exact h4
      | ok q S3 =>
        rw [em] at h4
        cases q with
        | nx t3 => exact fun p4 G4 H4 σ4 ow4 r4 => ⟨t3, p4, G4, S3, ow4, r4, h4⟩
        | ct t3 => exact fun p4 G4 H4 σ4 ow4 r4 => ⟨t3, p4, G4, S3, ow4, r4, h4⟩
        | bk t3 => exact h4
        | rt d => exact h4
        | rl d => exact h4
end
def tapeOf (d : D) : M Tape := fun S => match d with
  | .mref i => match S[i]? with
    | some (.tape t) => .ok t S
    | _ => .stuck
  | _ => .stuck
def tapeSet (d : D) (t : Tape) : M Unit := fun S => match d with
  | .mref i => match S[i]? with
    | some (.tape _) => .ok () (S.set i (.tape t))
    | _ => .stuck
  | _ => .stuck
theorem tapeOf_of (d : D) (S : Sto) : (∃ i t, d = .mref i ∧ S[i]? = some (.tape t) ∧ tapeOf d S = .ok t S) ∨ tapeOf d S = .stuck := by
  unfold tapeOf
  cases d with
  | mref i =>
    dsimp only
    cases e : S[i]? with
    | none => exact .inr rfl
    | some o =>
      cases o with
      | tape t => exact .inl ⟨i, t, rfl, e, rfl⟩
      | inst _ _ _ => exact .inr rfl
      | tab _ _ => exact .inr rfl
  | _ => exact .inr rfl
structure TapeAt (H : Hp) (a l c : Addr) (t : Tape) : Prop where
  d : H a = some (.dK [(.inr "large", .ref l), (.inr "cells", .ref c), (.inr "rest", .int t.rest), (.inr "turn", .int t.turn)])
  l : H l = some (.lst (t.large.map .int))
  c : H c = some (.lst (t.cells.map .int))
theorem Rel0.tape {K : PySem.W.Frag} {p : List (List Addr)} {S : Sto} {G H : Hp} {i : Nat} {t : Tape} {a : Addr} {q : List Addr} (r : Rel0 K p S G H) (hp : p[i]? = some (a :: q)) (hs : S[i]? = some (.tape t)) : ∃ l c, q = [l, c] ∧ TapeAt H a l c t := by
  have m := r.mo i _ _ hp hs
  match q, m with
  | [], m => exact m.elim
  | [_], m => exact m.elim
  | [l, c], ⟨h1, h2, h3⟩ => exact ⟨l, c, rfl, h1, h2, h3⟩
  | _ :: _ :: _ :: _, m => exact m.elim
theorem Rel0.wind {K : PySem.W.Frag} {p : List (List Addr)} {S : Sto} {G H H' : Hp} {i : Nat} {t t' : Tape} {a l c : Addr} (r : Rel0 K p S G H) (hp : p[i]? = some [a, l, c]) (hs : S[i]? = some (.tape t)) (k : ∀ b, b ≠ a → b ≠ l → b ≠ c → H' b = H b) (ta : TapeAt H' a l c t') :
    Rel0 K p (S.set i (.tape t')) G H' ∧ Ext p G H p G H' := by
  have mem : ∀ b ∈ [a, l, c], b ∈ p.flatten := fun b hb => List.mem_flatten.mpr ⟨_, List.mem_of_getElem? hp, hb⟩
  have hi : i < S.length := (List.getElem?_eq_some_iff.mp hs).1
  have far : ∀ b, b ∉ p.flatten → H' b = H b := fun b hb => k b (by rintro rfl; exact hb (mem _ (by simp))) (by rintro rfl; exact hb (mem _ (by simp))) (by rintro rfl; exact hb (mem _ (by simp)))
  refine ⟨⟨fun b o e => ?_, by rw [List.length_set]; exact r.len, fun j as o e1 e2 => ?_, r.nd, r.gn⟩, ⟨Same.refl _, fun _ h _ => h, fun b o e hb => by rw [far b hb]; exact e, fun b e => ?_, [], by simp, by simp⟩⟩
  · have nb : b ∉ p.flatten := fun z => by rw [r.gn b z] at e; cases e
    rw [far b nb]
    exact r.sub b o e
  · by_cases hj : i = j
    · subst hj
      rw [hp] at e1; cases e1
      rw [List.getElem?_set_self hi] at e2; cases e2
      exact ⟨ta.d, ta.l, ta.c⟩
    · rw [List.getElem?_set_ne hj] at e2
      refine (r.mo j as o e1 e2).mono ⟨[], by simp⟩ (Same.refl _) fun b hb => k b ?_ ?_ ?_
      · rintro rfl; exact flat_apart r.nd hp e1 hj (by simp) hb
      · rintro rfl; exact flat_apart r.nd hp e1 hj (by simp) hb
      · rintro rfl; exact flat_apart r.nd hp e1 hj (by simp) hb
  · by_cases h1 : b = a
    · subst h1; rw [ta.d]; simp
    · by_cases h2 : b = l
      · subst h2; rw [ta.l]; simp
      · by_cases h3 : b = c
        · subst h3; rw [ta.c]; simp
        · rw [k b h1 h2 h3]; exact e
theorem tape_apart {K : PySem.W.Frag} {p : List (List Addr)} {S : Sto} {G H : Hp} {i : Nat} {a l c : Addr} (r : Rel0 K p S G H) (hp : p[i]? = some [a, l, c]) : a ≠ l ∧ a ≠ c ∧ l ≠ c := by
  have sub : [a, l, c].Sublist p.flatten := by
    obtain ⟨hi, e⟩ := List.getElem?_eq_some_iff.mp hp
    rw [← e]
    exact List.sublist_flatten_of_mem (List.getElem_mem hi)
  have := r.nd.sublist sub
  simp at this
  exact ⟨this.1.1, this.1.2, this.2⟩
theorem state_at {K : PySem.W.Frag} {p : List (List Addr)} {G H : Hp} {S : Sto} {t : DSt} {σ : L2.St} {ow : List Addr} {i : Nat} (r : RelS K p G S H t σ ow) {β : Type} {f : D → Tape → M β} {Z : Res β → Prop} (hZ : ¬ Z .stuck) (h : Z ((do let o ← getV t i; let tp ← tapeOf o; f o tp : M β) S)) :
    ∃ j tp a l c, t[i]? = some (some (.val (.mref j))) ∧ σ[i]? = some (some (.ref a)) ∧ p[j]? = some [a, l, c] ∧ S[j]? = some (.tape tp) ∧ TapeAt H a l c tp ∧ Z (f (.mref j) tp S) := by
  rcases getV_of t i with ⟨d, e, q⟩ | q
  · rw [q] at h
    have h1 : Z ((tapeOf d S).andThen fun tp => f d tp) := h
    rcases tapeOf_of d S with ⟨j, tp, rfl, hs, e2⟩ | e2
    · rw [e2] at h1
      obtain ⟨v, ev, a, q2, hp, rfl⟩ := r.sl.get e
      obtain ⟨l, c, rfl, ta⟩ := r.rel.tape hp hs
      exact ⟨j, tp, a, l, c, e, ev, hp, hs, ta, h1⟩
    · rw [e2] at h1
      exact absurd h1 hZ
  · rw [q] at h
    exact absurd h hZ
theorem vRest {l c : Addr} {r u : Int} : valV ([(.inr "large", .ref l), (.inr "cells", .ref c), (.inr "rest", .int r), (.inr "turn", .int u)] : List (Key × V)) (.inr "rest") = some (.int r) := rfl
theorem vTurn {l c : Addr} {r u : Int} : valV ([(.inr "large", .ref l), (.inr "cells", .ref c), (.inr "rest", .int r), (.inr "turn", .int u)] : List (Key × V)) (.inr "turn") = some (.int u) := rfl
theorem vLarge {l c : Addr} {r u : Int} : valV ([(.inr "large", .ref l), (.inr "cells", .ref c), (.inr "rest", .int r), (.inr "turn", .int u)] : List (Key × V)) (.inr "large") = some (.ref l) := rfl
theorem vCells {l c : Addr} {r u : Int} : valV ([(.inr "large", .ref l), (.inr "cells", .ref c), (.inr "rest", .int r), (.inr "turn", .int u)] : List (Key × V)) (.inr "cells") = some (.ref c) := rfl
theorem pRest {l c : Addr} {r u k : Int} : putK ([(.inr "large", .ref l), (.inr "cells", .ref c), (.inr "rest", .int r), (.inr "turn", .int u)] : List (Key × V)) (.inr "rest") (.int k) = [(.inr "large", .ref l), (.inr "cells", .ref c), (.inr "rest", .int k), (.inr "turn", .int u)] := rfl
theorem pTurn {l c : Addr} {r u k : Int} : putK ([(.inr "large", .ref l), (.inr "cells", .ref c), (.inr "rest", .int r), (.inr "turn", .int u)] : List (Key × V)) (.inr "turn") (.int k) = [(.inr "large", .ref l), (.inr "cells", .ref c), (.inr "rest", .int r), (.inr "turn", .int k)] := rfl
section
variable {X : Cx} {W : WX} {a b e : Expr} {ma mb me : DSt → M D} {pos p1 p2 p3 p4 : Pos} {j : Nat} {x : Str}
theorem de_rest (i : Nat) (hu : X.A.units + 1 < cLine) (hN : X.N[i]? = some x := by rfl) (hv : Vis X.env.scope x := by first | exact Or.inl rfl | exact Or.inr (Or.inl rfl) | exact Or.inr (Or.inr rfl)) (hd : (x == ("__debug__" : Str)) = false := by decide)
    (hcd : (x == ("__classdict__" : Str)) = false := by decide) : DE X W (.Subscript (.Name x p1) (.Constant (.str "rest") j p2) pos) (fun t => do let o ← getV t i; let tp ← tapeOf o; pure (.int tp.rest)) := by
  refine PE.imp (pe_dget hu (pe_var hN hv hd hcd) pe_str (fun _ _ => rfl)) fun σ H Q ⟨t, p, G, S, ow, r, h⟩ => ?_
  obtain ⟨k, tp, l0, l, c, e1, e2, hp, hs, ta, h⟩ := state_at (Z := fun z => okR (Den X.K) X.K p G H (fun c d H' => W c d σ H') z Q) r (fun z => z) h
  exact ⟨_, e2, l0, _, rfl, vRest ▸ DGet.k (k := .inr "rest") ta.d, okR.fin (v := V.int _) h rfl r.rel⟩
theorem de_turn (i : Nat) (hu : X.A.units + 1 < cLine) (hN : X.N[i]? = some x := by rfl) (hv : Vis X.env.scope x := by first | exact Or.inl rfl | exact Or.inr (Or.inl rfl) | exact Or.inr (Or.inr rfl)) (hd : (x == ("__debug__" : Str)) = false := by decide)
    (hcd : (x == ("__classdict__" : Str)) = false := by decide) : DE X W (.Subscript (.Name x p1) (.Constant (.str "turn") j p2) pos) (fun t => do let o ← getV t i; let tp ← tapeOf o; pure (.int tp.turn)) := by
  refine PE.imp (pe_dget hu (pe_var hN hv hd hcd) pe_str (fun _ _ => rfl)) fun σ H Q ⟨t, p, G, S, ow, r, h⟩ => ?_
  obtain ⟨k, tp, l0, l, c, e1, e2, hp, hs, ta, h⟩ := state_at (Z := fun z => okR (Den X.K) X.K p G H (fun c d H' => W c d σ H') z Q) r (fun z => z) h
  exact ⟨_, e2, l0, _, rfl, vTurn ▸ DGet.k (k := .inr "turn") ta.d, okR.fin (v := V.int _) h rfl r.rel⟩
theorem dp_ints {K : PySem.W.Frag} {H : Hp} : ∀ ns : List Int, DpAll K H (ns.map .int) (ns.map .int)
  | [] => .nil
  | n :: ns => .cons (.int n) (dp_ints ns)
theorem lay_ints : ∀ ns : List Int, PyData.canLayAll0 (ns.map PyData.int) = true
  | [] => rfl
  | n :: ns => by
    show (PyData.canLay0 (.int n) && PyData.canLayAll0 (ns.map PyData.int)) = true
    rw [lay_ints ns]; rfl
theorem depth_ints : ∀ ns : List Int, PyData.depthAll (ns.map PyData.int) = 0
  | [] => rfl
  | n :: ns => by
    show max (PyData.depth (.int n)) (PyData.depthAll (ns.map PyData.int)) = 0
    rw [depth_ints ns]; rfl
theorem shaped_ints (ns : List Int) : SeqAt.shaped (.list (ns.map .int)) = true := by
  unfold SeqAt.shaped
  have h1 : PyData.canLay0 (.list (ns.map .int)) = true := lay_ints ns
  have h2 : PyData.depth (.list (ns.map .int)) = 1 := by
    show PyData.depthAll (ns.map PyData.int) + 1 = 1
    rw [depth_ints]
  rw [h1, h2]; rfl
theorem eqv_nil (ns : List Int) : (!PyData.eqv (.list (ns.map .int)) (.list [])) = !ns.isEmpty := by
  cases ns <;> rfl
theorem dt_large (i : Nat) (hu : X.A.units + 64 < cLine) (hN : X.N[i]? = some x := by rfl) (hv : Vis X.env.scope x := by first | exact Or.inl rfl | exact Or.inr (Or.inl rfl) | exact Or.inr (Or.inr rfl)) (hd : (x == ("__debug__" : Str)) = false := by decide)
    (hcd : (x == ("__classdict__" : Str)) = false := by decide) : DT X W (.Compare (.Subscript (.Name x p1) (.Constant (.str "large") j p2) p3) [.NotEq] [.List [] p4] pos) (fun t => do let o ← getV t i; let tp ← tapeOf o; pure (!tp.large.isEmpty)) := by
  refine PT.imp (pt_cmpR (op_neD hu) (pe_dget (by omega) (pe_var hN hv hd hcd) pe_str (fun _ _ => rfl)) (pe_lst pa_nil) (nomark _)) fun σ H Q ⟨t, p, G, S, ow, r, h⟩ => ?_
  obtain ⟨k, tp, l0, l, c, e1, e2, hp, hs, ta, h⟩ := state_at (Z := fun z => okR rB X.K p G H (fun c d H' => W c d σ H') z Q) r (fun z => z) h
  refine ⟨_, e2, l0, _, rfl, vLarge ▸ DGet.k (k := .inr "large") ta.d, Nat.zero_le _, fun q hq => ?_⟩
  have ne : l ≠ q := ne_of_none ta.l hq
  refine ⟨_, _, .lst (SqL.of (by rw [upd_ne ne]; exact ta.l)) (dp_ints _), .lst (SqL.of upd_same) .nil, shaped_ints _, shaped_ints [], _, rfl, ?_⟩
  rw [eqv_nil]
  exact h _ p _ _ rfl (r.rel.new (.lst []) hq).1 (r.rel.new (.lst []) hq).2
theorem dt_cells (i : Nat) (hu : X.A.units + 64 < cLine) (hN : X.N[i]? = some x := by rfl) (hv : Vis X.env.scope x := by first | exact Or.inl rfl | exact Or.inr (Or.inl rfl) | exact Or.inr (Or.inr rfl)) (hd : (x == ("__debug__" : Str)) = false := by decide)
    (hcd : (x == ("__classdict__" : Str)) = false := by decide) : DT X W (.Compare (.Subscript (.Name x p1) (.Constant (.str "cells") j p2) p3) [.NotEq] [.List [] p4] pos) (fun t => do let o ← getV t i; let tp ← tapeOf o; pure (!tp.cells.isEmpty)) := by
  refine PT.imp (pt_cmpR (op_neD hu) (pe_dget (by omega) (pe_var hN hv hd hcd) pe_str (fun _ _ => rfl)) (pe_lst pa_nil) (nomark _)) fun σ H Q ⟨t, p, G, S, ow, r, h⟩ => ?_
  obtain ⟨k, tp, l0, l, c, e1, e2, hp, hs, ta, h⟩ := state_at (Z := fun z => okR rB X.K p G H (fun c d H' => W c d σ H') z Q) r (fun z => z) h
  refine ⟨_, e2, l0, _, rfl, vCells ▸ DGet.k (k := .inr "cells") ta.d, Nat.zero_le _, fun q hq => ?_⟩
  have ne : c ≠ q := ne_of_none ta.c hq
  refine ⟨_, _, .lst (SqL.of (by rw [upd_ne ne]; exact ta.c)) (dp_ints _), .lst (SqL.of upd_same) .nil, shaped_ints _, shaped_ints [], _, rfl, ?_⟩
  rw [eqv_nil]
  exact h _ p _ _ rfl (r.rel.new (.lst []) hq).1 (r.rel.new (.lst []) hq).2
theorem de_lenCells (i : Nat) (hu : X.A.units + 1 < cLine) (hg : Gl X "len") (hm : X.mg "len" = none) (hN : X.N[i]? = some x := by rfl) (hv : Vis X.env.scope x := by first | exact Or.inl rfl | exact Or.inr (Or.inl rfl) | exact Or.inr (Or.inr rfl)) (hd : (x == ("__debug__" : Str)) = false := by decide)
    (hcd : (x == ("__classdict__" : Str)) = false := by decide) (he : starEach [.Subscript (.Name x p1) (.Constant (.str "cells") j p2) p3] X.env = [(false, eval (.Subscript (.Name x p1) (.Constant (.str "cells") j p2) p3) X.env)] := by rfl) :
    DE X W (.Call (.Name "len" p4) [.Subscript (.Name x p1) (.Constant (.str "cells") j p2) p3] [] pos) (fun t => do let o ← getV t i; let tp ← tapeOf o; pure (.int tp.cells.length)) := by
  refine PE.imp (pe_callB call_len hg hm boot_len (pa_cons (pe_dget hu (pe_var hN hv hd hcd) pe_str (fun _ _ => rfl)) pa_nil he) (by decide) (by decide) he rfl) fun σ H Q ⟨t, p, G, S, ow, r, h⟩ => ?_
  obtain ⟨k, tp, l0, l, c, e1, e2, hp, hs, ta, h⟩ := state_at (Z := fun z => okR (Den X.K) X.K p G H (fun c d H' => W c d σ H') z Q) r (fun z => z) h
  refine ⟨_, e2, l0, _, rfl, vCells ▸ DGet.k (k := .inr "cells") ta.d, V.ref c, (tp.cells.map V.int).length, rfl, (Or.inl ⟨_, SqL.of ta.c, rfl⟩ : LenV X.K (.ref c) H (tp.cells.map V.int).length), ?_⟩
  rw [List.length_map]
  exact okR.fin (v := V.int _) h rfl r.rel
def cellD (tp : Tape) : D → M D
  | .int k => match atI tp.cells k with
    | some n => pure (.int n)
    | none => stuck
  | _ => stuck
theorem de_cell (i : Nat) (hu : X.A.units + 1 < cLine) (he : DE X W e me) (hs : PlainIx e) (hN : X.N[i]? = some x := by rfl) (hv : Vis X.env.scope x := by first | exact Or.inl rfl | exact Or.inr (Or.inl rfl) | exact Or.inr (Or.inr rfl)) (hd : (x == ("__debug__" : Str)) = false := by decide)
    (hcd : (x == ("__classdict__" : Str)) = false := by decide) : DE X W (.Subscript (.Subscript (.Name x p1) (.Constant (.str "cells") j p2) p3) e pos) (fun t => do let o ← getV t i; let _ ← tapeOf o; let k ← me t; let tp ← tapeOf o; cellD tp k) := by
  refine PE.imp (pe_ix ix_list (pe_dget hu (pe_var hN hv hd hcd) pe_str (fun _ _ => rfl)) he hs) fun σ H Q ⟨t, p, G, S, ow, r, h⟩ => ?_
  obtain ⟨k, tp, l0, l, c, e1, e2, hp, hs, ta, h⟩ := state_at (f := fun o _ => do let k ← me t; let tp ← tapeOf o; cellD tp k) (Z := fun z => okR (Den X.K) X.K p G H (fun c d H' => W c d σ H') z Q) r (fun z => z) h
  refine ⟨_, e2, l0, _, rfl, vCells ▸ DGet.k (k := .inr "cells") ta.d, tD.next r (Ext.refl _ _ _) r.rel (okR.seq h fun y S1 yv p1 G1 H1 ey dy r1 x1 h1 => ?_)⟩
  have h2 : okR (Den X.K) X.K p1 G1 H1 (fun c d H' => W c d σ H') ((tapeOf (.mref k) S1).andThen fun tp => cellD tp y) Q := h1
  rcases tapeOf_of (.mref k) S1 with ⟨k2, tp2, ek, hs2, e4⟩ | e4
  · cases ek
    rw [e4] at h2
    have hp2 : p1[k]? = some [l0, l, c] := idx_ext x1.pp hp
    obtain ⟨l2, c2, eq, ta2⟩ := r1.tape hp2 hs2
    cases eq
    cases y <;> try exact h2.elim
    rename_i z
    have h3 : okR (Den X.K) X.K p1 G1 H1 (fun c d H' => W c d σ H') (cellD tp2 (.int z) S1) Q := h2
    unfold cellD at h3
    dsimp only at h3
    cases ea : atI tp2.cells z with
    | none => rw [ea] at h3; exact h3.elim
    | some nn =>
      rw [ea] at h3
      refine ⟨c, _, z, .int nn, rfl, dy, SqL.of ta2.c, ?_, okR.fin (v := V.int _) h3 rfl r1⟩
      unfold atI at ea ⊢
      obtain ⟨q, e5, e6⟩ := Option.bind_eq_some_iff.mp ea
      rw [List.length_map, e5]
      show (tp2.cells.map V.int)[q]? = _
      rw [List.getElem?_map, e6]
      rfl
  · rw [e4] at h2
    exact h2.elim
end
section
variable {X : Cx} {W : Wf} {e : Expr} {me : DSt → M D} {pos p1 p2 p3 : Pos} {j : Nat} {x : Str}
def restD (o v : D) : M Unit := match v with
  | .int k => do let tp ← tapeOf o; tapeSet o { tp with rest := k }
  | _ => stuck
def turnD (o v : D) : M Unit := match v with
  | .int k => do let tp ← tapeOf o; tapeSet o { tp with turn := k }
  | _ => stuck
theorem ds_rest (i : Nat) (hu : X.A.units + 1 < cLine) (he : DE X W.x e me) (hs : swapsWith e (some (.Subscript (.Name x p1) (.Constant (.str "rest") j p2) p3)) pos.line X.env = pure false := by rfl) (hN : X.N[i]? = some x := by rfl) (hv : Vis X.env.scope x := by first | exact Or.inl rfl | exact Or.inr (Or.inl rfl) | exact Or.inr (Or.inr rfl)) (hd : (x == ("__debug__" : Str)) = false := by decide)
    (hcd : (x == ("__classdict__" : Str)) = false := by decide) : DS X W (.Assign [.Subscript (.Name x p1) (.Constant (.str "rest") j p2) p3] e pos) (fun t => do let v ← me t; let o ← getV t i; restD o v; pure (.nx t)) := by
  refine PS.imp (ps_dput hu (pe_var hN hv hd hcd) pe_str he hs) fun E σ H ⟨n, t, p, G, S, ow, r, h⟩ => ?_
  refine ⟨t, p, G, S, ow, r.rs, okS.seq h r fun y S1 yv p1 G1 H1 ey dy r1 x1 h1 => ?_⟩
  rcases getV_of t i with ⟨d, e, q⟩ | q
  · rw [q] at h1
    cases y <;> try exact h1.elim
    rename_i k
    have h2 : okS X.K W n ((((tapeOf d S1).andThen fun tp => tapeSet d { tp with rest := k })).andThen fun _ => pure (.nx t)) E := h1
    rcases tapeOf_of d S1 with ⟨m, tp, rfl, hs, e2⟩ | e2
    · rw [e2] at h2
      obtain ⟨v, ev, a, q2, hp, rfl⟩ := r1.rs.sl.get e
      obtain ⟨l, c, rfl, ta⟩ := r1.rs.rel.tape hp hs
      obtain ⟨n1, n2, n3⟩ := tape_apart r1.rs.rel hp
      refine ⟨_, ev, a, _, rfl, DPut.k (k := .inr "rest") ta.d (by show 4 < sizeLine; decide), ?_⟩
      rw [show yv = V.int k from dy, pRest]
      obtain ⟨rr, xx⟩ := r1.rs.rel.wind (t' := { tp with rest := k }) (H' := upd H1 a (.dK [(.inr "large", .ref l), (.inr "cells", .ref c), (.inr "rest", .int k), (.inr "turn", .int tp.turn)])) hp hs (fun b hb _ _ => upd_ne hb) ⟨upd_same, by rw [upd_ne n1.symm]; exact ta.l, by rw [upd_ne n2.symm]; exact ta.c⟩
      have h3 : okS X.K W n (((tapeSet (.mref m) { tp with rest := k }) S1).andThen fun _ => pure (.nx t)) E := h2
      unfold tapeSet at h3
      dsimp only at h3
      rw [hs] at h3
      exact h3 p1 G1 _ σ ow (r1.step xx rr)
    · rw [e2] at h2
      exact h2.elim
  · rw [q] at h1
    exact h1.elim
theorem ds_turn (i : Nat) (hu : X.A.units + 1 < cLine) (he : DE X W.x e me) (hs : swapsWith e (some (.Subscript (.Name x p1) (.Constant (.str "turn") j p2) p3)) pos.line X.env = pure false := by rfl) (hN : X.N[i]? = some x := by rfl) (hv : Vis X.env.scope x := by first | exact Or.inl rfl | exact Or.inr (Or.inl rfl) | exact Or.inr (Or.inr rfl)) (hd : (x == ("__debug__" : Str)) = false := by decide)
    (hcd : (x == ("__classdict__" : Str)) = false := by decide) : DS X W (.Assign [.Subscript (.Name x p1) (.Constant (.str "turn") j p2) p3] e pos) (fun t => do let v ← me t; let o ← getV t i; turnD o v; pure (.nx t)) := by
  refine PS.imp (ps_dput hu (pe_var hN hv hd hcd) pe_str he hs) fun E σ H ⟨n, t, p, G, S, ow, r, h⟩ => ?_
  refine ⟨t, p, G, S, ow, r.rs, okS.seq h r fun y S1 yv p1 G1 H1 ey dy r1 x1 h1 => ?_⟩
  rcases getV_of t i with ⟨d, e, q⟩ | q
  · rw [q] at h1
    cases y <;> try exact h1.elim
    rename_i k
    have h2 : okS X.K W n ((((tapeOf d S1).andThen fun tp => tapeSet d { tp with turn := k })).andThen fun _ => pure (.nx t)) E := h1
    rcases tapeOf_of d S1 with ⟨m, tp, rfl, hs, e2⟩ | e2
    · rw [e2] at h2
      obtain ⟨v, ev, a, q2, hp, rfl⟩ := r1.rs.sl.get e
      obtain ⟨l, c, rfl, ta⟩ := r1.rs.rel.tape hp hs
      obtain ⟨n1, n2, n3⟩ := tape_apart r1.rs.rel hp
      refine ⟨_, ev, a, _, rfl, DPut.k (k := .inr "turn") ta.d (by show 4 < sizeLine; decide), ?_⟩
      rw [show yv = V.int k from dy, pTurn]
      obtain ⟨rr, xx⟩ := r1.rs.rel.wind (t' := { tp with turn := k }) (H' := upd H1 a (.dK [(.inr "large", .ref l), (.inr "cells", .ref c), (.inr "rest", .int tp.rest), (.inr "turn", .int k)])) hp hs (fun b hb _ _ => upd_ne hb) ⟨upd_same, by rw [upd_ne n1.symm]; exact ta.l, by rw [upd_ne n2.symm]; exact ta.c⟩
      have h3 : okS X.K W n (((tapeSet (.mref m) { tp with turn := k }) S1).andThen fun _ => pure (.nx t)) E := h2
      unfold tapeSet at h3
      dsimp only at h3
      rw [hs] at h3
      exact h3 p1 G1 _ σ ow (r1.step xx rr)
    · rw [e2] at h2
      exact h2.elim
  · rw [q] at h1
    exact h1.elim
def popLarge (o : D) : M Unit := do
  let tp ← tapeOf o
  match tp.large with
  | k :: r => tapeSet o { tp with rest := k, large := r }
  | [] => stuck
theorem ds_popL (i : Nat) {p4 p5 p6 p7 p8 p9 : Pos} {j2 j3 : Nat} (hu : X.A.units + 1 < cLine) (hs : swapsWith (.Call (.Attribute (.Subscript (.Name x p4) (.Constant (.str "large") j2 p5) p6) "pop" p7) [.Constant (.int 0) j3 p8] [] p9) (some (.Subscript (.Name x p1) (.Constant (.str "rest") j p2) p3)) pos.line X.env = pure false := by rfl)
    (hst : starEach [.Constant (.int 0) j3 p8] X.env = [(false, eval (.Constant (.int 0) j3 p8) X.env)] := by rfl) (hfew : ((backTo p9 (starEach [.Constant (.int 0) j3 p8] X.env)).all (fun x => !x.1) && (backToKw p9 (keywordEach [] X.env)).all (fun x => x.1.isSome)
      && decide ([Expr.Constant (.int 0) j3 p8].length + ([] : List Keyword).length + (if ([] : List Keyword).isEmpty then 0 else 1) < 30)) = true := by rfl) (hline : (p7.endLine == p9.line) = true := by rfl)
    (hbase : attributeBase (.Subscript (.Name x p4) (.Constant (.str "large") j2 p5) p6) "pop" X.env (eval (.Subscript (.Name x p4) (.Constant (.str "large") j2 p5) p6) X.env) = eval (.Subscript (.Name x p4) (.Constant (.str "large") j2 p5) p6) X.env := by rfl)
    (hN : X.N[i]? = some x := by rfl) (hv : Vis X.env.scope x := by first | exact Or.inl rfl | exact Or.inr (Or.inl rfl) | exact Or.inr (Or.inr rfl)) (hd : (x == ("__debug__" : Str)) = false := by decide) (hcd : (x == ("__classdict__" : Str)) = false := by decide) :
    DS X W (.Assign [.Subscript (.Name x p1) (.Constant (.str "rest") j p2) p3] (.Call (.Attribute (.Subscript (.Name x p4) (.Constant (.str "large") j2 p5) p6) "pop" p7) [.Constant (.int 0) j3 p8] [] p9) pos) (fun t => do let o ← getV t i; popLarge o; pure (.nx t)) := by
  refine PS.imp (ps_dput hu (pe_var hN hv hd hcd) pe_str (pe_bm PySem.F.plainAttrs_list PySem.F.slot_list_pop PySem.F.type_list_pop mt_popAt (pe_dget hu (pe_var hN hv hd hcd) pe_str (fun _ _ => rfl)) (pa_cons pe_int pa_nil hst) hbase hfew hline hst rfl) hs) fun E σ H ⟨n, t, p, G, S, ow, r, h⟩ => ?_
  have h : okS X.K W n ((do let o ← getV t i; popLarge o; pure (.nx t) : M Ctl) S) E := h
  rcases getV_of t i with ⟨d, e, q⟩ | q
  · rw [q] at h
    have h2 : okS X.K W n ((((tapeOf d S).andThen fun tp => match tp.large with
      | k :: r => tapeSet d { tp with rest := k, large := r }
      | [] => stuck)).andThen fun _ => pure (.nx t)) E := h
    rcases tapeOf_of d S with ⟨m, tp, rfl, hs, e2⟩ | e2
    · rw [e2] at h2
      obtain ⟨v, ev, a, q2, hp, rfl⟩ := r.rs.sl.get e
      obtain ⟨l, c, rfl, ta⟩ := r.rs.rel.tape hp hs
      obtain ⟨n1, n2, n3⟩ := tape_apart r.rs.rel hp
      obtain ⟨lg, cs, rs, tn⟩ := tp
      cases lg with
      | nil => exact h2.elim
      | cons k ks =>
        refine ⟨_, ev, a, V.ref l, rfl, vLarge ▸ DGet.k (k := .inr "large") ta.d, (Or.inl ⟨rfl, _, SqL.of ta.l⟩ : tyV X.K "list" (.ref l) H), l, _, 0, 0, .int k, rfl, rfl, ta.l, by decide, by decide, ?_, rfl, ?_⟩
        · rw [List.length_map, List.length_cons]
          show seqIndex? 0 (ks.length + 1) = some 0
          unfold seqIndex?
          simp
        · refine ⟨_, ev, a, _, rfl, DPut.k (k := .inr "rest") (by rw [upd_ne n1]; exact ta.d) (by show 4 < sizeLine; decide), ?_⟩
          rw [pRest]
          obtain ⟨rr, xx⟩ := r.rs.rel.wind (t' := ⟨ks, cs, k, tn⟩) (H' := upd (upd H l (.lst (ks.map V.int))) a (.dK [(.inr "large", .ref l), (.inr "cells", .ref c), (.inr "rest", .int k), (.inr "turn", .int tn)])) hp hs (fun b hb hb2 _ => by rw [upd_ne hb, upd_ne hb2]) ⟨upd_same, by rw [upd_ne n1.symm, upd_same], by rw [upd_ne n2.symm, upd_ne n3.symm]; exact ta.c⟩
          have h3 : okS X.K W n (((tapeSet (.mref m) ⟨ks, cs, k, tn⟩) S).andThen fun _ => pure (.nx t)) E := h2
          unfold tapeSet at h3
          dsimp only at h3
          rw [hs] at h3
          exact h3 p G _ σ ow (r.step xx rr)
    · rw [e2] at h2
      exact h2.elim
  · rw [q] at h
    exact h.elim
end
end RM

namespace RM
open PySem PySem.Spec PyProof.Rows L2
variable [PgW]

def absI (i : Int) : Int := if i < 0 then -i else i
def begun (ns : List Int) : Tape := { large := ((ns.map absI).filter fun c => decide (10 ^ 18 ≤ c)).map fun c => c - 10 ^ 18, cells := ns.map absI, rest := 0, turn := 0 }
def begunD (ds : List D) : M D := fun S => match ds with
  | [.scr ns] => if ns.length ≤ 1000 then .ok (.mref S.length) (S ++ [.tape (begun ns)]) else .stuck
  | _ => .stuck
abbrev rAbs : List V → Hp → VK → Prop := fun xs H Q => ∃ i, xs = [.int i] ∧ Q (.int (if i < 0 then -i else i)) H
abbrev rPow : R2 := rI CPow fun i j => .int (i ^ j.toNat)
abbrev rMinus : R2 := rI0 fun i j => .int (i - j)
abbrev rGeq : R2 := rI0 fun i j => .bl (decide (j ≤ i))
abbrev t1018 : TE := tOp rPow (tC (.int 10)) (tC (.int 18))
def tBegun (K : PySem.W.Frag) : TS := tSeq (tAsg (tLc (iList K (tVar 0)) (gName 2) tYes (tCB rAbs (tCons (tVar 2) tNil)) [2]) (gName 1))
  (tRet (tDisp [(tC (.str "large"), tLc (iList K (tVar 1)) (gName 2) (tTest (tOp rGeq (tVar 2) t1018)) (tOp rMinus (tVar 2) t1018) [2]), (tC (.str "cells"), tVar 1), (tC (.str "rest"), tC (.int 0)), (tC (.str "turn"), tC (.int 0))]))
theorem cpow1018 : CPow 10 18 := ⟨by decide, by decide, by decide⟩
theorem begun_read {K : PySem.W.Frag} {N : List Str} (hN : N.length = 3) (vs : List V) (H : Hp) (Q : VK) (E : XK) (h : spD K 1 begunD vs H Q E) : tBegun K { nx := fun _ H' => Q .non H', rt := Q } (L2.start N vs) H := by
  obtain ⟨ds, p, G, S, el, dn, r, h⟩ := h
  obtain ⟨d, rfl⟩ : ∃ d, ds = [d] := by
    match ds, el with
    | [d], _ => exact ⟨d, rfl⟩
  obtain ⟨v, rfl, dv⟩ := denL1 dn
  have hs : L2.start N [v] = [some v, none, none] := by
    unfold L2.start
    rw [hN]
    rfl
  rw [hs]
  cases d <;> try exact h.elim
  rename_i ns
  · obtain ⟨a, rfl, ha⟩ := dv
    have h1 : okR (Den K) K p G H E (if ns.length ≤ 1000 then .ok (.mref S.length) (S ++ [.tape (begun ns)]) else .stuck) Q := h
    by_cases hl : ns.length ≤ 1000
    · rw [if_pos hl] at h1
      have big : ∀ m : Nat, m ≤ 1000 → m < sizeLine := fun m hm => Nat.lt_of_le_of_lt hm (by decide)
      refine ⟨_, rfl, a, rfl, ⟨_, r.sub.seq ha⟩, fun C hC => ?_⟩
      refine lc_list (K := K) (a := a) (xs := ns.map V.int) (fun i H' => H' = upd H C (.lst ((ns.take i).map fun z => V.int (absI z)))) (by simp) (fun i H' _ e => ?_) (fun i x H' hx e => ?_) fun H' e => ?_
      · subst e
        exact (Same.upd_of hC).seq (r.sub.seq ha)
      · subst e
        rw [List.getElem?_map] at hx
        obtain ⟨z, ez, rfl⟩ := Option.map_eq_some_iff.mp hx
        have hi := (List.getElem?_eq_some_iff.mp ez).1
        refine ⟨rfl, ?_⟩
        refine ⟨_, rfl, z, rfl, _, upd_same, by rw [List.length_map, List.length_take]; exact big _ (by omega), ?_⟩
        rw [upd_upd, List.take_add_one, ez, List.map_append]
        rfl
      · subst e
        rw [List.length_map, List.take_length]
        show tDisp _ [some (.ref a), some (.ref C), none] _ Q
        intro T hT
        have nT : C ≠ T := fun e => by rw [← e, upd_same] at hT; cases hT
        have hT0 : H T = none := by rw [upd_ne nT.symm] at hT; exact hT
        refine ⟨_, rfl, C, rfl, ⟨_, SqL.of (by rw [upd_ne nT, upd_same])⟩, fun L hL => ?_⟩
        have nLT : L ≠ T := fun e => by rw [e, upd_same] at hL; cases hL
        have nLC : L ≠ C := fun e => by rw [e, upd_ne nT, upd_same] at hL; cases hL
        have hL0 : H L = none := by rw [upd_ne nLT, upd_ne nLC] at hL; exact hL
        refine lc_list (K := K) (a := C) (xs := ns.map fun z => V.int (absI z)) (fun i H' => H' = upd (upd (upd H C (.lst (ns.map fun z => V.int (absI z)))) T (.dK [])) L (.lst ((((ns.map absI).take i).filter fun c => decide (10 ^ 18 ≤ c)).map fun c => V.int (c - 10 ^ 18)))) (by simp) (fun i H' _ e => ?_) (fun i x H' hx e => ?_) fun H' e => ?_
        · subst e
          exact SqL.of (by rw [upd_ne nLC.symm, upd_ne nT, upd_same])
        · subst e
          rw [List.getElem?_map] at hx
          obtain ⟨z, ez, rfl⟩ := Option.map_eq_some_iff.mp hx
          have hi := (List.getElem?_eq_some_iff.mp ez).1
          have ez' : (ns.map absI)[i]? = some (absI z) := by rw [List.getElem?_map, ez]; rfl
          have len : ∀ j, ((((ns.map absI).take j).filter fun c => decide ((10 : Int) ^ 18 ≤ c)).map fun c => V.int (c - 10 ^ 18)).length < sizeLine := fun j => by
            rw [List.length_map]
            refine big _ (Nat.le_trans (List.length_filter_le _ _) ?_)
            rw [List.length_take, List.length_map]
            omega
          refine ⟨rfl, _, rfl, 10, 18, rfl, rfl, cpow1018, _, _, rfl, rfl, _, rfl, ?_⟩
          by_cases hc : (10 : Int) ^ 18 ≤ absI z
          · rw [show decide ((10 : Int) ^ (18 : Int).toNat ≤ absI z) = true from decide_eq_true hc]
            refine iteT ⟨_, rfl, 10, 18, rfl, rfl, cpow1018, _, _, rfl, rfl, _, upd_same, len i, ?_⟩
            rw [upd_upd, List.take_add_one, ez', List.filter_append]
            have : (Option.toList (some (absI z))).filter (fun c => decide ((10 : Int) ^ 18 ≤ c)) = [absI z] := by
              show List.filter _ [absI z] = _
              rw [List.filter_cons, decide_eq_true hc]; rfl
            rw [this, List.map_append]
            rfl
          · rw [show decide ((10 : Int) ^ (18 : Int).toNat ≤ absI z) = false from decide_eq_false hc]
            refine iteF ?_
            rw [List.take_add_one, ez', List.filter_append]
            have : (Option.toList (some (absI z))).filter (fun c => decide ((10 : Int) ^ 18 ≤ c)) = [] := by
              show List.filter _ [absI z] = _
              rw [List.filter_cons, decide_eq_false hc]; rfl
            rw [this, List.append_nil]
        · subst e
          rw [List.length_map]
          have et : (ns.map absI).take ns.length = ns.map absI := List.take_of_length_le (by rw [List.length_map]; exact Nat.le_refl _)
          rw [et]
          refine ⟨_, rfl, ?_⟩
          refine ⟨by rw [upd_ne nLT.symm, upd_same], [(.inr "large", .ref L), (.inr "cells", .ref C), (.inr "rest", .int 0), (.inr "turn", .int 0)], rfl, by show 4 ≤ 15; decide, ?_⟩
          have em : mergeK [] [(.inr "large", .ref L), (.inr "cells", .ref C), (.inr "rest", .int 0), (.inr "turn", .int 0)] = ([(.inr "large", .ref L), (.inr "cells", .ref C), (.inr "rest", .int 0), (.inr "turn", .int 0)] : List (Key × V)) := rfl
          rw [em]
          have far : ∀ b o, H b = some o → upd (upd (upd (upd H C (.lst (ns.map fun z => V.int (absI z)))) T (.dK [])) L (.lst (((ns.map absI).filter fun c => decide ((10 : Int) ^ 18 ≤ c)).map fun c => V.int (c - 10 ^ 18)))) T (.dK [(.inr "large", .ref L), (.inr "cells", .ref C), (.inr "rest", .int 0), (.inr "turn", .int 0)]) b = some o := fun b o e => by
            rw [upd_ne (ne_of_none e hT0), upd_ne (ne_of_none e hL0), upd_ne (ne_of_none e hT0), upd_ne (ne_of_none e hC)]
            exact e
          have new : ∀ b ∈ [T, L, C], H b = none := fun b hb => by
            simp at hb
            rcases hb with rfl | rfl | rfl
            · exact hT0
            · exact hL0
            · exact hC
          have old : ∀ b, H b ≠ none → upd (upd (upd (upd H C (.lst (ns.map fun z => V.int (absI z)))) T (.dK [])) L (.lst (((ns.map absI).filter fun c => decide ((10 : Int) ^ 18 ≤ c)).map fun c => V.int (c - 10 ^ 18)))) T (.dK [(.inr "large", .ref L), (.inr "cells", .ref C), (.inr "rest", .int 0), (.inr "turn", .int 0)]) b = H b := fun b e => by
            cases q : H b with
            | none => exact absurd q e
            | some o => exact far b o q
          have fl : (p ++ [[T, L, C]]).flatten = p.flatten ++ [T, L, C] := by simp
          refine h1 (.ref T) (p ++ [[T, L, C]]) G _ ⟨T, [L, C], by rw [← r.len, List.getElem?_append_right (Nat.le_refl _), Nat.sub_self]; rfl, rfl⟩ ⟨fun b o e => far b o (r.sub b o e), by simp [r.len], fun i as o e1 e2 => ?_, ?_, fun b hb => ?_⟩ ⟨Same.refl _, fun _ z _ => z, fun b o e _ => far b o e, fun b e => by rw [old b e]; exact e, [[T, L, C]], rfl, fun b hb => new b (by simpa using hb)⟩
          · by_cases hi : i < p.length
            · rw [List.getElem?_append_left hi] at e1
              rw [List.getElem?_append_left (by rw [← r.len]; exact hi)] at e2
              have m := r.mo i as o e1 e2
              exact m.mono ⟨_, rfl⟩ (Same.refl _) fun b hb => old b (m.dom b hb)
            · have hi2 : i = p.length := by
                have := (List.getElem?_eq_some_iff.mp e1).1
                rw [List.length_append, List.length_singleton] at this
                omega
              subst hi2
              rw [List.getElem?_append_right (Nat.le_refl _), Nat.sub_self] at e1
              rw [r.len, List.getElem?_append_right (Nat.le_refl _), Nat.sub_self] at e2
              cases e1
              cases e2
              refine ⟨upd_same, ?_, ?_⟩
              · rw [upd_ne nLT, upd_same]
                unfold begun
                rw [List.map_map]
                rfl
              · rw [upd_ne nT, upd_ne nLC.symm, upd_ne nT, upd_same]
                unfold begun
                rw [List.map_map]
                rfl
          · rw [fl]
            refine List.nodup_append.mpr ⟨r.nd, by simp; exact ⟨⟨nLT.symm, nT.symm⟩, nLC⟩, fun b hb b' hb' e => ?_⟩
            subst e
            exact r.dom hb (new b hb')
          · rw [fl] at hb
            rcases List.mem_append.mp hb with z | z
            · exact r.gn b z
            · exact r.gfree (new b z)
    · rw [if_neg hl] at h1
      exact h1.elim
end RM

namespace RM
open PySem PySem.Spec PyProof.Rows L2
variable [PgW]

def reprD : List D → M D
  | [d] => match toPy d with
    | some x => if x.showable = true ∧ x.depth ≤ 64 ∧ x.shown.length ≤ sizeLine then pure (.str x.shown) else stuck
    | none => stuck
  | _ => stuck
mutual
theorem toPy_noDict : ∀ {d : D} {x : PyData}, toPy d = some x → x.hasDict = false
  | .non, _, e => by cases e; rfl
  | .bl _, _, e => by cases e; rfl
  | .int _, _, e => by cases e; rfl
  | .str _, _, e => by cases e; rfl
  | .tup xs, _, e => by
    obtain ⟨ys, e1, e2⟩ := Option.map_eq_some_iff.mp (show (toPyL xs).map PyData.tuple = some _ from e)
    subst e2
    exact toPyL_noDict e1
  | .lst xs, _, e => by
    obtain ⟨ys, e1, e2⟩ := Option.map_eq_some_iff.mp (show (toPyL xs).map PyData.list = some _ from e)
    subst e2
    exact toPyL_noDict e1
  | .ins _ _ _, _, e => by cases e
  | .mref _, _, e => by cases e
  | .dic _ _, _, e => by cases e
  | .scr _, _, e => by cases e
  | .xcp _ _ _, _, e => by cases e
  | .dct _ _, _, e => by cases e
theorem toPyL_noDict : ∀ {d : List D} {x : List PyData}, toPyL d = some x → PyData.hasDictAll x = false
  | [], _, e => by cases e; rfl
  | y :: ys, _, e => by
    have e' : (match toPy y, toPyL ys with
      | some y, some ys => some (y :: ys)
      | _, _ => none) = some _ := e
    cases q1 : toPy y with
    | none => rw [q1] at e'; cases e'
    | some z =>
      cases q2 : toPyL ys with
      | none => rw [q1, q2] at e'; cases e'
      | some zs =>
        rw [q1, q2] at e'
        cases e'
        show (z.hasDict || PyData.hasDictAll zs) = false
        rw [toPy_noDict q1, toPyL_noDict q2]
        rfl
end
section
variable {X : Cx} {W : WX} {a b : Expr} {es : List Expr} {ma mb : DSt → M D} {ms : DSt → M (List D)} {pos p p1 p2 : Pos} {x : Str}
end
def isTape : MO → Bool
  | .tape _ => true
  | _ => false
theorem MoAt.any {K : PySem.W.Frag} {p p' : List (List Addr)} {G G' H : Hp} : ∀ {as : List Addr} {o : MO}, MoAt K p G H as o → isTape o = true → MoAt K p' G' H as o
  | [_, _, _], .tape _, h, _ => h
  | [_], .inst _ _ _, _, e => by cases e
  | [_], .tab _ _, _, e => by cases e
section
variable {X : Cx} {W : WX} {a : Expr} {ma : DSt → M D} {pos p1 pp : Pos} {k : Nat} {f : Addr} {fd : FuncData} {ps : List Str} {g : List D → M D} {x y : Str}
end
end RM

namespace RM
open PySem PySem.Spec PyProof.Rows L2
variable [PgW]
section
variable {X : Cx} {W : Wf} {e tg : Expr} {pos : Pos} {ma mb mc : DSt → M D}
end
section
variable {X : Cx} {W : WX} {a b c : Expr} {pos : Pos} {ma mb mc : DSt → M D} {op op' : CmpOp} {r r' : R2} {f f' : D → D → M D}
end
section
variable {X : Cx} {W : WX} {pos : Pos}
def dicD (ks : List Key) (xs : List D) : M D := if ks.Nodup ∧ ks.length ≤ 15 ∧ xs.length = ks.length then pure (.dic ks xs) else stuck
theorem mergeK_nodup : ∀ {ks : List Key} {vs : List V} {acc : List (Key × V)}, ks.Nodup → (∀ k ∈ ks, valV acc k = none) → mergeK acc (ks.zip vs) = acc ++ ks.zip vs
  | [], vs, acc, _, _ => by simp [mergeK]
  | k :: ks, [], acc, _, _ => by simp [mergeK]
  | k :: ks, v :: vs, acc, nd, h => by
    have nd' := List.nodup_cons.mp nd
    show mergeK (putK acc k v) (ks.zip vs) = _
    rw [putK_new v (h k (by simp)), mergeK_nodup nd'.2 fun z hz => ?_]
    · simp
    · have h1 := h z (by simp [hz])
      have ne : k ≠ z := by rintro rfl; exact nd'.1 hz
      unfold valV at h1 ⊢
      rw [List.find?_append]
      cases q : List.find? (fun kv => decide (kv.1 = z)) acc with
      | none => simp [List.find?_cons, ne]
      | some y => rw [q] at h1; simp at h1
theorem frozen_at {K : PySem.W.Frag} {p p' : List (List Addr)} {G H G' H' : Hp} {S' : Sto} {a : Addr} (o : HO) (x : Ext p G H p' G' H') (r : Rel0 K p' S' G' H') (h0 : H a = none) (h3 : G' a = none) (h4 : a ∉ p'.flatten) : Rel0 K p' S' (upd G' a o) (upd H' a o) ∧ Ext p G H p' (upd G' a o) (upd H' a o) := by
  refine ⟨⟨fun b u e => ?_, r.len, fun i as u e1 e2 => (r.mo i as u e1 e2).mono ⟨[], by simp⟩ (Same.upd_of h3) fun b hb => ?_, r.nd, fun b hb => ?_⟩, ⟨x.g.trans (Same.upd_of h3), fun b hb1 hb2 => ?_, fun b u hb1 hb2 => ?_, fun b hb => ?_, x.p⟩⟩
  · by_cases q : b = a
    · subst q; rw [upd_same] at e ⊢; exact e
    · rw [upd_ne q] at e ⊢; exact r.sub b u e
  · have : b ≠ a := by
      rintro rfl
      exact h4 (List.mem_flatten.mpr ⟨as, List.mem_of_getElem? e1, hb⟩)
    exact upd_ne this
  · have : b ≠ a := by rintro rfl; exact h4 hb
    rw [upd_ne this]; exact r.gn b hb
  · have : b ≠ a := by rintro rfl; exact hb2 h0
    rw [upd_ne this]; exact x.gn b hb1 hb2
  · have : b ≠ a := by rintro rfl; rw [h0] at hb1; cases hb1
    rw [upd_ne this]; exact x.h b u hb1 hb2
  · by_cases q : b = a
    · subst q; rw [upd_same]; simp
    · rw [upd_ne q]; exact x.d b hb
theorem pe_lockD {X : Cx} {e : Expr} {t : TE} (h : PE X e t) : PE X e (fun σ H Q => t σ H fun v H' => ∃ a u, v = .ref a ∧ H' a = some u ∧ Mut (some u) ∧ ∀ ob, Q v (upd H' a (.frz ob u))) := by
  refine ⟨fun pins s σ H Q I q => thn (h.run pins s σ H _ I q) fun r s1 ⟨v, H1, I1, rv, a, u, e1, e2, mu, k⟩ => ?_⟩
  obtain ⟨ob, I2⟩ := I1.lock e2 mu
  exact ⟨v, _, I2, rv, k ob⟩
structure DP (X : Cx) (W : WX) (pos : Pos) (keys : List (Option Expr)) (values : List Expr) (ks : List Key) (m : DSt → M (List D)) : Prop where
  ex : ∃ trs, PPs X pos keys values trs ∧ ∀ σ H Q, (tDA X.K W m) σ H (fun vs H' => vs.length = ks.length → Q ((ks.zip vs).map fun kv => (kV kv.1, kv.2)) H') → tPairs trs σ H Q
  len : ∀ t S xs S', m t S = .ok xs S' → xs.length = ks.length
theorem dp_nil : DP X W pos [] [] [] (fun _ => pure []) := ⟨⟨[], pps_nil, fun σ H Q ⟨t, p, G, S, ow, r, h⟩ => okR.fin (d := []) h DenL.nil r.rel rfl⟩, fun t S xs S' e => by cases e; rfl⟩
theorem dp_cons {ke ve : Expr} {keys : List (Option Expr)} {values : List Expr} {k : Key} {ks : List Key} {mv : DSt → M D} {m : DSt → M (List D)} (hk : PE X ke (tC (kV k))) (hv : DE X W ve mv) (hr : DP X W pos keys values ks m) :
    DP X W pos (some ke :: keys) (ve :: values) (k :: ks) (fun t => do let x ← mv t; let xs ← m t; pure (x :: xs)) := by
  obtain ⟨⟨trs, h1, h2⟩, hl⟩ := hr
  refine ⟨⟨_, pps_cons hk hv h1, fun σ H Q ⟨t, p, G, S, ow, r, h⟩ => ?_⟩, fun t S xs S' e => ?_⟩
  · refine ⟨t, p, G, S, ow, r, okR.seq h fun d S1 v p1 G1 H1 e1 dn r1 x1 h1 => ?_⟩
    refine h2 _ _ _ (tDA.next r x1 r1 (okR.seq h1 fun d2 S2 v2 p2 G2 H2 e2 dn2 r2 x2 h3 => ?_))
    intro hz
    exact okR.fin (d := d :: d2) h3 (DenL.cons (dn.mono x2.pp x2.g) dn2) r2 (by rw [List.length_cons, List.length_cons, hz])
  · have e' : ((mv t S).andThen fun x => (do let xs ← m t; pure (x :: xs) : M (List D))) = .ok xs S' := e
    cases q : mv t S with
    | ok x S1 =>
      rw [q] at e'
      have e2 : ((m t S1).andThen fun xs => (pure (x :: xs) : M (List D))) = .ok xs S' := e'
      cases q2 : m t S1 with
      | ok ys S2 =>
        rw [q2] at e2
        cases e2
        rw [List.length_cons, List.length_cons, hl _ _ _ _ q2]
      | exc z S2 => rw [q2] at e2; cases e2
      | stuck => rw [q2] at e2; cases e2
    | exc z S1 => rw [q] at e'; cases e'
    | stuck => rw [q] at e'; cases e'
theorem de_dict {keys : List (Option Expr)} {values : List Expr} {ks : List Key} {m : DSt → M (List D)} (h : DP X W pos keys values ks m) (hall : keys.all (·.isSome) = true := by rfl) (hl : keys.length = values.length := by rfl) (h0 : keys ≠ [] := by intro h; cases h) (h15 : keys.length ≤ 15 := by decide) :
    DE X W (.Dict keys values pos) (fun t => do let xs ← m t; dicD ks xs) := by
  obtain ⟨⟨trs, h1, h2⟩, hlen⟩ := h
  refine PE.imp (pe_lockD (pe_disp h1 hall hl h0 h15)) fun σ H Q ⟨t, p, G, S, ow, r, h⟩ a ha => ?_
  have ga := r.rel.gfree ha
  have pa : a ∉ p.flatten := fun z => r.rel.dom z ha
  have aow : a ∉ ow := fun z => r.sl.dom a z ha
  have x0 : Ext p G H p G (upd H a (.dK [])) := ⟨Same.refl _, fun _ h _ => h, fun b o e _ => by rw [upd_ne (ne_of_none e ha)]; exact e, fun b hb => by
    by_cases q : b = a
    · subst q; rw [upd_same]; simp
    · rw [upd_ne q]; exact hb, [], by simp, by simp⟩
  have r0 := r.rel.own (.dK []) pa ga
  have rs0 := r.ext x0 r0
  refine h2 _ _ _ ⟨t, p, G, S, ow, rs0, ?_⟩
  have h' : okR (Den X.K) X.K p G H (fun c d H' => W c d σ H') ((m t S).andThen (dicD ks)) Q := h
  cases e : m t S with
  | stuck =>
    rw [e] at h'
    exact h'
  | exc z S1 =>
    rw [e] at h'
    exact fun cls dd p' G' H' y1 y2 y3 => h' cls dd p' G' H' y1 y2 (x0.trans y3)
  | ok xs S1 =>
    rw [e] at h'
    intro vs p' G' H' dn r' x' hvl
    have hH : H' a = some (.dK []) := x'.h a _ upd_same pa
    have hG : G' a = none := x'.gn a ga (by rw [upd_same]; simp)
    obtain ⟨q, eq, fq⟩ := x'.p
    have hp : a ∉ p'.flatten := by
      rw [eq, List.flatten_append, List.mem_append]
      rintro (z | z)
      · exact pa z
      · have := fq a z
        rw [upd_same] at this
        cases this
    have h3 : okR (Den X.K) X.K p G H (fun c d H' => W c d σ H') (dicD ks xs S1) Q := h'
    unfold dicD at h3
    split at h3
    · rename_i cond
      have zz := List.length_zip (l₁ := ks) (l₂ := vs)
      refine ⟨hH, ks.zip vs, rfl, by omega, ?_⟩
      rw [mergeK_nodup cond.1 (fun _ _ => rfl), List.nil_append]
      refine ⟨a, _, rfl, upd_same, True.intro, fun ob => ?_⟩
      obtain ⟨R1, R2⟩ := frozen_at (.frz ob (.dK (ks.zip vs))) (x0.trans x') r' ha hG hp
      rw [upd_upd]
      exact h3 (.ref a) p' _ _ ⟨a, ob, vs, rfl, upd_same, hvl, dn.upd hG⟩ R1 R2
    · exact (h3 : False).elim
theorem de_dict0 : DE X W (.Dict [] [] pos) (fun _ => pure (.dic [] [])) := by
  refine PE.imp (pe_lockD pe_dnewK) fun σ H Q ⟨t, p, G, S, ow, r, h⟩ a ha => ⟨a, _, rfl, upd_same, True.intro, fun ob => ?_⟩
  obtain ⟨R1, R2⟩ := r.rel.new (.frz ob (.dK [])) ha
  rw [upd_upd]
  exact h (.ref a) p _ _ ⟨a, ob, [], rfl, upd_same, rfl, rfl⟩ R1 R2
end
end RM

namespace RM
open PySem PySem.Spec PyProof.Rows L2
variable [PgW]
def okM (K : PySem.W.Frag) (p : List (List Addr)) (G H : Hp) (W : Value → Option Addr → Hp → Prop) (r : Res (List DV)) (Q : List V → Hp → Prop) : Prop := match r with
  | .ok xs S' => ∀ vs p' G' H' ow', SlotsR K p' G' H' (xs.map some) (vs.map some) ow' → (p'.flatten ++ ow').Nodup → (∀ a ∈ ow', G' a = none ∧ H a = none) → Rel0 K p' S' G' H' → Ext p G H p' G' H' → Q vs H'
  | .exc e S' => ∀ cls dd p' G' H', ExcAt K p' G' e cls dd → Rel0 K p' S' G' H' → Ext p G H p' G' H' → W cls dd H'
  | .stuck => False
section
variable {K : PySem.W.Frag} {p p1 : List (List Addr)} {G H G1 H1 : Hp} {W : Value → Option Addr → Hp → Prop} {Q : List V → Hp → Prop}
theorem Ext.none {a : Addr} (e : Ext p G H p1 G1 H1) (h : H1 a = none) : H a = none := by
  cases q : H a with
  | none => rfl
  | some o => exact absurd h (e.d a (by rw [q]; simp))
theorem okM.ext {r : Res (List DV)} (h : okM K p G H W r Q) (e : Ext p G H p1 G1 H1) : okM K p1 G1 H1 W r Q := by
  cases r with
  | ok d S' => exact fun vs p' G' H' ow' a1 a2 a3 a4 a5 => h vs p' G' H' ow' a1 a2 (fun b hb => ⟨(a3 b hb).1, e.none (a3 b hb).2⟩) a4 (e.trans a5)
  | exc x S' => exact fun cls dd p' G' H' a b c => h cls dd p' G' H' a b (e.trans c)
  | stuck => exact h
theorem okM.seq {α β : Type} {R1 : List (List Addr) → Hp → α → β → Prop} {S : Sto} {m : M α} {f : α → M (List DV)} {Q1 : β → Hp → Prop} (h : okM K p G H W ((m >>= f) S) Q)
    (k : ∀ d S1 v p1 G1 H1, R1 p1 G1 d v → Rel0 K p1 S1 G1 H1 → Ext p G H p1 G1 H1 → okM K p1 G1 H1 W (f d S1) Q → Q1 v H1) : okR R1 K p G H W (m S) Q1 := by
  have h' : okM K p G H W ((m S).andThen f) Q := h
  cases e : m S with
  | ok d S1 =>
    rw [e] at h'
    exact fun v p1 G1 H1 a b c => k d S1 v p1 G1 H1 a b c (okM.ext h' c)
  | exc x S1 => rw [e] at h'; exact h'
  | stuck => rw [e] at h'; exact h'
end
section
variable {X : Cx} {W : WX} {a : Expr} {es : List Expr} {ma : DSt → M D} {mf : DSt → M (List D)} {ms : DSt → M (List DV)}
end
section
variable {X : Cx} {W : Wf} {pos : Pos}
end
end RM

namespace RM
open PySem PySem.Spec PyProof.Rows L2
variable [PgW]
def era (G : Hp) (l : Addr) : Hp := fun a => if a = l then none else G a
theorem era_ne {G : Hp} {l a : Addr} (h : a ≠ l) : era G l a = G a := if_neg h
mutual
theorem Den.era {K : PySem.W.Frag} {p : List (List Addr)} {G : Hp} {l : Addr} {ws : List V} (hl : G l = some (.lst ws)) : ∀ {d : D} {v : V}, noLst d = true → Den K p G d v → Den K p (RM.era G l) d v
  | .non, _, _, h => h
  | .bl _, _, _, h => h
  | .int _, _, _, h => h
  | .str _, _, _, h => h
  | .tup xs, _, n, ⟨a, vs, h1, h2, h3⟩ => by
    refine ⟨a, vs, h1, ?_, DenL.era hl (show noLstL xs = true from n) h3⟩
    rcases h2 with (h | ⟨o, h⟩) | h
    · exact .inl (.inl ((era_ne (by rintro rfl; rw [hl] at h; cases h)).trans h))
    · exact .inl (.inr ⟨o, (era_ne (by rintro rfl; rw [hl] at h; cases h)).trans h⟩)
    · exact .inr h
  | .lst _, _, n, _ => by cases n
  | .ins _ _ fs, _, n, ⟨a, dx, vs, h1, h2, h4, h3⟩ => ⟨a, dx, vs, h1, (era_ne (by rintro rfl; rw [hl] at h2; cases h2)).trans h2, h4, DenL.era hl (show noLstL fs = true from n) h3⟩
  | .mref _, _, _, h => h
  | .dic _ xs, _, n, ⟨a, o, vs, h1, h2, h4, h3⟩ => ⟨a, o, vs, h1, (era_ne (by rintro rfl; rw [hl] at h2; cases h2)).trans h2, h4, DenL.era hl (show noLstL xs = true from n) h3⟩
  | .scr _, _, n, _ => by cases n
  | .xcp _ _ fs, _, n, ⟨a, dd, vs, h1, h2, h3, h4, h5⟩ => ⟨a, dd, vs, h1, (era_ne (by rintro rfl; rw [hl] at h2; unfold XcO at h2; cases h2)).trans h2, h3.imp id fun ⟨d, q1, q2⟩ => ⟨d, q1, (era_ne (by rintro rfl; rw [hl] at q2; cases q2)).trans q2⟩, h4, DenL.era hl (show noLstL fs = true from n) h5⟩
  | .dct _ xs, _, n, ⟨a, o, u, h1, h2, h3⟩ => ⟨a, o, u, h1, (era_ne (by rintro rfl; rw [hl] at h2; cases h2)).trans h2, h3.imp id fun ⟨es, vs, g3, h3, h4, h5, h6⟩ => ⟨es, vs, g3, h3, fun x hx => by
    rcases h4 x hx with (h | ⟨o, h⟩) | h
    · exact .inl (.inl ((era_ne (by rintro rfl; rw [hl] at h; cases h)).trans h))
    · exact .inl (.inr ⟨o, (era_ne (by rintro rfl; rw [hl] at h; cases h)).trans h⟩)
    · exact .inr h, h5, DenL.era hl (show noLstL xs = true from n) h6⟩⟩
theorem DenL.era {K : PySem.W.Frag} {p : List (List Addr)} {G : Hp} {l : Addr} {ws : List V} (hl : G l = some (.lst ws)) : ∀ {ds : List D} {vs : List V}, noLstL ds = true → DenL K p G ds vs → DenL K p (RM.era G l) ds vs
  | [], _, _, h => h
  | d :: ds, _, n, ⟨v, r, h1, h2, h3⟩ => by
    have n' := Bool.and_eq_true_iff.mp (show (noLst d && noLstL ds) = true from n)
    exact ⟨v, r, h1, Den.era hl n'.1 h2, DenL.era hl n'.2 h3⟩
end
theorem MoAt.era {K : PySem.W.Frag} {p : List (List Addr)} {G H : Hp} {l : Addr} {ws : List V} (hl : G l = some (.lst ws)) : ∀ {as : List Addr} {o : MO}, MoAt K p G H as o → MoAt K p (RM.era G l) H as o
  | [_, _, _], .tape _, h => h
  | [_], .inst _ _ fs, ⟨n, dx, vs, h1, h2, h3⟩ => ⟨n, dx, vs, h1, h2, h3.era hl n⟩
  | [_], .tab _ _, ⟨h0, ps, h1, h2, h3⟩ => ⟨h0, ps, h1, h2, fun pos cv z => let ⟨c, e1, e2⟩ := h3 pos cv z; ⟨c, e1, (era_ne (by rintro rfl; rw [hl] at e2; unfold LamX.CodeO at e2; cases e2)).trans e2⟩⟩
def checked {β : Type} (ok : β → Bool) : Res β → Res β
  | .ok d S' => if ok d = true then .ok d S' else .stuck
  | _ => .stuck
section
variable {K : PySem.W.Frag} {p : List (List Addr)} {G H : Hp} {S : Sto} {t : DSt} {σ : L2.St} {ow : List Addr} {i : Nat} {xs : List D}
end
section
variable {X : Cx} {W : WX} {e : Expr} {m : DSt → M D} {mt : DSt → M Bool}
end
end RM

namespace RM
open PySem PySem.Spec PyProof.Rows L2
variable [PgW]

abbrev MD := DSt → M D
abbrev mVar (i : Nat) : MD := fun t => getV t i
abbrev mC (d : D) : MD := fun _ => pure d
abbrev m2 (f : D → D → M D) (a b : MD) : MD := fun t => do let x ← a t; let y ← b t; f x y
abbrev mNil : DSt → M (List D) := fun _ => pure []
abbrev mCons (a : MD) (b : DSt → M (List D)) : DSt → M (List D) := fun t => do let x ← a t; let xs ← b t; pure (x :: xs)
abbrev mA (f : List D → M D) (a : DSt → M (List D)) : MD := fun t => do let xs ← a t; f xs
abbrev mT (a : MD) : DSt → M Bool := fun t => do let x ← a t; asB x
abbrev tAndM (a b : DSt → M Bool) : DSt → M Bool := fun t => do if ← a t then b t else pure false
abbrev mIf (c : DSt → M Bool) (a b : MD) : MD := fun t => do if ← c t then a t else b t
abbrev SD := DSt → M Ctl
abbrev sSeq (a b : SD) : SD := fun t => do let c ← a t; seqC b c
abbrev sNil : SD := fun t => pure (.nx t)
abbrev sRet (a : MD) : SD := fun t => do let x ← a t; pure (.rt x)
abbrev sIf (c : DSt → M Bool) (a b : SD) : SD := fun t => do if ← c t then a t else b t
abbrev sSet (i : Nat) (a : MD) : SD := fun t => do let d ← a t; let t' ← liftO (setV t i d); pure (.nx t')
end RM

namespace RM
open PySem PySem.Spec PyProof.Rows L2
variable [PgW]
section
variable {K : PySem.W.Frag} {x qual : Str} {params : Arguments} {body : List Stmt} {scope : Scope} {dvs : List V} {kws : List (Str × V)} {f : Addr} {fd : FuncData} {ps : List Str}
structure Own (P : Program) (w : World) (K : PySem.W.Frag) (mg : Str → Option Value) (base : Heap) (k : Nat) (f : Addr) (fd : FuncData) (ps : List Str) (g : List D → M D) : Prop where
  fn : FnD P w K mg base k f fd ps g
  kp : PySem.W.keepIn K (.ref f) = true
theorem funSame {x' qual' : Str} {params' : Arguments} {body' : List Stmt} {scope' : Scope} {dvs' : List V} {kws' : List (Str × V)} {fd' : FuncData} (F : FunD K x qual params body scope dvs kws f fd) (F' : FunD K x' qual' params' body' scope' dvs' kws' f fd') : fd' = fd := by
  obtain ⟨oc, od, dV, kV, doc, pm, an, cdv, ct, osl, _, lk, _⟩ := F.ex
  obtain ⟨oc', od', dV', kV', doc', pm', an', cdv', ct', osl', _, lk', _⟩ := F'.ex
  rw [lk] at lk'
  cases lk'
  rfl
def arK : {α : Type} → List α → List α → List α → List α := fun _ ws _ => ws
end
theorem units1 {k : Nat} {A : Around} (r : Room k A) : A.units + 1 < cLine := by have := r.un; omega
theorem units66 {k : Nat} {A : Around} (r : Room k A) : A.units + 66 < cLine := by have := r.un; omega
def drawB : SD :=
  sSeq (fun t => whileD (tAndM (mT (m2 eqD (fun t => do let o ← getV t 0; let tp ← tapeOf o; pure (.int tp.rest)) (mC (.int 0)))) (fun t => do let o ← getV t 0; let tp ← tapeOf o; pure (!tp.large.isEmpty))) (fun t => do let o ← getV t 0; popLarge o; pure (.nx t)) 1100 t)
  (sSeq (sIf (mT (m2 gtD (fun t => do let o ← getV t 0; let tp ← tapeOf o; pure (.int tp.rest)) (mC (.int 0))))
    (sSeq (sSet 2 (m2 modD (mA intD (mCons (fun t => do let o ← getV t 0; let tp ← tapeOf o; pure (.int tp.rest)) mNil)) (mVar 1)))
      (sSeq (fun t => do let v ← m2 fdivD (fun t => do let o ← getV t 0; let tp ← tapeOf o; pure (.int tp.rest)) (mVar 1) t; let o ← getV t 0; restD o v; pure (.nx t))
        (sRet (mVar 2)))) sNil)
  (sSeq (sSet 3 (m2 addD (fun t => do let o ← getV t 0; let tp ← tapeOf o; pure (.int tp.turn)) (mC (.int 1))))
  (sSeq (fun t => do let v ← mVar 3 t; let o ← getV t 0; turnD o v; pure (.nx t))
  (sSeq (sSet 4 (mIf (fun t => do let o ← getV t 0; let tp ← tapeOf o; pure (!tp.cells.isEmpty)) (fun t => do let o ← getV t 0; let _ ← tapeOf o; let k ← m2 modD (mA intD (mCons (mVar 3) mNil)) (fun t => do let o ← getV t 0; let tp ← tapeOf o; pure (.int tp.cells.length)) t; let tp ← tapeOf o; cellD tp k) (mC (.int 0))))
  (sSeq (sSet 5 (m2 modD (mA intD (mCons (m2 powD (m2 addD (m2 addD (m2 modD (mA intD (mCons (mVar 4) mNil)) (mC (.int 2147483629))) (m2 mulD (mC (.int 48271)) (mVar 3))) (mC (.int 13579))) (mC (.int 3))) mNil)) (mC (.int 2147483647))))
  (sRet (m2 modD (mA intD (mCons (m2 fdivD (m2 modD (mA intD (mCons (m2 powD (m2 addD (mVar 5) (m2 mulD (mC (.int 99991)) (mVar 3))) (mC (.int 5))) mNil)) (mC (.int 2147483587))) (mC (.int 23))) mNil)) (mVar 1))))))))
def drawM : List D → M D := runB 6 drawB
end RM

namespace RM
open PySem PySem.Spec PyProof.Rows L2
variable [PgW]
@[simp] theorem run_bind {a b : Type} (m : M a) (f : a → M b) (s : Sto) : (m >>= f) s = (m s).andThen f := Eq.trans rfl rfl
@[simp] theorem run_pure {a : Type} (x : a) (s : Sto) : (pure x : M a) s = .ok x s := Eq.trans rfl rfl
@[simp] theorem run_stuck {a : Type} (s : Sto) : (stuck : M a) s = .stuck := Eq.trans rfl rfl
@[simp] theorem getV_0 (d : D) (t : DSt) : getV (some (.val d) :: t) 0 = pure d := Eq.trans rfl rfl
@[simp] theorem getV_s (x : Option DV) (t : DSt) (i : Nat) : getV (x :: t) (i + 1) = getV t i := Eq.trans rfl rfl
@[simp] theorem getO_0 (d : List D) (t : DSt) : getO (some (.own d) :: t) 0 = pure d := Eq.trans rfl rfl
@[simp] theorem getO_s (x : Option DV) (t : DSt) (i : Nat) : getO (x :: t) (i + 1) = getO t i := Eq.trans rfl rfl
@[simp] theorem setV_0 (d : D) (x : Option DV) (t : DSt) : setV (x :: t) 0 d = some (some (.val d) :: t) := Eq.trans rfl rfl
@[simp] theorem setV_s (d : D) (x : Option DV) (t : DSt) (i : Nat) : setV (x :: t) (i + 1) d = (setV t i d).map (x :: ·) := by
  unfold setV
  rw [List.length_cons]
  by_cases h : i < t.length
  · rw [if_pos h, if_pos (by omega)]; rfl
  · rw [if_neg h, if_neg (by omega)]; rfl
@[simp] theorem setO_0 (d : List D) (x : Option DV) (t : DSt) : setO (x :: t) 0 d = some (some (.own d) :: t) := Eq.trans rfl rfl
@[simp] theorem setO_s (d : List D) (x : Option DV) (t : DSt) (i : Nat) : setO (x :: t) (i + 1) d = (setO t i d).map (x :: ·) := by
  unfold setO
  rw [List.length_cons]
  by_cases h : i < t.length
  · rw [if_pos h, if_pos (by omega)]; rfl
  · rw [if_neg h, if_neg (by omega)]; rfl
@[simp] theorem liftO_some {α : Type} (x : α) : (liftO (some x) : M α) = pure x := Eq.trans rfl rfl
@[simp] theorem seqC_nx (u : DSt → M Ctl) (t : DSt) : seqC u (.nx t) = u t := Eq.trans rfl rfl
@[simp] theorem seqC_rt (u : DSt → M Ctl) (d : D) : seqC u (.rt d) = pure (.rt d) := Eq.trans rfl rfl
@[simp] theorem endC_rt (d : D) : endC (.rt d) = pure d := Eq.trans rfl rfl
@[simp] theorem endC_nx (t : DSt) : endC (.nx t) = pure .non := Eq.trans rfl rfl
@[simp] theorem asB_bl (b : Bool) : asB (.bl b) = pure b := Eq.trans rfl rfl
class Pre where
  pre : Sto
  ix : Nat
  hx : pre.length = ix
section
variable [Pre]
abbrev onT (tp : Tape) : Sto := Pre.pre ++ [.tape tp]
theorem onT_get (tp : Tape) : (onT tp)[Pre.ix]? = some (.tape tp) := by
  rw [← Pre.hx, List.getElem?_append_right (Nat.le_refl _), Nat.sub_self]; rfl
theorem onT_set (tp tq : Tape) : (onT tp).set Pre.ix (.tape tq) = onT tq := by
  rw [← Pre.hx]
  show (Pre.pre ++ [MO.tape tp]).set Pre.pre.length (.tape tq) = _
  rw [List.set_append_right _ _ (Nat.le_refl _), Nat.sub_self]; rfl
@[simp] theorem tapeOf_0 (tp : Tape) : tapeOf (.mref Pre.ix) (onT tp) = .ok tp (onT tp) := by
  unfold tapeOf
  dsimp only
  rw [onT_get]
@[simp] theorem tapeSet_0 (tp tq : Tape) : tapeSet (.mref Pre.ix) tq (onT tp) = .ok () (onT tq) := by
  unfold tapeSet
  dsimp only
  rw [onT_get]
  dsimp only
  rw [onT_set]
end
@[simp] theorem freeze_own (xs : List D) (t : DSt) : freeze 0 (some (.own xs) :: t) = some (.val (.lst xs)) :: t := Eq.trans rfl rfl
@[simp] theorem freeze_s (x : Option DV) (t : DSt) (i : Nat) : freeze (i + 1) (x :: t) = x :: freeze i t := by
  unfold freeze
  show (match (x :: t)[i + 1]? with | some (some (.own xs)) => _ | _ => _) = _
  rw [List.getElem?_cons_succ]
  cases h : t[i]? with
  | none => rfl
  | some o =>
    cases o with
    | none => rfl
    | some v => cases v <;> rfl
@[simp] theorem run_map {a b : Type} (f : a → b) (m : M a) (s : Sto) : (f <$> m) s = (m s).andThen fun x => pure (f x) := Eq.trans rfl rfl
@[simp] theorem eqD_int (i j : Int) : eqD (.int i) (.int j) = pure (.bl (i == j)) := Eq.trans rfl rfl
@[simp] theorem eqD_str (i j : Str) : eqD (.str i) (.str j) = pure (.bl (i == j)) := Eq.trans rfl rfl
@[simp] theorem eqD_bl (i j : Bool) : eqD (.bl i) (.bl j) = pure (.bl (i == j)) := Eq.trans rfl rfl
@[simp] theorem neD_int (i j : Int) : neD (.int i) (.int j) = pure (.bl (!(i == j))) := Eq.trans rfl rfl
@[simp] theorem neD_str (i j : Str) : neD (.str i) (.str j) = pure (.bl (!(i == j))) := Eq.trans rfl rfl
@[simp] theorem neD_bl (i j : Bool) : neD (.bl i) (.bl j) = pure (.bl (!(i == j))) := Eq.trans rfl rfl
@[simp] theorem ltD_int (i j : Int) : ltD (.int i) (.int j) = pure (.bl (decide (i < j))) := Eq.trans rfl rfl
@[simp] theorem leD_int (i j : Int) : leD (.int i) (.int j) = pure (.bl (decide (i ≤ j))) := Eq.trans rfl rfl
@[simp] theorem gtD_int (i j : Int) : gtD (.int i) (.int j) = pure (.bl (decide (j < i))) := Eq.trans rfl rfl
@[simp] theorem geD_int (i j : Int) : geD (.int i) (.int j) = pure (.bl (decide (j ≤ i))) := Eq.trans rfl rfl
@[simp] theorem addD_int (i j : Int) : addD (.int i) (.int j) = pure (.int (i + j)) := Eq.trans rfl rfl
@[simp] theorem subD_int (i j : Int) : subD (.int i) (.int j) = pure (.int (i - j)) := Eq.trans rfl rfl
@[simp] theorem negD_int (i : Int) : negD (.int i) = pure (.int (-i)) := Eq.trans rfl rfl
@[simp] theorem intD_int (i : Int) : intD [.int i] = pure (.int i) := Eq.trans rfl rfl
@[simp] theorem notD (d : D) (h : d ≠ .non) : notNonD d .non = pure (.bl true) := by cases d <;> first | rfl | exact absurd rfl h
@[simp] theorem isD_non : isNonD .non .non = pure (.bl true) := Eq.trans rfl rfl
@[simp] theorem notD_non : notNonD .non .non = pure (.bl false) := Eq.trans rfl rfl
theorem modD_int {i j : Int} (h : 0 < j) : modD (.int i) (.int j) = pure (.int (i % j)) := if_pos h
theorem fdivD_int {i j : Int} (h : 0 < j) (h2 : j.natAbs.log2 < 9000) : fdivD (.int i) (.int j) = pure (.int (i / j)) := if_pos ⟨h, h2⟩
theorem powD_int {i j : Int} (h : 0 ≤ j) (h2 : j ≤ 1000000) (h3 : i.natAbs < 2 ^ 64) : powD (.int i) (.int j) = pure (.int (i ^ j.toNat)) := if_pos ⟨h, h2, h3⟩
theorem mulD_int {i j : Int} (h : -(2 ^ 64) < i ∧ i < 2 ^ 64) : mulD (.int i) (.int j) = pure (.int (i * j)) := if_pos (.inl h)
theorem atI_in {α : Type} {xs : List α} {i : Int} (h0 : 0 ≤ i) (h1 : i < xs.length) : ∃ x, x ∈ xs ∧ xs[i.toNat]? = some x ∧ atI xs i = some x := by
  have hlt : i.toNat < xs.length := by omega
  refine ⟨xs[i.toNat], List.getElem_mem hlt, List.getElem?_eq_getElem hlt, ?_⟩
  unfold atI ixN
  rw [if_pos h0, if_pos h1]
  exact List.getElem?_eq_getElem hlt
@[simp] theorem argsD_ok {n : Nat} {g : List D → M D} {xs : List D} (h : xs.length = n) : argsD n g xs = g xs := if_pos h
@[simp] theorem argsK_ok {n : Nat} {g : List D → M D} {xs : List D} (h : xs.length = n) : argsK 0 n n arK [] g [] xs = g xs := by
  unfold argsK
  rw [if_pos ⟨rfl, h⟩]
  exact argsD_ok h
@[simp] theorem partD_int (i : Int) : partD (.int i) = pure (some i) := Eq.trans rfl rfl
@[simp] theorem strD_str (x : Str) : strD (.str x) = pure x := Eq.trans rfl rfl
@[simp] theorem lenD_lst (xs : List D) : lenD [.lst xs] = pure (.int xs.length) := Eq.trans rfl rfl
@[simp] theorem lenD_tup (xs : List D) : lenD [.tup xs] = pure (.int xs.length) := Eq.trans rfl rfl
@[simp] theorem lenD_scr (xs : List Int) : lenD [.scr xs] = pure (.int xs.length) := Eq.trans rfl rfl
@[simp] theorem iterD_str (x : Str) : iterD (.str x) = pure (signs x) := Eq.trans rfl rfl
@[simp] theorem iterD_lst (x : List D) : iterD (.lst x) = pure x := Eq.trans rfl rfl
@[simp] theorem iterD_tup (x : List D) : iterD (.tup x) = pure x := Eq.trans rfl rfl
structure Good (t : Tape) : Prop where
  large : ∀ z ∈ t.large, 0 ≤ z
  cells : ∀ z ∈ t.cells, 0 ≤ z
  rest : 0 ≤ t.rest
  turn : 0 ≤ t.turn
  len : t.large.length ≤ 1000
section
variable [Pre]
def HT {α : Type} (n : Nat) (m : M α) (P : α → Prop) : Prop := ∀ t : Tape, Good t → t.turn + n ≤ 1000000000000 → ∃ a t', m (onT t) = .ok a (onT t') ∧ Good t' ∧ t'.turn ≤ t.turn + n ∧ P a
theorem HT.mono {α : Type} {n k : Nat} {m : M α} {P Q : α → Prop} (h : HT n m P) (hn : n ≤ k) (hp : ∀ a, P a → Q a) : HT k m Q := fun t g b =>
  let ⟨a, t', e, g', b', p⟩ := h t g (by omega)
  ⟨a, t', e, g', by omega, hp a p⟩
theorem HT.pure {α : Type} {P : α → Prop} {x : α} (h : P x) : HT 0 (pure x : M α) P := fun t g _ => ⟨x, t, rfl, g, by omega, h⟩
theorem HT.bind {α β : Type} {n k : Nat} {m : M α} {f : α → M β} {P : α → Prop} {Q : β → Prop} (h : HT n m P) (hf : ∀ a, P a → HT k (f a) Q) : HT (n + k) (m >>= f) Q := fun t g b => by
  obtain ⟨a, t1, e1, g1, b1, p1⟩ := h t g (by omega)
  obtain ⟨c, t2, e2, g2, b2, p2⟩ := hf a p1 t1 g1 (by omega)
  refine ⟨c, t2, ?_, g2, by omega, p2⟩
  rw [run_bind, e1]
  exact e2
theorem HT.noE {α : Type} {n : Nat} {m : M α} {P : α → Prop} (h : HT n m P) : HT n (RM.noE m) P := fun t g b => by
  obtain ⟨a, t', e, r⟩ := h t g b
  exact ⟨a, t', by unfold RM.noE; rw [e], r⟩
theorem draw_while {c : DSt → M Bool} {b : DSt → M Ctl} {t : DSt} (hc : ∀ tp, c t (onT tp) = .ok (tp.rest == 0 && !tp.large.isEmpty) (onT tp)) (hb : ∀ tp k l, tp.large = k :: l → b t (onT tp) = .ok (.nx t) (onT { tp with rest := k, large := l })) :
    ∀ (fuel : Nat) (tp : Tape), Good tp → tp.large.length < fuel → ∃ tp', whileD c b fuel t (onT tp) = .ok (.nx t) (onT tp') ∧ Good tp' ∧ tp'.turn = tp.turn
  | 0, tp, _, h => by omega
  | n + 1, tp, g, h => by
    unfold whileD
    rw [run_bind, hc, andThen_ok]
    by_cases q : (tp.rest == 0 && !tp.large.isEmpty) = true
    · rw [if_pos q]
      cases hl : tp.large with
      | nil => rw [hl] at q; simp at q
      | cons k l =>
        rw [run_bind, hb tp k l hl, andThen_ok]
        obtain ⟨tp', e, g', tu⟩ := draw_while hc hb n { tp with rest := k, large := l } ⟨fun z hz => g.large z (by rw [hl]; exact List.mem_cons_of_mem _ hz), g.cells, g.large k (by rw [hl]; exact List.mem_cons_self ..), g.turn, by have := g.len; rw [hl] at this; simp at this ⊢; omega⟩ (by rw [hl] at h; simp at h ⊢; omega)
        exact ⟨tp', e, g', tu⟩
    · rw [if_neg q]
      exact ⟨tp, rfl, g, rfl⟩
theorem drawM_ok {n : Int} (hn : 0 < n) (hl : n.natAbs.log2 < 9000) : HT 1 (drawM [.mref Pre.ix, .int n]) fun d => ∃ k, d = .int k ∧ 0 ≤ k ∧ k < n := by
  intro tp g hb
  unfold drawM runB drawB
  obtain ⟨tp1, e1, g1, tu⟩ := draw_while (t := startD 6 [.mref Pre.ix, .int n]) (c := tAndM (mT (m2 eqD (fun t => do let o ← getV t 0; let tp ← tapeOf o; pure (.int tp.rest)) (mC (.int 0)))) (fun t => do let o ← getV t 0; let tp ← tapeOf o; pure (!tp.large.isEmpty))) (b := fun t => do let o ← getV t 0; popLarge o; pure (.nx t))
    (fun tp => by
      by_cases q : tp.rest = 0
      · simp [startD, q]
      · simp [startD, q]) (fun tp k l h => by simp [startD, popLarge, h]) 1100 tp g (by have := g.len; omega)
  have tt := g1.turn
  simp only [run_bind, e1, andThen_ok, seqC_nx]
  by_cases q : 0 < tp1.rest
  · exact ⟨.int (tp1.rest % n), { tp1 with rest := tp1.rest / n }, by simp [startD, q, modD_int hn, fdivD_int hn hl, restD], ⟨g1.large, g1.cells, Int.ediv_nonneg (by omega) (by omega), g1.turn, g1.len⟩, by show tp1.turn ≤ _; omega, _, rfl, Int.emod_nonneg _ (by omega), Int.emod_lt_of_pos _ hn⟩
  · have tail : ∀ c : Int, 0 ≤ c → ∃ m k : Int, 0 ≤ k ∧ k < n ∧ powD (.int (c % 2147483629 + 48271 * (tp1.turn + 1) + 13579)) (.int 3) = pure (.int ((c % 2147483629 + 48271 * (tp1.turn + 1) + 13579) ^ 3)) ∧ (c % 2147483629 + 48271 * (tp1.turn + 1) + 13579) ^ 3 % 2147483647 = m
        ∧ powD (.int (m + 99991 * (tp1.turn + 1))) (.int 5) = pure (.int ((m + 99991 * (tp1.turn + 1)) ^ 5)) ∧ ((m + 99991 * (tp1.turn + 1)) ^ 5 % 2147483587 / 23) % n = k := by
      intro c hc
      have a1 := Int.emod_nonneg c (b := 2147483629) (by omega)
      have a2 := Int.emod_lt_of_pos c (b := 2147483629) (by omega)
      have p1 : powD (.int (c % 2147483629 + 48271 * (tp1.turn + 1) + 13579)) (.int 3) = pure (.int ((c % 2147483629 + 48271 * (tp1.turn + 1) + 13579) ^ 3)) := powD_int (by omega) (by omega) (by omega)
      obtain ⟨m, em⟩ : ∃ m, m = (c % 2147483629 + 48271 * (tp1.turn + 1) + 13579) ^ 3 % 2147483647 := ⟨_, rfl⟩
      have a3 := Int.emod_nonneg ((c % 2147483629 + 48271 * (tp1.turn + 1) + 13579) ^ 3) (b := 2147483647) (by omega)
      have a4 := Int.emod_lt_of_pos ((c % 2147483629 + 48271 * (tp1.turn + 1) + 13579) ^ 3) (b := 2147483647) (by omega)
      rw [← em] at a3 a4
      have p2 : powD (.int (m + 99991 * (tp1.turn + 1))) (.int 5) = pure (.int ((m + 99991 * (tp1.turn + 1)) ^ 5)) := powD_int (by omega) (by omega) (by omega)
      exact ⟨m, _, Int.emod_nonneg _ (by omega), Int.emod_lt_of_pos _ hn, p1, em.symm, p2, rfl⟩
    have mo : ∀ i : Int, modD (.int i) (.int 2147483629) = pure (.int (i % 2147483629)) ∧ modD (.int i) (.int 2147483647) = pure (.int (i % 2147483647)) ∧ modD (.int i) (.int 2147483587) = pure (.int (i % 2147483587)) ∧ modD (.int i) (.int n) = pure (.int (i % n)) ∧ fdivD (.int i) (.int 23) = pure (.int (i / 23)) ∧ mulD (.int 48271) (.int i) = pure (.int (48271 * i)) ∧ mulD (.int 99991) (.int i) = pure (.int (99991 * i)) := fun i =>
      ⟨modD_int (by omega), modD_int (by omega), modD_int (by omega), modD_int hn, fdivD_int (by omega) (by decide), mulD_int (by decide), mulD_int (by decide)⟩
    have g2 : Good { tp1 with turn := tp1.turn + 1 } := ⟨g1.large, g1.cells, g1.rest, by show 0 ≤ tp1.turn + 1; omega, g1.len⟩
    cases hcs : tp1.cells with
    | nil =>
      obtain ⟨m, k, k0, k1, p1, em, p2, ek⟩ := tail 0 (by omega)
      refine ⟨.int k, { tp1 with turn := tp1.turn + 1 }, ?_, g2, by show tp1.turn + 1 ≤ _; omega, k, rfl, k0, k1⟩
      have p1' : powD (.int (0 % 2147483629 + 48271 * (tp1.turn + 1) + 13579)) (.int 3) = pure (.int ((0 % 2147483629 + 48271 * (tp1.turn + 1) + 13579) ^ 3)) := p1
      simp only [show (0 : Int) % 2147483629 = 0 from rfl, Int.zero_add] at p1' em
      simp [startD, q, turnD, hcs, mo, p1', em, p2, ek]
    | cons x xs =>
      have h1 := Int.emod_lt_of_pos (tp1.turn + 1) (b := ((x :: xs).length : Int)) (by rw [List.length_cons]; omega)
      have h2 := Int.emod_nonneg (tp1.turn + 1) (b := ((x :: xs).length : Int)) (by rw [List.length_cons]; omega)
      obtain ⟨c, hm, _, ha⟩ := atI_in h2 h1
      obtain ⟨m, k, k0, k1, p1, em, p2, ek⟩ := tail c (g1.cells c (by rw [hcs]; exact hm))
      refine ⟨.int k, { tp1 with turn := tp1.turn + 1 }, ?_, g2, by show tp1.turn + 1 ≤ _; omega, k, rfl, k0, k1⟩
      have ha' : atI (x :: xs) ((tp1.turn + 1) % ((xs.length : Int) + 1)) = some c := by rw [List.length_cons] at ha; simpa using ha
      simp [startD, q, turnD, hcs, modD_int (show (0 : Int) < (xs.length : Int) + 1 by omega), cellD, ha', mo, p1, em, p2, ek]
end
end RM

namespace RM
open PySem PySem.Spec PyProof.Rows L2
variable [PgW]
structure Dep {α : Type} (f : α) : Type where
  mk ::
def B {α β : Type} (m : M α) (f : α → M β) (_d : Dep f := Dep.mk) : M β := m >>= f
theorem B_eq {α β : Type} (m : M α) (f : α → M β) (d : Dep f) : B m f d = m >>= f := rfl
@[simp] theorem B_pure {α β : Type} (x : α) (f : α → M β) (d : Dep f) : B (pure x) f d = f x := Eq.trans rfl rfl
@[simp] theorem B_stuck {α β : Type} (f : α → M β) (d : Dep f) : B stuck f d = stuck := Eq.trans rfl rfl
@[simp] theorem B_raise {α β : Type} (e : Exc) (f : α → M β) (d : Dep f) : B (raise e) f d = raise e := Eq.trans rfl rfl
theorem B_B {α β γ : Type} (m : M α) (f : α → M β) (g : β → M γ) (d : Dep f) (e : Dep g) : B (B m f d) g e = B m (fun x => B (f x) g e) := by
  unfold B; exact bind_assoc m f g
theorem B_id {α : Type} (m : M α) (d : Dep (fun x : α => (pure x : M α))) : B m (fun x => pure x) d = m := by
  unfold B; exact bind_pure m
def runA : List (M D) → M (List D)
  | [] => pure []
  | m :: ms => do let x ← m; let xs ← runA ms; pure (x :: xs)
def argsB {β : Type} : List (M D) → (List D → M β) → M β
  | [], k => k []
  | m :: ms, k => B m (fun x => argsB ms (fun xs => k (x :: xs)))
abbrev callB {β : Type} (ms : List (M D)) (gf : List D → M β) (dds : List D) : M β := argsB ms fun xs => gf (xs ++ dds)
@[simp] theorem argsB_nil {β : Type} (k : List D → M β) : argsB [] k = k [] := Eq.trans rfl rfl
@[simp] theorem argsB_cons {β : Type} (m : M D) (ms : List (M D)) (k : List D → M β) : argsB (m :: ms) k = B m fun x => argsB ms fun xs => k (x :: xs) := Eq.trans rfl rfl
theorem argsB_eq {β : Type} : ∀ (ms : List (M D)) (k : List D → M β), argsB ms k = runA ms >>= k
  | [], k => (pure_bind _ _).symm
  | m :: ms, k => by
    show (m >>= fun x => argsB ms fun xs => k (x :: xs)) = (m >>= fun x => runA ms >>= fun xs => pure (x :: xs)) >>= k
    rw [bind_assoc]
    congr 1
    funext x
    rw [argsB_eq ms, bind_assoc]
    congr 1
open Classical in
noncomputable def AtG {α : Type} (g : DSt) (m : M α) : DSt → M α := fun t => if t = g then m else stuck
theorem AtG_self {α : Type} (g : DSt) (m : M α) : AtG g m g = m := if_pos rfl
theorem AtG_ne {α : Type} {g t : DSt} (m : M α) (h : t ≠ g) : AtG g m t = stuck := if_neg h
def tXE (K : PySem.W.Frag) (W : WX) (g : DSt) (m : M D) : TE := fun σ H Q => ∃ p G S ow, RelS K p G S H g σ ow ∧ okR (Den K) K p G H (fun c d H' => W c d σ H') (m S) Q
def tXT (K : PySem.W.Frag) (W : WX) (g : DSt) (m : M Bool) : TT := fun σ H Q => ∃ p G S ow, RelS K p G S H g σ ow ∧ okR rB K p G H (fun c d H' => W c d σ H') (m S) Q
def tXA (K : PySem.W.Frag) (W : WX) (g : DSt) (m : M (List D)) : TA := fun σ H Q => ∃ p G S ow, RelS K p G S H g σ ow ∧ okR (DenL K) K p G H (fun c d H' => W c d σ H') (m S) Q
def tXI (K : PySem.W.Frag) (W : WX) (g : DSt) (m : M (List D)) : TI := fun σ H R => ∃ p G S ow, RelS K p G S H g σ ow ∧ okR (ItOk K) K p G H (fun c d H' => W c d σ H') (m S) R
def tXF (K : PySem.W.Frag) (W : WX) (g : DSt) (m : M (List D)) : TE := fun σ H Q => ∃ p G S ow, RelS K p G S H g σ ow ∧ okF K p G H (fun c d H' => W c d σ H') (m S) Q
abbrev XE (X : Cx) (W : WX) (g : DSt) (e : Expr) (m : M D) : Prop := PE X e (tXE X.K W g m)
abbrev XT (X : Cx) (W : WX) (g : DSt) (e : Expr) (m : M Bool) : Prop := PT X e (tXT X.K W g m)
abbrev XW (X : Cx) (W : WX) (g : DSt) (e : Expr) (m : M Bool) : Prop := PW X e (tXT X.K W g m)
abbrev XA (X : Cx) (W : WX) (g : DSt) (es : List Expr) (ms : List (M D)) : Prop := PA X es (tXA X.K W g (runA ms))
abbrev XKw (X : Cx) (W : WX) (g : DSt) (kw : List Keyword) (ms : List (M D)) : Prop := PK X kw (tXA X.K W g (runA ms))
abbrev XI (X : Cx) (W : WX) (g : DSt) (tg e : Expr) (m : M (List D)) : Prop := PI X tg e (tXI X.K W g m)
abbrev XF (X : Cx) (W : WX) (g : DSt) (e : Expr) (m : M (List D)) : Prop := PE X e (tXF X.K W g m)
section
variable {X : Cx} {W : WX} {g : DSt} {e a b c tg : Expr} {es : List Expr} {kw : List Keyword} {m ma mb mc : M D} {mt mu : M Bool} {ml : M (List D)} {ms : List (M D)} {u : DSt → M D} {ut : DSt → M Bool} {ul : DSt → M (List D)} {pos : Pos}
theorem XE.de (h : XE X W g e m) : DE X W e (AtG g m) := PE.imp h fun σ H Q ⟨t, p, G, S, ow, r, q⟩ => by
  by_cases e : t = g
  · subst e; rw [AtG_self] at q; exact ⟨p, G, S, ow, r, q⟩
  · rw [AtG_ne m e] at q; exact q.elim
theorem XE.by (h : DE X W e u) (q : u g = m) : XE X W g e m := PE.imp h fun σ H Q ⟨p, G, S, ow, r, k⟩ => ⟨g, p, G, S, ow, r, by rw [q]; exact k⟩
theorem XT.dt (h : XT X W g e mt) : DT X W e (AtG g mt) := PT.imp h fun σ H Q ⟨t, p, G, S, ow, r, q⟩ => by
  by_cases e : t = g
  · subst e; rw [AtG_self] at q; exact ⟨p, G, S, ow, r, q⟩
  · rw [AtG_ne mt e] at q; exact q.elim
theorem XT.by (h : DT X W e ut) (q : ut g = mt) : XT X W g e mt := PT.imp h fun σ H Q ⟨p, G, S, ow, r, k⟩ => ⟨g, p, G, S, ow, r, by rw [q]; exact k⟩
theorem XW.dw (h : XW X W g e mt) : DW X W e (AtG g mt) := PW.imp h fun σ H Q ⟨t, p, G, S, ow, r, q⟩ => by
  by_cases e : t = g
  · subst e; rw [AtG_self] at q; exact ⟨p, G, S, ow, r, q⟩
  · rw [AtG_ne mt e] at q; exact q.elim
theorem XW.by (h : DW X W e ut) (q : ut g = mt) : XW X W g e mt := PW.imp h fun σ H Q ⟨p, G, S, ow, r, k⟩ => ⟨g, p, G, S, ow, r, by rw [q]; exact k⟩
theorem XA.da (h : XA X W g es ms) : DA X W es (AtG g (runA ms)) := PA.imp h fun σ H Q ⟨t, p, G, S, ow, r, q⟩ => by
  by_cases e : t = g
  · subst e; rw [AtG_self] at q; exact ⟨p, G, S, ow, r, q⟩
  · rw [AtG_ne _ e] at q; exact q.elim
theorem XA.by (h : DA X W es ul) (q : ul g = runA ms) : XA X W g es ms := PA.imp h fun σ H Q ⟨p, G, S, ow, r, k⟩ => ⟨g, p, G, S, ow, r, by rw [q]; exact k⟩
theorem XKw.dk (h : XKw X W g kw ms) : DK X W kw (AtG g (runA ms)) := PK.imp h fun σ H Q ⟨t, p, G, S, ow, r, q⟩ => by
  by_cases e : t = g
  · subst e; rw [AtG_self] at q; exact ⟨p, G, S, ow, r, q⟩
  · rw [AtG_ne _ e] at q; exact q.elim
theorem XKw.by (h : DK X W kw ul) (q : ul g = runA ms) : XKw X W g kw ms := PK.imp h fun σ H Q ⟨p, G, S, ow, r, k⟩ => ⟨g, p, G, S, ow, r, by rw [q]; exact k⟩
theorem XI.by (h : DI X W tg e ul) (q : ul g = ml) : XI X W g tg e ml := PI.imp h fun σ H Q ⟨p, G, S, ow, r, k⟩ => ⟨g, p, G, S, ow, r, by rw [q]; exact k⟩
theorem XF.df (h : XF X W g e ml) : DF X W e (AtG g ml) := PE.imp h fun σ H Q ⟨t, p, G, S, ow, r, q⟩ => by
  by_cases e : t = g
  · subst e; rw [AtG_self] at q; exact ⟨p, G, S, ow, r, q⟩
  · rw [AtG_ne ml e] at q; exact q.elim
theorem XF.by (h : DF X W e ul) (q : ul g = ml) : XF X W g e ml := PE.imp h fun σ H Q ⟨p, G, S, ow, r, k⟩ => ⟨g, p, G, S, ow, r, by rw [q]; exact k⟩
theorem XF.xe (h : XF X W g e ml) : XE X W g e (B ml fun xs => pure (.lst xs)) := XE.by (DF.de h.df) (by rw [AtG_self]; rfl)

theorem xe_var (i : Nat) {x : Str} {d : D} (hg : g[i]? = some (some (.val d)) := by rfl) (hN : X.N[i]? = some x := by rfl) (hv : Vis X.env.scope x := by first | exact Or.inl rfl | exact Or.inr (Or.inl rfl) | exact Or.inr (Or.inr rfl)) (hd : (x == ("__debug__" : Str)) = false := by decide)
    (hcd : (x == ("__classdict__" : Str)) = false := by decide) : XE X W g (.Name x pos) (pure d) := XE.by (de_var i hN hv hd hcd) (by unfold getV; rw [hg])
theorem xe_int {i j} : XE X W g (.Constant (.int i) j pos) (pure (.int i)) := XE.by de_int rfl
theorem xe_bl {i j} : XE X W g (.Constant (.bool i) j pos) (pure (.bl i)) := XE.by de_bl rfl
theorem xe_non {j} : XE X W g (.Constant .none j pos) (pure .non) := XE.by de_non rfl
theorem xe_str {x j} : XE X W g (.Constant (.str x) j pos) (pure (.str x)) := XE.by de_str rfl
theorem XE.by1 {e : Expr} {f : D → M D} (h : DE X W a (AtG g ma) → DE X W e (fun t => do let x ← AtG g ma t; f x)) (ha : XE X W g a ma) : XE X W g e (B ma f) := XE.by (h ha.de) (by rw [AtG_self]; rfl)
theorem XE.by2 {e : Expr} {f : D → D → M D} (h : DE X W a (AtG g ma) → DE X W b (AtG g mb) → DE X W e (fun t => do let x ← AtG g ma t; let y ← AtG g mb t; f x y)) (ha : XE X W g a ma) (hb : XE X W g b mb) : XE X W g e (B ma fun x => B mb fun y => f x y) := XE.by (h ha.de hb.de) (by rw [AtG_self, AtG_self]; rfl)
def tst (m : M D) : M Bool := B m asB
theorem XT.by2 {e : Expr} {f : D → D → M D} (h : DE X W a (AtG g ma) → DE X W b (AtG g mb) → DT X W e (fun t => do let x ← (do let x ← AtG g ma t; let y ← AtG g mb t; f x y); asB x)) (ha : XE X W g a ma) (hb : XE X W g b mb) : XT X W g e (tst (B ma fun x => B mb fun y => f x y)) := XT.by (h ha.de hb.de) (by rw [AtG_self, AtG_self]; rfl)
theorem XE.byA {e : Expr} {f : List D → M D} (h : DA X W es (AtG g (runA ms)) → DE X W e (fun t => do let xs ← AtG g (runA ms) t; f xs)) (ha : XA X W g es ms) : XE X W g e (argsB ms f) := XE.by (h ha.da) (by rw [AtG_self, argsB_eq])
theorem xa_nil : XA X W g [] [] := XA.by da_nil rfl
theorem xa_cons (ha : XE X W g a ma) (hr : XA X W g es ms) (hs : starEach (a :: es) X.env = (false, eval a X.env) :: starEach es X.env := by rfl) : XA X W g (a :: es) (ma :: ms) := XA.by (da_cons ha.de hr.da hs) (by rw [AtG_self, AtG_self]; rfl)
theorem xk_nil : XKw X W g [] [] := XKw.by dk_nil rfl
theorem xk_cons {nm : Option Str} {kpos : Pos} (ha : XE X W g a ma) (hr : XKw X W g kw ms) : XKw X W g (⟨nm, a, kpos⟩ :: kw) (ma :: ms) := XKw.by (dk_cons ha.de hr.dk) (by rw [AtG_self, AtG_self]; rfl)
theorem xe_tup {x1} (h : XA X W g es ms) : XE X W g (.Tuple es x1 pos) (argsB ms tupD) := XE.byA de_tup h
theorem xe_lst (h : XA X W g es ms) : XE X W g (.List es pos) (argsB ms lstD) := XE.byA de_lst h
theorem xe_add (ha : XE X W g a ma) (hb : XE X W g b mb) : XE X W g (.BinOp a .Add b pos) (B ma fun x => B mb fun y => addD x y) := XE.by2 de_add ha hb
theorem xe_sub (ha : XE X W g a ma) (hb : XE X W g b mb) : XE X W g (.BinOp a .Sub b pos) (B ma fun x => B mb fun y => subD x y) := XE.by2 de_sub ha hb
theorem xe_mul (ha : XE X W g a ma) (hb : XE X W g b mb) : XE X W g (.BinOp a .Mult b pos) (B ma fun x => B mb fun y => mulD x y) := XE.by2 de_mul ha hb
theorem xe_pow (ha : XE X W g a ma) (hb : XE X W g b mb) : XE X W g (.BinOp a .Pow b pos) (B ma fun x => B mb fun y => powD x y) := XE.by2 de_pow ha hb
theorem xe_neg (ha : XE X W g a ma) : XE X W g (.UnaryOp .USub a pos) (B ma negD) := XE.by1 de_neg ha
theorem xe_eq (hu : X.A.units + 64 < cLine) (ha : XE X W g a ma) (hb : XE X W g b mb) : XE X W g (.Compare a [.Eq] [b] pos) (B ma fun x => B mb fun y => eqD x y) := XE.by2 (de_eq hu) ha hb
theorem xt_eq (hu : X.A.units + 64 < cLine) (ha : XE X W g a ma) (hb : XE X W g b mb) : XT X W g (.Compare a [.Eq] [b] pos) (tst (B ma fun x => B mb fun y => eqD x y)) := XT.by2 (dt_eq hu) ha hb
theorem xt_ne (hu : X.A.units + 64 < cLine) (ha : XE X W g a ma) (hb : XE X W g b mb) : XT X W g (.Compare a [.NotEq] [b] pos) (tst (B ma fun x => B mb fun y => neD x y)) := XT.by2 (dt_ne hu) ha hb
theorem xt_val (ha : XE X W g a ma) (he : ∀ whole, isTrue a X.env whole = (do let v ← whole; standAt a.pos; holding [v] (truthy v)) := by intro _; rfl) : XT X W g a (tst ma) := XT.by (dt_val ha.de he) (by rw [AtG_self]; rfl)
def tNot (m : M Bool) : M Bool := B m fun b => pure (!b)
def tAnd (m n : M Bool) : M Bool := B m fun b => if b then n else pure false
def tOr (m n : M Bool) : M Bool := B m fun b => if b then pure true else n
theorem xt_not (ha : XT X W g a mt) : XT X W g (.UnaryOp .Not a pos) (tNot mt) := XT.by (dt_not ha.dt) (by rw [AtG_self]; rfl)
theorem xw_or1 (ha : XT X W g a mt) : XW X W g (.BoolOp .Or [a] pos) mt := XW.by (dw_or1 ha.dt) (AtG_self _ _)
theorem xw_or {rest : List Expr} (ha : XT X W g a mt) (hb : XW X W g (.BoolOp .Or (b :: rest) pos) mu) : XW X W g (.BoolOp .Or (a :: b :: rest) pos) (tOr mt mu) := XW.by (dw_or ha.dt hb.dw) (by rw [AtG_self, AtG_self]; rfl)
theorem XW.xt (h : XW X W g a mt) : XT X W g a mt := h.pt
def eAnd (m n : M D) : M D := B m fun x => B (asB x) fun b => if b then n else pure (.bl false)
def eOr (m n : M D) : M D := B m fun x => B (asB x) fun b => if b then pure (.bl true) else n
def eNot (m : M D) : M D := B m fun x => B (asB x) fun b => pure (.bl (!b))
def ifM {α : Type} (m : M Bool) (x y : M α) : M α := B m fun b => if b then x else y
end
end RM

namespace RM
open PySem PySem.Spec PyProof.Rows L2
variable [PgW]
def Wk : DSt → DSt → Prop
  | [], [] => True
  | a :: s, b :: t => (b = none ∨ a = b) ∧ Wk s t
  | _, _ => False
theorem Wk.refl : ∀ t : DSt, Wk t t
  | [] => trivial
  | _ :: t => ⟨.inr rfl, Wk.refl t⟩
theorem SlotsR.wk {K : PySem.W.Frag} {p : List (List Addr)} {G H : Hp} : ∀ {t t' : DSt} {σ : L2.St} {ow : List Addr}, SlotsR K p G H t σ ow → Wk t t' → ∃ ow', ow'.Sublist ow ∧ SlotsR K p G H t' σ ow'
  | [], [], _, ow, h, _ => ⟨ow, List.Sublist.refl _, h⟩
  | [], _ :: _, _, _, _, w => w.elim
  | _ :: _, [], _, _, _, w => w.elim
  | a :: s, b :: t, _, _, ⟨v, r, l, k, h1, h2, h3, h4⟩, ⟨w1, w2⟩ => by
    obtain ⟨ow', s', q⟩ := SlotsR.wk h4 w2
    rcases w1 with rfl | rfl
    · exact ⟨ow', by rw [h2]; exact s'.trans (List.sublist_append_right _ _), v, r, [], ow', h1, rfl, rfl, q⟩
    · exact ⟨l ++ ow', by rw [h2]; exact List.Sublist.append (List.Sublist.refl _) s', v, r, l, ow', h1, rfl, h3, q⟩
theorem RelS.wk {K : PySem.W.Frag} {p : List (List Addr)} {G H : Hp} {S : Sto} {t t' : DSt} {σ : L2.St} {ow : List Addr} (r : RelS K p G S H t σ ow) (w : Wk t t') : ∃ ow', ow'.Sublist ow ∧ RelS K p G S H t' σ ow' := by
  obtain ⟨ow', s, q⟩ := r.sl.wk w
  exact ⟨ow', s, r.rel, q, r.nd.sublist (List.Sublist.append (List.Sublist.refl _) s), fun a ha => r.gn a (s.subset ha)⟩
theorem RelF.wk {K : PySem.W.Frag} {n : Snap} {p : List (List Addr)} {G H : Hp} {S : Sto} {t t' : DSt} {σ : L2.St} {ow : List Addr} (r : RelF K n p G S H t σ ow) (w : Wk t t') : ∃ ow', RelF K n p G S H t' σ ow' := by
  obtain ⟨ow', s, q⟩ := r.rs.wk w
  exact ⟨ow', q, r.ext, fun a ha => r.own a (s.subset ha), r.fp, r.fg⟩
abbrev IC (α : Type) := α → Ctl → Prop
def okG {α : Type} (K : PySem.W.Frag) (W : Wf) (n : Snap) (I : IC α) (r : Res α) (E : Ends) : Prop := match r with
  | .ok a S' => ∀ c, I a c → okS K W n (.ok c S') E
  | .exc e S' => okS K W n (.exc e S') E
  | .stuck => False
def tXS {α : Type} (K : PySem.W.Frag) (W : Wf) (g : DSt) (I : IC α) (m : M α) : TS := fun E σ H => ∃ n p G S ow, RelF K n p G S H g σ ow ∧ okG K W n I (m S) E
abbrev XS {α : Type} (X : Cx) (W : Wf) (g : DSt) (I : IC α) (ss : List Stmt) (m : M α) : Prop := PSs X ss (tXS X.K W g I m)
abbrev XS1 {α : Type} (X : Cx) (W : Wf) (g : DSt) (I : IC α) (st : Stmt) (m : M α) : Prop := PS X st (tXS X.K W g I m)
def IB : IC D := fun d c => c = .rt d ∨ (d = .non ∧ ∃ t, c = .nx t)
def IR {α : Type} (I : IC α) : IC α := fun a c => I a c ∧ ((∃ d, c = .rt d) ∨ ∃ xs, c = .rl xs)
def IN {τ : Type} (e : τ → DSt) : IC τ := fun x c => ∃ t, c = .nx t ∧ Wk t (e x)
def IS {τ : Type} (e : τ → DSt) : IC (D ⊕ τ)
  | .inl d, c => c = .rt d
  | .inr x, c => ∃ t, c = .nx t ∧ Wk t (e x)
theorem fam {X : Cx} {ι : Type} {ss : List Stmt} {t : ι → TS} (h : ∀ i, PSs X ss (t i)) : PSs X ss (fun E σ H => ∃ i, t i E σ H) := ⟨fun pins s σ H E I ⟨i, q⟩ => (h i).run pins s σ H E I q⟩
theorem okG.mono {α : Type} {K : PySem.W.Frag} {W : Wf} {n : Snap} {I J : IC α} {r : Res α} {E : Ends} (h : okG K W n I r E) (k : ∀ a c, J a c → I a c) : okG K W n J r E := by
  cases r with
  | ok a S' => exact fun c hc => h c (k a c hc)
  | exc e S' => exact h
  | stuck => exact h
section
variable {α β τ : Type} {X : Cx} {W : Wf} {g : DSt} {I : IC α} {J : IC β} {st : Stmt} {rest xs ys : List Stmt} {m : M α} {mj : M β} {k : β → M α} {e c : Expr} {me : M D} {mt : M Bool} {pos : Pos} {u : DSt → M Ctl}
theorem XS.wk {t : DSt} (h : XS X W g I rest m) (w : Wk t g) : XS X W t I rest m := PSs.imp h fun E σ H ⟨n, p, G, S, ow, r, q⟩ => by
  obtain ⟨ow', r'⟩ := r.wk w
  exact ⟨n, p, G, S, ow', r', q⟩
theorem XS.ic {J : IC α} (h : XS X W g I rest m) (k : ∀ a c, I a c → J a c) : XS X W g J rest m := PSs.imp h fun E σ H ⟨n, p, G, S, ow, r, q⟩ => ⟨n, p, G, S, ow, r, q.mono k⟩
theorem xs_last (h : XS1 X W g I st m) : XS X W g I [st] m := pss_one h
theorem xs_seq (h : XS1 X W g J st mj) (hn : ∀ b t, J b (.nx t) → XS X W t I rest (k b)) (hr : ∀ b d, J b (.rt d) → ∃ a, k b = pure a ∧ I a (.rt d)) (hb : ∀ b t, J b (.bk t) → False) (hc : ∀ b t, J b (.ct t) → False) (hl : ∀ b xs, J b (.rl xs) → False) : XS X W g I (st :: rest) (B mj k) := by
  refine PSs.imp (pss_cons h (fam (ι := {q : β × DSt // J q.1 (.nx q.2)}) fun q => hn q.1.1 q.1.2 q.2)) fun E σ H ⟨n, p, G, S, ow, r, q⟩ => ?_
  have q : okG X.K W n I ((mj S).andThen k) E := q
  refine ⟨n, p, G, S, ow, r, ?_⟩
  cases em : mj S with
  | stuck => rw [em] at q; exact q
  | exc x S1 => rw [em] at q; exact q
  | ok b S1 =>
    rw [em] at q
    have q : okG X.K W n I (k b S1) E := q
    intro c hc'
    cases c with
    | nx t => exact fun p' G' H' σ' ow' r' => ⟨⟨(b, t), hc'⟩, n, p', G', S1, ow', r', q⟩
    | rt d =>
      obtain ⟨a, ea, ia⟩ := hr b d hc'
      rw [ea] at q
      exact q (.rt d) ia
    | bk t => exact (hb b t hc').elim
    | ct t => exact (hc b t hc').elim
    | rl t => exact (hl b t hc').elim
theorem xs_then {e : τ → DSt} {mj : M τ} {k : τ → M α} (h : XS1 X W g (IN e) st mj) (hk : ∀ x, XS X W (e x) I rest (k x)) : XS X W g I (st :: rest) (B mj k) :=
  xs_seq h (fun b t ⟨t', e1, w⟩ => by cases e1; exact (hk b).wk w) (fun b d ⟨t', e1, _⟩ => by cases e1) (fun b t ⟨t', e1, _⟩ => by cases e1) (fun b t ⟨t', e1, _⟩ => by cases e1) (fun b t ⟨t', e1, _⟩ => by cases e1)
def orRet {α τ : Type} (r : D → α) (k : τ → M α) : D ⊕ τ → M α
  | .inl d => pure (r d)
  | .inr x => k x
theorem xs_thenS {e : τ → DSt} {mj : M (D ⊕ τ)} {r : D → α} {k : τ → M α} (h : XS1 X W g (IS e) st mj) (hr : ∀ d, I (r d) (.rt d)) (hk : ∀ x, XS X W (e x) I rest (k x)) : XS X W g I (st :: rest) (B mj (orRet r k)) :=
  xs_seq h (fun b t q => match b, q with | .inr x, ⟨t', e1, w⟩ => by cases e1; exact (hk x).wk w) (fun b d q => match b, q with | .inl d', e1 => by cases e1; exact ⟨r d, rfl, hr d⟩) (fun b t q => match b, q with | .inl _, e1 => by cases e1 | .inr _, ⟨_, e1, _⟩ => by cases e1) (fun b t q => match b, q with | .inl _, e1 => by cases e1 | .inr _, ⟨_, e1, _⟩ => by cases e1) (fun b t q => match b, q with | .inl _, e1 => by cases e1 | .inr _, ⟨_, e1, _⟩ => by cases e1)
theorem xs_nil {a : α} (h : I a (.nx g)) : XS X W g I [] (pure a) := PSs.imp pss_nil fun E σ H ⟨n, p, G, S, ow, r, q⟩ => q (.nx g) h p G H σ ow r
theorem okG.seq {γ δ : Type} {R1 : List (List Addr) → Hp → γ → δ → Prop} {K : PySem.W.Frag} {n : Snap} {E : Ends} {p : List (List Addr)} {G H : Hp} {S : Sto} {σ : L2.St} {ow : List Addr} {mx : M γ} {f : γ → M α} {Q1 : δ → Hp → Prop} {d : Dep f}
    (h : okG K W n I (B mx f d S) E) (r : RelF K n p G S H g σ ow)
    (k : ∀ d S1 v p1 G1 H1, mx S = .ok d S1 → R1 p1 G1 d v → RelF K n p1 G1 S1 H1 g σ ow → Ext p G H p1 G1 H1 → okG K W n I (f d S1) E → Q1 v H1) : okR R1 K p G H (fun c d H' => W c d H') (mx S) Q1 := by
  have h' : okG K W n I ((mx S).andThen f) E := h
  cases e : mx S with
  | ok d S1 =>
    rw [e] at h'
    exact fun v p1 G1 H1 a b c => k d S1 v p1 G1 H1 e a (r.step c b) c h'
  | exc x S1 =>
    rw [e] at h'
    exact fun cls dd p1 G1 H1 a b c => h' cls dd p1 G1 H1 a b (r.ext.trans c)
  | stuck =>
    rw [e] at h'
    exact h'
theorem xs_ret {r : D → α} (he : XE X W.x g e me) (hr : ∀ d, I (r d) (.rt d)) : XS X W g I (.Return (some e) pos :: rest) (B me fun d => pure (r d)) := by
  refine PSs.imp (pss_cons (ps_ret he) pss_never) fun E σ H ⟨n, p, G, S, ow, r', q⟩ => ?_
  exact ⟨p, G, S, ow, r'.rs, okG.seq q r' fun d S1 v p1 G1 H1 e1 dn r1 x1 h1 => h1 (.rt d) (hr d) v p1 G1 H1 dn r1.rs.rel r1.ext⟩
theorem xs_retB (he : XE X W.x g e me) : XS X W g IB (.Return (some e) pos :: rest) me := by
  have := xs_ret (pos := pos) (rest := rest) (r := fun d => d) (I := IB) he fun d => .inl rfl
  rwa [B_id] at this
theorem xs_if {mx my : M α} (hc : XT X W.x g c mt) (hx : XS X W g I xs mx) (hy : XS X W g I ys my) : XS1 X W g I (.If c xs ys pos) (ifM mt mx my) := by
  refine PS.imp (ps_if hc hx hy) fun E σ H ⟨n, p, G, S, ow, r', q⟩ => ?_
  refine ⟨p, G, S, ow, r'.rs, okG.seq q r' fun b S1 v p1 G1 H1 e1 dn r1 x1 h1 => ?_⟩
  cases dn
  cases b with
  | true => exact iteT ⟨n, p1, G1, S1, ow, r1, h1⟩
  | false => exact iteF ⟨n, p1, G1, S1, ow, r1, h1⟩
theorem xs_if1 {mx my : M α} (hc : XT X W.x g c mt) (hx : XS X W g (IR I) xs mx) (hy : XS X W g I rest my) : XS X W g I (.If c xs [] pos :: rest) (ifM mt mx my) := by
  refine PSs.imp (pss_cons (ps_if hc hx pss_nil) hy) fun E σ H ⟨n, p, G, S, ow, r', q⟩ => ?_
  refine ⟨p, G, S, ow, r'.rs, okG.seq q r' fun b S1 v p1 G1 H1 e1 dn r1 x1 h1 => ?_⟩
  cases dn
  cases b with
  | true =>
    refine iteT ⟨n, p1, G1, S1, ow, r1, ?_⟩
    have h1 : okG X.K W n I (mx S1) E := h1
    cases em : mx S1 with
    | ok a S2 =>
      rw [em] at h1
      rintro c ⟨ic, ⟨d, rfl⟩ | ⟨ys, rfl⟩⟩
      · exact h1 (.rt d) ic
      · exact h1 (.rl ys) ic
    | exc _ _ => rw [em] at h1; exact h1
    | stuck => rw [em] at h1; exact h1
  | false => exact iteF ⟨n, p1, G1, S1, ow, r1, h1⟩
theorem xs_next {γ : Type} {mx : M γ} {e : γ → DSt} {k : γ → M α} (h : DS X W st u) (q : u g = mx >>= fun x => pure (.nx (e x))) (hk : ∀ x, XS X W (e x) I rest (k x)) : XS X W g I (st :: rest) (B mx k) := by
  refine PSs.imp (pss_cons h (fam hk)) fun E σ H ⟨n, p, G, S, ow, r, z⟩ => ?_
  have z : okG X.K W n I ((mx S).andThen k) E := z
  refine ⟨n, g, p, G, S, ow, r, ?_⟩
  rw [q]
  show okS X.K W n ((mx S).andThen fun x => pure (.nx (e x))) _
  cases em : mx S with
  | stuck => rw [em] at z; exact z
  | exc x S1 => rw [em] at z; exact z
  | ok b S1 =>
    rw [em] at z
    exact fun p' G' H' σ' ow' r' => ⟨b, n, p', G', S1, ow', r', z⟩
theorem setV_at {i : Nat} {d : D} (hl : decide (i < g.length) = true) : setV g i d = some (g.set i (some (.val d))) := if_pos (of_decide_eq_true hl)
theorem xs_set (i : Nat) {x : Str} {pos' : Pos} {k : D → M α} (hN : X.N.Nodup) (hi : X.N[i]? = some x) (hx : Loc X.env.scope x) (he : XE X W.x g e me) (hk : ∀ v, XS X W (g.set i (some (.val v))) I rest (k v)) (hl : decide (i < g.length) = true := by rfl) (hs : swapsWith e (some (.Name x pos')) pos.line X.env = pure false := by rfl) (hf : X.fn x = true ∨ X.env.scope.names.lookup x = some .local := by first | exact .inl rfl | exact .inr rfl | assumption) :
    XS X W g I (.Assign [.Name x pos'] e pos :: rest) (B me k) := by
  refine xs_next (e := fun v => g.set i (some (.val v))) (ds_set i hN hi hx he.de hs hf) ?_ hk
  rw [AtG_self]
  congr 1
  funext d
  rw [setV_at hl]; rfl
end
end RM

namespace RM
open PySem PySem.Spec PyProof.Rows L2
variable [PgW]
def tp2 {α : Type} (f : D → D → M α) : D → M α
  | .tup [a, b] => f a b
  | _ => stuck
def tp3 {α : Type} (f : D → D → D → M α) : D → M α
  | .tup [a, b, c] => f a b c
  | _ => stuck
def tp4 {α : Type} (f : D → D → D → D → M α) : D → M α
  | .tup [a, b, c, d] => f a b c d
  | _ => stuck
@[simp] theorem tp2_tup {α : Type} (f : D → D → M α) (a b : D) : tp2 f (.tup [a, b]) = f a b := Eq.trans rfl rfl
@[simp] theorem tp3_tup {α : Type} (f : D → D → D → M α) (a b c : D) : tp3 f (.tup [a, b, c]) = f a b c := Eq.trans rfl rfl
@[simp] theorem tp4_tup {α : Type} (f : D → D → D → D → M α) (a b c d : D) : tp4 f (.tup [a, b, c, d]) = f a b c d := Eq.trans rfl rfl
theorem setV_get {g t : DSt} {i : Nat} {d : D} (h : setV g i d = some t) : t = g.set i (some (.val d)) := by
  unfold setV at h
  split at h
  · cases h; rfl
  · cases h
theorem tgt1 {g : DSt} {i : Nat} {P : D → DSt → Prop} (h : ∀ d, P d (g.set i (some (.val d)))) : ∀ d t, (Tgt.nm i).set d g = some t → P d t := fun d t e => by
  rw [setV_get e]; exact h d
theorem setVs_get : ∀ {is : List Nat} {g t : DSt} {ds : List D}, setVs g is ds = some t → ds.length = is.length ∧ t = (is.zip ds).foldl (fun g q => g.set q.1 (some (.val q.2))) g
  | [], g, t, [], e => by cases e; exact ⟨rfl, rfl⟩
  | [], _, _, _ :: _, e => by cases e
  | _ :: _, _, _, [], e => by cases e
  | i :: is, g, t, d :: ds, e => by
    unfold setVs at e
    cases h : setV g i d with
    | none => rw [h] at e; cases e
    | some g2 =>
      rw [h] at e
      obtain ⟨h1, h2⟩ := setVs_get (show setVs g2 is ds = some t from e)
      rw [setV_get h] at h2
      exact ⟨by rw [List.length_cons, List.length_cons, h1], h2⟩
theorem tgtN {g : DSt} {is : List Nat} {P : D → DSt → Prop} (h : ∀ ds, ds.length = is.length → P (.tup ds) ((is.zip ds).foldl (fun g q => g.set q.1 (some (.val q.2))) g)) : ∀ d t, (Tgt.tp is).set d g = some t → P d t := fun d t e => by
  cases d <;> try cases e
  rename_i xs
  obtain ⟨h1, h2⟩ := setVs_get (show setVs g is xs = some t from e)
  rw [h2]
  exact h xs h1
theorem tgt2 {g : DSt} {i j : Nat} {P : D → DSt → Prop} (h : ∀ a b, P (.tup [a, b]) ((g.set i (some (.val a))).set j (some (.val b)))) : ∀ d t, (Tgt.tp [i, j]).set d g = some t → P d t := tgtN fun ds e => match ds, e with | [a, b], _ => h a b
theorem none1 {α : Type} {g : DSt} {i : Nat} {f : D → M α} (hl : decide (i < g.length) = true) : ∀ d, (Tgt.nm i).set d g = none → f d = stuck := fun d e => by
  have e : setV g i d = none := e
  rw [setV_at hl] at e; cases e
theorem setVs_some : ∀ {is : List Nat} {g : DSt} {ds : List D}, ds.length = is.length → (∀ i ∈ is, i < g.length) → ∃ t, setVs g is ds = some t
  | [], g, [], _, _ => ⟨g, rfl⟩
  | [], _, _ :: _, h, _ => by cases h
  | _ :: _, _, [], h, _ => by cases h
  | i :: is, g, d :: ds, h, k => by
    unfold setVs setV
    rw [if_pos (k i (List.mem_cons_self ..))]
    exact setVs_some (by simpa using h) fun j hj => by rw [List.length_set]; exact k j (List.mem_cons_of_mem _ hj)
theorem none2 {α : Type} {g : DSt} {i j : Nat} {f : D → D → M α} (hl : decide (i < g.length ∧ j < g.length) = true) : ∀ d, (Tgt.tp [i, j]).set d g = none → tp2 f d = stuck := fun d e => by
  unfold tp2
  split
  · rename_i a b
    obtain ⟨t, q⟩ := setVs_some (is := [i, j]) (g := g) (ds := [a, b]) rfl (by have := of_decide_eq_true hl; simp; exact this)
    have e : setVs g [i, j] [a, b] = none := e
    rw [q] at e; cases e
  · rfl
def lcX (mt : D → M Bool) (me : D → M D) : List D → List D → M (List D)
  | [], acc => pure acc
  | d :: ds, acc => B (mt d) fun b => if b then B (me d) fun y => if acc.length < sizeLine then lcX mt me ds (acc ++ [y]) else stuck else lcX mt me ds acc
def lc (mt : D → M Bool) (me : D → M D) (ds : List D) : M (List D) := noE (lcX mt me ds [])
def famT (K : PySem.W.Frag) (g : DSt) (ws : List Nat) (T : Tgt) (mt : D → M Bool) : TT := fun σ H Q => ∃ d t, T.set d (wipeD g ws) = some t ∧ tXT K W0 t (mt d) σ H Q
def famE (K : PySem.W.Frag) (g : DSt) (ws : List Nat) (T : Tgt) (me : D → M D) : TE := fun σ H Q => ∃ d t, T.set d (wipeD g ws) = some t ∧ tXE K W0 t (me d) σ H Q
theorem lcx_read {K : PySem.W.Frag} {V : WX} {g : DSt} {ws : List Nat} {T : Tgt} {mi : M (List D)} {mt : D → M Bool} {me : D → M D} {σ : L2.St} {H : Hp} {Q : VK} (hT : ∀ i ∈ T.slots, i ∈ ws) (hN : ∀ d, T.set d (wipeD g ws) = none → mt d = stuck)
    (h : tXF K V g (B mi fun ds => lc mt me ds) σ H Q) : tLc (tXI K V g mi) (T.tg K) (famT K g ws T mt) (famE K g ws T me) ws σ H Q := by
  obtain ⟨p, G, S, ow, r, h⟩ := h
  have h : okF K p G H (fun c d H' => V c d σ H') ((mi >>= fun ds => noE (lcX mt me ds [])) S) Q := h
  refine ⟨p, G, S, ow, r, okF.seq h fun ds S1 J p1 G1 H1 e1 dn r1 x1 h1 => ?_⟩
  have h1 : okF K p1 G1 H1 (fun _ _ _ => False) (lcX mt me ds [] S1) Q := h1.noE
  intro A hA
  have rs1 := r.ext x1 r1
  have gA : G1 A = none := r1.gfree hA
  have pA : A ∉ p1.flatten := fun z => r1.dom z hA
  refine ⟨fun i m H' => i + m = ds.length ∧ ∃ p' G' S' acc vacc, Rel0 K p' S' G' H' ∧ Ext p1 G1 H1 p' G' H' ∧ G' A = none ∧ A ∉ p'.flatten ∧ H' A = some (.lst vacc) ∧ DenL K p' G' acc vacc ∧
    okF K p1 G1 H1 (fun _ _ _ => False) (lcX mt me (ds.drop i) acc S') Q, ⟨ds.length, by simp, p1, G1, S1, [], [], r1.own _ pA gA, ⟨Same.refl _, fun _ h _ => h, fun b o e _ => by rw [upd_ne (ne_of_none e hA)]; exact e, fun b e => ?_, [], by simp, by simp⟩, gA, pA, upd_same, rfl, by simpa using h1⟩, ?_⟩
  · by_cases q : b = A
    · subst q; rw [upd_same]; simp
    · rw [upd_ne q]; exact e
  rintro i m H' ⟨hi', p', G', S', acc, vacc, r', x', gA', pA', hA', da, h'⟩
  have sm : Same G1 H' := x'.g.trans r'.sub
  by_cases hlt : i < ds.length
  · refine .inr ⟨dn.go i H' sm hlt, fun H2 => ∃ p' G' S' acc vacc, Rel0 K p' S' G' H2 ∧ Ext p1 G1 H1 p' G' H2 ∧ G' A = none ∧ A ∉ p'.flatten ∧ H2 A = some (.lst vacc) ∧ DenL K p' G' acc vacc ∧
      okF K p1 G1 H1 (fun _ _ _ => False) (lcX mt me (ds.drop (i + 1)) acc S') Q, fun H2 q => ⟨m - 1, by omega, by omega, q⟩, fun x H2 y => ?_⟩
    have ed : ds[i]? = some ds[i] := by simp [hlt]
    rw [List.drop_eq_getElem_cons hlt] at h'
    have fin : ∀ G2 H3, Rel0 K p' S' G2 H3 → Ext p' G' H' p' G2 H3 → Den K p' G2 ds[i] x → T.tg K x (wipe σ ws) H3 fun σ2 H2 => wipe σ2 ws = wipe σ ws ∧ famT K g ws T mt σ2 H2 fun b H3 => if b = true then famE K g ws T me σ2 H3 fun y H4 => ∃ acc, H4 A = some (.lst acc) ∧ acc.length < sizeLine ∧
          (∃ p' G' S' acc' vacc, Rel0 K p' S' G' (upd H4 A (.lst (acc ++ [y]))) ∧ Ext p1 G1 H1 p' G' (upd H4 A (.lst (acc ++ [y]))) ∧ G' A = none ∧ A ∉ p'.flatten ∧ (upd H4 A (.lst (acc ++ [y]))) A = some (.lst vacc) ∧ DenL K p' G' acc' vacc ∧ okF K p1 G1 H1 (fun _ _ _ => False) (lcX mt me (ds.drop (i + 1)) acc' S') Q)
        else (∃ p' G' S' acc vacc, Rel0 K p' S' G' H3 ∧ Ext p1 G1 H1 p' G' H3 ∧ G' A = none ∧ A ∉ p'.flatten ∧ H3 A = some (.lst vacc) ∧ DenL K p' G' acc vacc ∧ okF K p1 G1 H1 (fun _ _ _ => False) (lcX mt me (ds.drop (i + 1)) acc S') Q) := by
      intro G2 H3 r2 x2 dx
      have x12 := x'.trans x2
      obtain ⟨ow3, _, rw3⟩ := (rs1.ext x12 r2).wipe ws
      have h3 : okF K p1 G1 H1 (fun _ _ _ => False) ((mt ds[i] >>= fun b => if b = true then B (me ds[i]) fun y => if acc.length < sizeLine then lcX mt me (ds.drop (i + 1)) (acc ++ [y]) else stuck else lcX mt me (ds.drop (i + 1)) acc) S') Q := h'
      cases eT : T.set ds[i] (wipeD g ws) with
      | none =>
        rw [hN _ eT] at h3
        exact h3.elim
      | some t2 =>
        refine Tgt.ok rw3 dx eT fun σ2 ow2 _ rs2 hw => ⟨by rw [hw _ hT, wipe_idem], ds[i], t2, eT, p', G2, S', ow2, rs2, ?_⟩
        refine okF.seq (h3.ext x12) fun b S3 bv p3 G3 H4 e3 db r3 x3 h4 => ?_
        cases db
        have gA2 : G2 A = none := x2.gn A gA' (by rw [hA']; simp)
        have hA3 : H3 A = some (.lst vacc) := x2.h A _ hA' pA'
        have gA3 : G3 A = none := x3.gn A gA2 (by rw [hA3]; simp)
        have hA4 : H4 A = some (.lst vacc) := x3.h A _ hA3 pA'
        have pA3 : A ∉ p3.flatten := by
          obtain ⟨q, e, f⟩ := x3.p
          rw [e, List.flatten_append, List.mem_append]
          rintro (z | z)
          · exact pA' z
          · rw [f A z] at hA3; cases hA3
        have d3 := da.mono x2.pp x2.g |>.mono x3.pp x3.g
        have h5 : okF K p1 G1 H1 (fun _ _ _ => False) ((mt ds[i] S').andThen _) Q := h3
        rw [e3] at h5
        cases b with
        | false => exact iteF ⟨p3, G3, S3, acc, vacc, r3, x12.trans x3, gA3, pA3, hA4, d3, h5⟩
        | true =>
          have h6 : okF K p1 G1 H1 (fun _ _ _ => False) ((me ds[i] >>= _) S3) Q := h5
          refine iteT ⟨ds[i], t2, eT, p3, G3, S3, ow2, rs2.ext x3 r3, ?_⟩
          refine okF.seq (h6.ext (x12.trans x3)) fun y S4 yv p4 G4 H5 e4 dy r4 x4 h7 => ?_
          have h8 : okF K p1 G1 H1 (fun _ _ _ => False) ((me ds[i] S3).andThen _) Q := h6
          rw [e4] at h8
          have h9 : okF K p1 G1 H1 (fun _ _ _ => False) ((if acc.length < sizeLine then lcX mt me (ds.drop (i + 1)) (acc ++ [y]) else stuck) S4) Q := h8
          by_cases hz : acc.length < sizeLine
          · rw [if_pos hz] at h9
            have hA5 : H5 A = some (.lst vacc) := x4.h A _ hA4 pA3
            have gA4 : G4 A = none := x4.gn A gA3 (by rw [hA4]; simp)
            have pA4 : A ∉ p4.flatten := by
              obtain ⟨q, e, f⟩ := x4.p
              rw [e, List.flatten_append, List.mem_append]
              rintro (z | z)
              · exact pA3 z
              · rw [f A z] at hA4; cases hA4
            have x14 := (x12.trans x3).trans x4
            refine ⟨vacc, hA5, by rw [d3.length]; exact hz, p4, G4, S4, acc ++ [y], vacc ++ [yv], r4.own _ pA4 gA4, ⟨x14.g, x14.gn, fun b o e hb => ?_, fun b e => ?_, x14.p⟩, gA4, pA4, upd_same, (d3.mono x4.pp x4.g).append (DenL.one dy), h9⟩
            · rw [upd_ne (ne_of_none e hA)]
              exact x14.h b o e hb
            · by_cases q : b = A
              · subst q; rw [upd_same]; simp
              · rw [upd_ne q]; exact x14.d b e
          · rw [if_neg hz] at h9
            exact h9.elim
    rcases dn.yld i _ H' x H2 ed sm y with ⟨rfl, dx⟩ | ⟨Tn, vs, es, rfl, hTn, rfl, ees, dl⟩
    · exact fin G' _ r' (Ext.refl _ _ _) (dx.mono x'.pp x'.g)
    · refine fin _ _ (r'.new _ hTn).1 (r'.new _ hTn).2 ?_
      rw [ees]
      exact ⟨Tn, vs, rfl, SqT.of upd_same, (dl.mono x'.pp x'.g).upd (r'.gfree hTn)⟩
  · have e : i = ds.length := by omega
    subst e
    rw [List.drop_length] at h'
    refine .inl ⟨dn.stop H' sm, ?_⟩
    exact h' A vacc p' G' H' hA hA' da gA' pA' r' x'

section
variable {X : Cx} {V : WX} {W : Wf} {g : DSt} {elt iter tg : Expr} {ifs : List Expr} {scope : Scope} {own : List (Str × Nat)} {T : Tgt} {mi : M (List D)} {mt : D → M Bool} {me : D → M D} {pos : Pos} {α : Type} {I : IC α} {rest : List Stmt}
theorem xts_yes {Y : Cx} {t : DSt} : PTs Y [] (tXT Y.K W0 t (pure true)) := ⟨fun pins s σ H Q I ⟨p, G, S, ow, r, h⟩ => pts_nil.run pins s σ H Q I (okR.fin (d := true) h rfl r.rel)⟩
abbrev BlkT (X : Cx) (g : DSt) (scope : Scope) (ws : List Nat) (T : Tgt) (ifs : List Expr) (mt : D → M Bool) : Prop := ∀ (s : Shared) (H : Hp) (C : Addr) (cl : List (Str × Addr)) (fp : List Addr) (d : D) (t : DSt), T.set d (wipeD g ws) = some t → PTs (X.blk s H scope (compEnvC scope cl C X.env) fp) ifs (tXT X.K W0 t (mt d))
abbrev BlkE (X : Cx) (g : DSt) (scope : Scope) (ws : List Nat) (T : Tgt) (elt : Expr) (me : D → M D) : Prop := ∀ (s : Shared) (H : Hp) (C : Addr) (cl : List (Str × Addr)) (fp : List Addr) (d : D) (t : DSt), T.set d (wipeD g ws) = some t → PE (X.blk s H scope (compEnvC scope cl C X.env) fp) elt (tXE X.K W0 t (me d))
abbrev BlkG (X : Cx) (scope : Scope) (T : Tgt) (tg : Expr) : Prop := ∀ (s : Shared) (H : Hp) (C : Addr) (cl : List (Str × Addr)) (fp : List Addr), PG (X.blk s H scope (compEnvC scope cl C X.env) fp) tg (T.tg X.K)
theorem xf_lc (hc : X.calm = true) (hN : X.N.Nodup) (hi : XI X V g tg iter mi) (ok : BlkOk X.N X.env.scope scope own) (hg : BlkG X scope T tg) (hn : ∀ d, T.set d (wipeD g (own.map (·.2))) = none → mt d = stuck) (ht : BlkT X g scope (own.map (·.2)) T ifs mt) (he : BlkE X g scope (own.map (·.2)) T elt me)
    (hT : ∀ i ∈ T.slots, i ∈ own.map (·.2)) (hs : ∀ x, foldedSetIterable iter X.env x = pure x := by intro _; rfl) : XF X V g (.ListComp elt [⟨tg, iter, ifs, 0⟩] scope pos) (B mi fun ds => lc mt me ds) :=
  PE.imp (pe_lc hc hN hi ok hg (fun s H C cl fp => ⟨fun pins s' σ H' Q I ⟨d, t, e, q⟩ => (ht s H C cl fp d t e).run pins s' σ H' Q I q⟩) (fun s H C cl fp => ⟨fun pins s' σ H' Q I ⟨d, t, e, q⟩ => (he s H C cl fp d t e).run pins s' σ H' Q I q⟩) hs) fun σ H Q h => lcx_read hT hn h
end
end RM

namespace RM
open PySem PySem.Spec PyProof.Rows L2
variable [PgW]
def loopS {τ : Type} (f : D → τ → M (D ⊕ τ)) : List D → τ → M (D ⊕ τ)
  | [], x => pure (.inr x)
  | d :: ds, x => B (f d x) fun r => match r with
    | .inl v => pure (.inl v)
    | .inr y => loopS f ds y
def loopN {τ : Type} (f : D → τ → M τ) : List D → τ → M τ
  | [], x => pure x
  | d :: ds, x => B (f d x) fun y => loopN f ds y
section
variable {α τ : Type} {X : Cx} {W : Wf} {g : DSt} {I : IC α} {tg it c e : Expr} {T : Tgt} {mi : M (List D)} {body rest : List Stmt} {pos : Pos} {me : M D} {ml : M (List D)} {m : M α}
theorem xs_forS {f : D → τ → M (D ⊕ τ)} (e : τ → DSt) (x0 : τ) (hp : PassesOwn (model X.prog X.w) X.A X.env X.xe) (hc : X.calm = true) (hi : XI X W.x g tg it mi) (hg : PG X tg (T.tg X.K)) (hw : Wk g (e x0)) (hN : ∀ x d, T.set d (e x) = none → f d x = stuck)
    (hb : ∀ x d t, T.set d (e x) = some t → XS X W t (IS e) body (f d x)) (hs : ∀ x, foldedSetIterable it X.env x = pure x := by intro _; rfl) : XS1 X W g (IS e) (.For tg it body [] pos) (B mi fun ds => loopS f ds x0) := by
  refine PS.imp (ps_for hp hc hi (dg_tgt (W := W) hg) (fam (ι := {q : τ × D × DSt // T.set q.2.1 (e q.1) = some q.2.2}) fun q => hb q.1.1 q.1.2.1 q.1.2.2 q.2) hs) fun E σ H ⟨n, p, G, S, ow, r, h⟩ => ?_
  refine ⟨p, G, S, ow, r.rs, okG.seq h r fun ds S1 J p1 G1 H1 e1 dn r1 x1 h1 => ?_⟩
  obtain ⟨ow1, r1w⟩ := r1.wk hw
  refine ⟨fun i m σ' H' => i + m = ds.length ∧ ∃ x p' G' S' ow', RelF X.K ⟨n.p, n.G, n.H, p1, G1⟩ p' G' S' H' (e x) σ' ow' ∧ okG X.K W n (IS e) (loopS f (ds.drop i) x S') E, ⟨ds.length, by simp, x0, p1, G1, S1, ow1, r1w.frozen, by simpa using h1⟩, ?_⟩
  rintro i m σ' H' ⟨hi', x, p', G', S', ow', r', h'⟩
  have sm : Same G1 H' := r'.fg.trans r'.rs.rel.sub
  by_cases hlt : i < ds.length
  · refine .inr ⟨dn.go i H' sm hlt, fun σ2 H2 => ∃ x p2 G2 S2 ow2, RelF X.K ⟨n.p, n.G, n.H, p1, G1⟩ p2 G2 S2 H2 (e x) σ2 ow2 ∧ okG X.K W n (IS e) (loopS f (ds.drop (i + 1)) x S2) E, fun σ2 H2 q => ⟨m - 1, by omega, by omega, q⟩, fun xv H2 y => ?_⟩
    have ed : ds[i]? = some ds[i] := by simp [hlt]
    rw [List.drop_eq_getElem_cons hlt] at h'
    have fin : ∀ G2 H3, RelF X.K ⟨n.p, n.G, n.H, p1, G1⟩ p' G2 S' H3 (e x) σ' ow' → Den X.K p' G2 ds[i] xv → gD X.K W T.set xv σ' H3 fun σ2 H2 => ∃ q : {q : τ × D × DSt // T.set q.2.1 (e q.1) = some q.2.2}, tXS X.K W q.1.2.2 (IS e) (f q.1.2.1 q.1.1) { E with nx := fun σ2 H2 => ∃ x p2 G2 S2 ow2, RelF X.K ⟨n.p, n.G, n.H, p1, G1⟩ p2 G2 S2 H2 (e x) σ2 ow2 ∧ okG X.K W n (IS e) (loopS f (ds.drop (i + 1)) x S2) E, ct := fun σ2 H2 => ∃ x p2 G2 S2 ow2, RelF X.K ⟨n.p, n.G, n.H, p1, G1⟩ p2 G2 S2 H2 (e x) σ2 ow2 ∧ okG X.K W n (IS e) (loopS f (ds.drop (i + 1)) x S2) E, bk := E.nx } σ2 H2 := by
      intro G2 H3 r2 dx
      have h3 : okG X.K W n (IS e) ((f ds[i] x S').andThen _) E := h'
      cases eg : T.set ds[i] (e x) with
      | none =>
        rw [hN x _ eg] at h3
        exact h3.elim
      | some t2 =>
        refine ⟨_, _, e x, p', G2, S', ow', r2, dx, t2, eg, fun p3 G3 H4 σ3 ow3 r3 => ⟨⟨(x, ds[i], t2), eg⟩, _, p3, G3, S', ow3, r3, ?_⟩⟩
        show okG X.K W _ (IS e) (f ds[i] x S') _
        cases em : f ds[i] x S' with
        | stuck =>
          rw [em] at h3
          exact h3
        | exc z S3 =>
          rw [em] at h3
          exact h3
        | ok rr S3 =>
          rw [em] at h3
          cases rr with
          | inl v =>
            intro c hc'
            cases hc'
            exact h3 (.rt v) rfl
          | inr y =>
            rintro c ⟨t3, rfl, w3⟩
            intro p4 G4 H5 σ4 ow4 r4
            obtain ⟨ow5, r5⟩ := r4.wk w3
            exact ⟨y, p4, G4, S3, ow5, r5, h3⟩
    rcases dn.yld i _ H' xv H2 ed sm y with ⟨rfl, dx⟩ | ⟨T2, vs, es, rfl, hT, rfl, ees, dl⟩
    · exact fin G' _ r' (dx.mono r'.fp r'.fg)
    · refine fin _ _ (r'.pair vs hT) ?_
      rw [ees]
      have hg := r'.rs.rel.gfree hT
      exact ⟨T2, vs, rfl, SqT.of upd_same, (dl.mono r'.fp r'.fg).upd hg⟩
  · have e2 : i = ds.length := by omega
    subst e2
    refine .inl ⟨dn.stop H' sm, ?_⟩
    rw [List.drop_length] at h'
    exact h' (.nx (e x)) ⟨e x, rfl, Wk.refl _⟩ p' G' H' σ' ow' (r1.thaw r')
theorem XS.inr {e : τ → DSt} {mx : M τ} (h : XS X W g (IN e) rest mx) : XS X W g (IS e) rest (mx >>= fun y => pure (.inr y)) := PSs.imp h fun E σ H ⟨n, p, G, S, ow, r, q⟩ => by
  refine ⟨n, p, G, S, ow, r, ?_⟩
  have q : okG X.K W n (IS e) ((mx S).andThen fun y => pure (.inr y)) E := q
  cases em : mx S with
  | ok a S1 => rw [em] at q; exact fun c hc => q c hc
  | exc _ _ => rw [em] at q; exact q
  | stuck => rw [em] at q; exact q
def appO (xs : List D) (y : D) : M (List D) := if xs.length < sizeLine then pure (xs ++ [y]) else stuck
def putX (xs : List D) (y k : D) : M (List D) := liftO (putO xs y k)
def lendX (m : M D) : M D := B (noE m) fun d => if noLst d then pure d else stuck
end
def l0 (f : M D) : List D → M D
  | [] => f
  | _ => stuck
def l1 (f : D → M D) : List D → M D
  | [a] => f a
  | _ => stuck
def l2 (f : D → D → M D) : List D → M D
  | [a, b] => f a b
  | _ => stuck
def l3 (f : D → D → D → M D) : List D → M D
  | [a, b, c] => f a b c
  | _ => stuck
def l4 (f : D → D → D → D → M D) : List D → M D
  | [a, b, c, d] => f a b c d
  | _ => stuck
def l5 (f : D → D → D → D → D → M D) : List D → M D
  | [a, b, c, d, e] => f a b c d e
  | _ => stuck
def l6 (f : D → D → D → D → D → D → M D) : List D → M D
  | [a, b, c, d, e, x] => f a b c d e x
  | _ => stuck
@[simp] theorem l0_at (f : M D) : l0 f [] = f := Eq.trans rfl rfl
@[simp] theorem l1_at (f : D → M D) (a : D) : l1 f [a] = f a := Eq.trans rfl rfl
@[simp] theorem l2_at (f : D → D → M D) (a b : D) : l2 f [a, b] = f a b := Eq.trans rfl rfl
@[simp] theorem l3_at (f : D → D → D → M D) (a b c : D) : l3 f [a, b, c] = f a b c := Eq.trans rfl rfl
@[simp] theorem l4_at (f : D → D → D → D → M D) (a b c d : D) : l4 f [a, b, c, d] = f a b c d := Eq.trans rfl rfl
@[simp] theorem l5_at (f : D → D → D → D → D → M D) (a b c d e : D) : l5 f [a, b, c, d, e] = f a b c d e := Eq.trans rfl rfl
@[simp] theorem l6_at (f : D → D → D → D → D → D → M D) (a b c d e x : D) : l6 f [a, b, c, d, e, x] = f a b c d e x := Eq.trans rfl rfl
section
variable {P : Program} {w : World} {K : PySem.W.Frag} {mg : Str → Option Value} {base : Heap} {x qual : Str} {params : Arguments} {body : List Stmt} {scope : Scope} {dvs : List V} {kws : List (Str × V)} {f : Addr} {fd : FuncData}
theorem fnX_of {N ps : List Str} {k : Nat} {gf : List D → M D} (F : FunD K x qual params body scope dvs kws f fd) (S : FnScope N ps scope)
    (hb : ∀ (cdv : Value) (A : Around) (fr : List Env) (s : Shared) (H : Hp) (E : L2.XK), BodyX (cxOf (L2.CX P w) P w K mg base N qual scope f cdv A fr s H E) k E → ∀ ds : List D, ds.length = ps.length → XS (cxOf (L2.CX P w) P w K mg base N qual scope f cdv A fr s H E) E (startD N.length ds) IB body (gf ds)) : FnD P w K mg base (k + 1) f fd ps gf := by
  refine fnG_of F S (fun vs H Q E h => spD.len vs H Q _ h) fun cdv A fr s H vs Q E hG hr h => ?_
  obtain ⟨ds, p, G, St, e, dn, r, h⟩ := h
  refine ⟨_, hb cdv A fr s H E ⟨hr, hG, takes_of rfl rfl rfl rfl, passes_of rfl, rfl⟩ ds e, ?_⟩
  refine ⟨⟨p, G, H, p, G⟩, p, G, St, [], ⟨⟨r, ?_, by simpa using r.nd, by simp⟩, Ext.refl _ _ _, by simp, ⟨[], by simp⟩, Same.refl _⟩, ?_⟩
  · unfold L2.start startD
    rw [← dn.length]
    exact slots_start dn
  · cases em : gf ds St with
    | stuck => rw [em] at h; exact h
    | exc z S' => rw [em] at h; exact h
    | ok d S' =>
      rw [em] at h
      rintro c (rfl | ⟨rfl, t, rfl⟩)
      · exact h
      · exact fun p' G' H' σ' ow' r' => h .non p' G' H' rfl r'.rs.rel r'.ext
end
theorem argsD_at {n : Nat} {gf : List D → M D} {xs : List D} (h : xs.length = n) : argsD n gf xs = gf xs := if_pos h
theorem argsB_congr {β : Type} : ∀ (ms : List (M D)) {F F' : List D → M β}, (∀ xs, xs.length = ms.length → F xs = F' xs) → argsB ms F = argsB ms F'
  | [], _, _, h => h [] rfl
  | m :: ms, F, F', h => by
    have : (fun x => argsB ms fun xs => F (x :: xs)) = fun x => argsB ms fun xs => F' (x :: xs) := by
      funext x
      exact argsB_congr ms fun xs e => h (x :: xs) (by rw [List.length_cons, List.length_cons, e])
    show B m _ _ = B m _ _
    unfold B
    rw [this]
section
variable {X : Cx} {W : WX} {g : DSt} {a b c e : Expr} {es : List Expr} {kw : List Keyword} {ma mb mc : M D} {ms : List (M D)} {pos p : Pos} {k : Nat} {f : Addr} {fd : FuncData} {ps ks : List Str} {gf : List D → M D} {x : Str} {dvs : List V} {ds : List Value} {dds : List D}
theorem xe_call (F : FnD X.prog X.w X.K X.mg X.base k f fd ps gf) (hr : Room k X.A) (hG : X.A.guards = some []) (tk : Takes X W) (hg : Gl X x) (hm : X.mg x = some (.ref f)) (hk : PySem.W.keepIn X.K (.ref f) = true) (hb : Binds X.K fd ps ds) (hd : Vals dvs ds) (hdd : ∀ q G, DenL X.K q G dds dvs)
    (ha : XA X W g (a :: es) ms) (hl : ms.length + dds.length = ps.length := by rfl) (hdb : (x == ("__debug__" : Str)) = false := by decide) (he : starEach (a :: es) X.env = (false, eval a X.env) :: starEach es X.env := by rfl) (hpl : (backTo pos (starEach es X.env)).any (·.1) = false := by rfl) :
    XE X W g (.Call (.Name x p) (a :: es) [] pos) (argsB ms fun xs => gf (xs ++ dds)) := by
  have h : XE X W g (.Call (.Name x p) (a :: es) [] pos) _ := XE.byA (fun h => de_call F hr hG tk hg hm hk hb hd hdd h hdb he hpl) ha
  rw [argsB_congr ms (F' := fun xs => gf (xs ++ dds)) fun xs e => argsD_at (by rw [List.length_append, e, hl])] at h
  exact h
theorem xe_call0 (F : FnD X.prog X.w X.K X.mg X.base k f fd ps gf) (hr : Room k X.A) (hG : X.A.guards = some []) (tk : Takes X W) (hg : Gl X x) (hm : X.mg x = some (.ref f)) (hk : PySem.W.keepIn X.K (.ref f) = true) (hb : Binds X.K fd ps ds) (hd : Vals dvs ds) (hdd : ∀ q G, DenL X.K q G dds dvs) (hl : dds.length = ps.length := by rfl)
    (hdb : (x == ("__debug__" : Str)) = false := by decide) : XE X W g (.Call (.Name x p) [] [] pos) (gf dds) := XE.by (de_call0 F hr hG tk hg hm hk hb hd hdd hdb) (argsD_at hl)
variable {ar : {α : Type} → List α → List α → List α → List α}
theorem xe_len (hg : Gl X "len") (hm : X.mg "len" = none) (ha : XA X W g [a] ms) (he : starEach [a] X.env = [(false, eval a X.env)] := by rfl) : XE X W g (.Call (.Name "len" p) [a] [] pos) (argsB ms lenD) := XE.byA (fun h => de_len hg hm h he) ha
theorem xe_min (hc : X.calm = true) (hg : Gl X "min") (hm : X.mg "min" = none) (ha : XA X W g (a :: es) ms) (he : starEach (a :: es) X.env = (false, eval a X.env) :: starEach es X.env := by rfl) (hpl : (backTo pos (starEach es X.env)).any (·.1) = false := by rfl) : XE X W g (.Call (.Name "min" p) (a :: es) [] pos) (argsB ms minD) := XE.byA (fun h => de_min hc hg hm h he hpl) ha
theorem xe_idx (ha : XE X W g a ma) (hb : XE X W g b mb) (hs : PlainIx b) : XE X W g (.Subscript a b pos) (B ma fun x => B mb fun y => idxD x y) := XE.by2 (fun h h' => de_idx h h' hs) ha hb
end
end RM

namespace RM
open PySem PySem.Spec PyProof.Rows L2
variable [PgW]
section
variable {X : Cx} {W : WX} {g : DSt} {a b c e : Expr} {es : List Expr} {ma mb mc : M D} {ms : List (M D)} {pos p p2 pt : Pos}
variable {lo hi : Option Expr} {ml mh : M (Option Int)}
def chainM (f f' : D → D → M D) (ma mb mc : M D) : M D := B ma fun x => B mb fun y => B (f x y) fun z => B (asB z) fun t => if t then B mc fun w => f' y w else pure (.bl false)
theorem xe_dict0 : XE X W g (.Dict [] [] pos) (pure (.dic [] [])) := XE.by de_dict0 rfl
def joinX (ma mb : M D) : M D := B ma fun x => B (strD x) fun s => B mb fun y => joinD (.str s) y
structure XP (X : Cx) (W : WX) (g : DSt) (pos : Pos) (keys : List (Option Expr)) (values : List Expr) (ks : List Key) (ms : List (M D)) : Prop where
  d : ∃ u, DP X W pos keys values ks u ∧ u g = runA ms
theorem xp_nil : XP X W g pos [] [] [] [] := ⟨_, dp_nil, rfl⟩
theorem xp_cons {ke ve : Expr} {keys : List (Option Expr)} {values : List Expr} {k : Key} {ks : List Key} {mv : M D} (hk : PE X ke (tC (kV k))) (hv : XE X W g ve mv) (hr : XP X W g pos keys values ks ms) : XP X W g pos (some ke :: keys) (ve :: values) (k :: ks) (mv :: ms) := by
  obtain ⟨u, h1, h2⟩ := hr.d
  exact ⟨_, dp_cons hk hv.de h1, by rw [AtG_self, h2]; rfl⟩
theorem xe_dict {keys : List (Option Expr)} {values : List Expr} {ks : List Key} (h : XP X W g pos keys values ks ms) (hall : keys.all (·.isSome) = true := by rfl) (hl : keys.length = values.length := by rfl) (h0 : keys ≠ [] := by intro h; cases h) (h15 : keys.length ≤ 15 := by decide) : XE X W g (.Dict keys values pos) (argsB ms (dicD ks)) := by
  obtain ⟨u, h1, h2⟩ := h.d
  exact XE.by (de_dict h1 hall hl h0 h15) (by rw [argsB_eq, ← h2])
variable {tg : Expr}
theorem xi_range1 {pp : Pos} (hg : Gl X "range") (hm : X.mg "range" = none) (ha : XE X W g a ma) (hs : starEach [a] X.env = [(false, eval a X.env)] := by rfl) : XI X W g tg (.Call (.Name "range" pp) [a] [] pos) (B ma fun x => rangeD [x]) := XI.by (di_range1 hg hm ha.de hs) (by rw [AtG_self]; rfl)
end
section
variable {α τ : Type} {X : Cx} {W : Wf} {g : DSt} {I : IC α} {tg e b : Expr} {T : Tgt} {rest : List Stmt} {pos : Pos} {me mb : M D} {ml : M (List D)} {m : M α}
end
end RM

namespace RM
open PySem PySem.Spec PyProof.Rows L2
variable [PgW]
section
variable {α : Type} {X : Cx} {W : Wf} {g : DSt} {I : IC α} {e : Expr} {rest : List Stmt} {pos pos' px : Pos} {me : M D} {tab : List (Str × Str)}
end
def IK (a : Addr) (c : Str) : IC D := fun d k => ∃ t ns fs, k = .nx t ∧ d = .ins c ns fs ∧ t[0]? = some (some (.slf a c ns fs))
def okI (K : PySem.W.Frag) (c : Str) (x : Addr) (p : List (List Addr)) (G H : Hp) (W : Value → Option Addr → Hp → Prop) (r : Res D) (Q : VK) : Prop := match r with
  | .ok (.ins c' ns fs) S' => c' = c ∧ ∀ dx vs p' G' H', H' x = some (.ins (He.ga K c) dx (ns.zip vs)) → vs.length = ns.length → DenL K p' G' fs vs → G' x = none → x ∉ p'.flatten → Rel0 K p' S' G' H' → Ext p G H p' G' H' → Q .non H'
  | .ok _ _ => False
  | .exc e S' => ∀ cls dd p' G' H', ExcAt K p' G' e cls dd → Rel0 K p' S' G' H' → Ext p G H p' G' H' → W cls dd H'
  | .stuck => False
section
variable {P : Program} {w : World} {K : PySem.W.Frag} {mg : Str → Option Value} {base : Heap} {x qual : Str} {params : Arguments} {body : List Stmt} {scope : Scope} {dvs : List V} {kws : List (Str × V)} {f : Addr} {fd : FuncData}
end
theorem okI.of {K : PySem.W.Frag} {c : Str} {x : Addr} {p : List (List Addr)} {G H : Hp} {W : Value → Option Addr → Hp → Prop} {r : Res D} {Q : VK} (hx : H x = none) (hr : ∀ d S', r = .ok d S' → ∃ ns fs, d = .ins c ns fs) (h : okR (Den K) K p G H W r Q) : okI K c x p G H W r (fun v H2 => v = .non ∧ Q (.ref x) H2) := by
  cases r with
  | stuck => exact h
  | exc e S' => exact h
  | ok d S' =>
    obtain ⟨ns, fs, rfl⟩ := hr d S' rfl
    refine ⟨rfl, fun dx vs p' G' H' k1 k2 k3 gx px r' x' => ⟨rfl, ?_⟩⟩
    have sm : Same G' (upd G' x (.ins (He.ga K c) dx (ns.zip vs))) := Same.upd_of gx
    refine h (.ref x) p' (upd G' x (.ins (He.ga K c) dx (ns.zip vs))) H' ⟨x, dx, vs, rfl, upd_same, k2, k3.upd gx⟩ ⟨fun b o e => ?_, r'.len, fun i as o e1 e2 => (r'.mo i as o e1 e2).ice sm, r'.nd, fun b hb => ?_⟩ ⟨x'.g.trans sm, fun b hb1 hb2 => ?_, x'.h, x'.d, x'.p⟩
    · by_cases q : b = x
      · subst q; rw [upd_same] at e; cases e; exact k1
      · rw [upd_ne q] at e; exact r'.sub b o e
    · have : b ≠ x := by rintro rfl; exact px hb
      rw [upd_ne this]; exact r'.gn b hb
    · have : b ≠ x := by rintro rfl; exact hb2 hx
      rw [upd_ne this]; exact x'.gn b hb1 hb2
def onlyC (c : Str) (m : M D) : M D := fun S => match m S with
  | .ok (.ins c' ns fs) S' => if c' = c then .ok (.ins c' ns fs) S' else .stuck
  | .ok _ _ => .stuck
  | r => r
section
variable {X : Cx} {W : WX} {g : DSt} {a : Expr} {es : List Expr} {kw : List Keyword} {ms : List (M D)} {pos p : Pos} {k : Nat} {f : Addr} {fd : FuncData} {ps ks : List Str} {gf : List D → M D} {dvs : List V} {ds : List Value} {dds : List D}
end
@[simp] theorem onlyC_ins (c : Str) (ns : List Str) (fs : List D) : onlyC c (pure (.ins c ns fs)) = pure (.ins c ns fs) := by
  funext S; exact if_pos rfl
@[simp] theorem onlyC_raise (c : Str) (e : Exc) : onlyC c (raise e) = raise e := Eq.trans rfl rfl
@[simp] theorem onlyC_stuck (c : Str) : onlyC c stuck = stuck := Eq.trans rfl rfl
theorem XS.only {X : Cx} {W : Wf} {g : DSt} {a : Addr} {c : Str} {body : List Stmt} {m : M D} (h : XS X W g (IK a c) body m) : XS X W g (IK a c) body (onlyC c m) := PSs.imp h fun E σ H ⟨n, p, G, S, ow, r, q⟩ => by
  refine ⟨n, p, G, S, ow, r, ?_⟩
  unfold onlyC at q
  cases em : m S with
  | stuck => rw [em] at q; exact q
  | exc _ _ => rw [em] at q; exact q
  | ok d S1 =>
    rw [em] at q
    rintro k ⟨t, ns, fs, rfl, rfl, ht⟩
    dsimp only at q
    rw [if_pos rfl] at q
    exact q (.nx t) ⟨t, ns, fs, rfl, rfl, ht⟩
section
variable {X : Cx} {W : WX} {g : DSt} {kw : List Keyword} {ms : List (M D)} {pos p : Pos} {k : Nat} {f : Addr} {fd : FuncData} {ps ks : List Str} {gf : List D → M D} {dvs : List V} {ds : List Value} {dds : List D}
end
end RM

namespace RM
open PySem PySem.Spec PyProof.Rows L2
variable [PgW]
structure PrD where
  cls : Str
  prop : Str
  d : He.DefD
def pAd (K : PySem.W.Frag) (c p : Str) : Addr := match PySem.W.recIn K (He.ma K (He.ga K c) p) "property" with
  | some (.ref a :: _) => a
  | _ => 0
def fnWA (K : PySem.W.Frag) (a : Addr) : He.FnW := match K.lookup a with
  | some ⟨_, _, .func fd, _⟩ => some (fd.name, fd.qualname, fd.params, fd.body, fd.scope, fd.globals, fd.closure, fd.builtins)
  | _ => none
def PrD.ok (K : PySem.W.Frag) (q : PrD) : Bool :=
  He.eqO (PySem.W.findIn K (.ref (He.ga K q.cls)) q.prop) (some (some (.ref (He.ma K (He.ga K q.cls) q.prop)))) &&
  (He.eqO (PySem.W.specialIn K (.ref (He.ma K (He.ga K q.cls) q.prop)) "__get__") (some (some (.builtin "property.__get__"))) &&
  (decide (PySem.W.takesIn K (.ref (He.ma K (He.ga K q.cls) q.prop)) = some true) &&
  ((match PySem.W.recIn K (He.ma K (He.ga K q.cls) q.prop) "property" with
    | some (.ref _ :: _) => true
    | _ => false) &&
  (PySem.W.keepIn K (.ref (pAd K q.cls q.prop)) && (match K.lookup (pAd K q.cls q.prop) with
    | some ⟨_, _, .func fd, _⟩ => PySem.W.codeIn K fd.code q.d.qual && (He.dflB K fd.defaults (q.d.dvs K) && He.kwdB K fd.kwdefaults (q.d.kws K))
    | _ => false)))))
abbrev AlX : Type := He.AlD × Bool × List He.FnW
def obsX (fa : List He.Fa) (fn : List He.DefD) (pr : List PrD) (chk : PySem.W.Frag → Bool) (K : PySem.W.Frag) : AlX := (He.obsD fa fn K, (chk K && pr.all fun q => q.ok K), pr.map fun q => fnWA K (pAd K q.cls q.prop))
structure SaysX (fa : List He.Fa) (fn : List He.DefD) (pr : List PrD) (chk : PySem.W.Frag → Bool) (K : PySem.W.Frag) : Prop where
  d : He.SaysD fa fn K
  c : chk K = true
  p : ∀ q ∈ pr, q.ok K = true
  w : pr.map (fun q => fnWA K (pAd K q.cls q.prop)) = pr.map fun q => q.d.val
theorem SaysX.of {fa : List He.Fa} {fn : List He.DefD} {pr : List PrD} {chk : PySem.W.Frag → Bool} {K : PySem.W.Frag} (e : obsX fa fn pr chk K = (He.valD fn, true, pr.map fun q => q.d.val)) : SaysX fa fn pr chk K := by
  have e1 := congrArg (fun z : AlX => z.1) e
  have e2 : (chk K && pr.all fun q => q.ok K) = true := congrArg (fun z : AlX => z.2.1) e
  have e3 := congrArg (fun z : AlX => z.2.2) e
  obtain ⟨h1, h2⟩ := He.ba e2
  exact ⟨e1, h1, List.all_eq_true.mp h2, e3⟩
def isC (c : Str) (d : D) : M Unit := fun S => match d with
  | .ins c' _ _ => if c' = c then .ok () S else .stuck
  | .mref i => match S[i]? with
    | some (.inst c' _ _) => if c' = c then .ok () S else .stuck
    | _ => .stuck
  | _ => .stuck
@[simp] theorem isC_ins (c : Str) (ns : List Str) (fs : List D) : isC c (.ins c ns fs) = pure () := by funext S; exact if_pos rfl
structure OwnM (X : Cx) (k : Nat) (c m : Str) (f : Addr) (fd : FuncData) (ps : List Str) (gf : List D → M D) : Prop where
  fn : FnD X.prog X.w X.K X.mg X.base k f fd ps gf
  cl : Cls X.K (He.ga X.K c)
  me : Meth X.K (He.ga X.K c) m f
section
variable {X : Cx} {g : DSt} {o e : Expr} {es : List Expr} {mo : M D} {ms : List (M D)} {pos apos : Pos} {k : Nat} {f : Addr} {fd : FuncData} {ps : List Str} {gf : List D → M D} {dvs : List V} {ds : List Value} {dds : List D}
end
end RM

namespace RM
open PySem PySem.Spec PyProof.Rows L2
variable [PgW]
def rA (K : PySem.W.Frag) (V : Wf) (f : List D → M D) : List L2.V → Hp → VK → Prop := fun vs H Q => ∃ ds p G S, DenL K p G ds vs ∧ Rel0 K p S G H ∧ okR (Den K) K p G H V (f ds S) Q
section
variable {X : Cx} {V : Wf} {g : DSt} {a b : Expr} {es : List Expr} {ma mb : M D} {ms : List (M D)} {pos p : Pos} {f : D → D → M D}
theorem xe_callA {x : Str} {id : String} {fa : List D → M D} (hc : CallR X (.builtin id) (rA X.K V fa)) (hg : Gl X x) (hm : X.mg x = none) (hv : bootBuiltins x = some (.builtin id)) (ha : XA X V.x g (a :: es) ms) (hn : x ≠ "__name__" := by decide) (hdb : (x == ("__debug__" : Str)) = false := by decide)
    (he : starEach (a :: es) X.env = (false, eval a X.env) :: starEach es X.env := by rfl) (hpl : (backTo pos (starEach es X.env)).any (·.1) = false := by rfl) : XE X V.x g (.Call (.Name x p) (a :: es) [] pos) (argsB ms fa) := by
  rw [argsB_eq]
  refine PE.imp (pe_callB hc hg hm hv ha hn hdb he hpl) fun σ H Q ⟨p, G, S, ow, r, h⟩ => ?_
  exact ⟨p, G, S, ow, r, okR.seq h fun d S1 v p1 G1 H1 e1 dn r1 x1 h1 => ⟨d, p1, G1, S1, dn, r1, h1⟩⟩
end
abbrev MT := List (Str × (D → D → M D))
def AllM (X : Cx) (k : Nat) (m : Str) : MT → Prop
  | [] => True
  | q :: r => (∃ f fd ps, OwnM X k q.1 m f fd ps (l2 q.2) ∧ ps.length = 2 ∧ Binds X.K fd ps []) ∧ AllM X k m r
theorem AllM.get {X : Cx} {k : Nat} {m c : Str} {h : D → D → M D} : ∀ {T : MT}, AllM X k m T → T.lookup c = some h → ∃ f fd ps, OwnM X k c m f fd ps (l2 h) ∧ ps.length = 2 ∧ Binds X.K fd ps []
  | [], _, e => by cases e
  | q :: r, ⟨a, b⟩, e => by
    obtain ⟨c', h'⟩ := q
    rw [List.lookup_cons] at e
    cases z : c == c' with
    | true =>
      rw [z] at e
      cases e
      rw [beq_iff_eq.mp z]
      exact a
    | false =>
      rw [z] at e
      exact AllM.get b e
section
variable {X : Cx} {V : Wf} {k : Nat} {T : MT}
end
end RM

namespace RM
open PySem PySem.Spec PyProof.Rows L2
variable [PgW]
def pick {α : Type} : List Nat → List α → List α
  | [], _ => []
  | i :: is, xs => (xs[i]?).elim (pick is xs) fun x => x :: pick is xs
@[simp] theorem pick_nil {α : Type} (xs : List α) : pick [] xs = [] := Eq.trans rfl rfl
@[simp] theorem pick_cons {α : Type} (i : Nat) (is : List Nat) (xs : List α) : pick (i :: is) xs = (xs[i]?).elim (pick is xs) fun x => x :: pick is xs := Eq.trans rfl rfl
section
variable {K : PySem.W.Frag} {x qual : Str} {params : Arguments} {body : List Stmt} {scope : Scope} {dvs : List V} {kws : List (Str × V)} {f : Addr} {fd : FuncData} {ps : List Str}
end
def CW (X : Cx) (W : WX) (g : DSt) (es : List Expr) (kw : List Keyword) (pos : Pos) (ks : List Str) (ms mk : List (M D)) : Prop :=
  ∀ (f : Value) (first : List Value) (pins : List (Addr × Obj)) (s : Shared) (σ : L2.St) (H : Hp) (Q : List V → List V → Hp → Prop) (P : Value → Shared → Prop), PySem.W.keepIn X.K f = true → Inv X pins σ H s →
    (tXA X.K W g (runA ms) σ H fun vs H1 => tXA X.K W g (runA mk) σ H1 fun zs H2 => Q vs zs H2) →
    (∀ us ws s2 vs zs H2, Inv X pins σ H2 s2 → Vals vs us → Vals zs ws → Q vs zs H2 → wpAny (model X.prog X.w) X.A (call f (first ++ us) (ks.zip ws)) P X.xe s2) →
    wpAny (model X.prog X.w) X.A (callWith pos f first (backTo pos (starEach es X.env)) (backToKw pos (keywordEach kw X.env))) P X.xe s
theorem tXA_nil {K : PySem.W.Frag} {W : WX} {g : DSt} {σ : L2.St} {H : Hp} {Q : List V → Hp → Prop} (h : tXA K W g (runA []) σ H Q) : Q [] H := by
  obtain ⟨p, G, S, ow, r, q⟩ := h
  exact okR.fin (d := []) q DenL.nil r.rel
section
variable {X : Cx} {W : WX} {g : DSt} {a : Expr} {es : List Expr} {kw : List Keyword} {ms mk : List (M D)} {pos p : Pos} {ks : List Str}
theorem cw_kw (hkw : XKw X W g kw mk) (hall : (backToKw pos (keywordEach kw X.env)).all (·.1.isSome) = true := by rfl) (hks : (backToKw pos (keywordEach kw X.env)).filterMap (·.1) = ks := by rfl)
    (hpl : ((backTo pos (starEach [] X.env)).any (·.1) || (backToKw pos (keywordEach kw X.env)).any (·.1.isNone)) = false := by rfl) : CW X W g [] kw pos ks [] mk := by
  intro f first pins s σ H Q P hk I h go
  refine PySem.W.callWith_KW0 (h₀ := X.base) I.ok.mod.kin hk hall ?_ hpl
  refine thn (hkw.run pos pins s σ H _ I (tXA_nil h)) fun ws s2 ⟨zs, H2, I2, rz, q2⟩ => ⟨I2.kIn, ?_⟩
  rw [hks]
  exact go [] ws s2 [] zs H2 I2 .nil rz q2
end
theorem argsB_app {β : Type} : ∀ (ms mk : List (M D)) (k : List D → M β), argsB (ms ++ mk) k = argsB ms fun xs => argsB mk fun ys => k (xs ++ ys)
  | [], _, _ => rfl
  | m :: ms, mk, k => by
    show B m (fun x => argsB (ms ++ mk) fun xs => k (x :: xs)) = B m fun x => argsB ms fun xs => argsB mk fun ys => k (x :: xs ++ ys)
    have : (fun x => argsB (ms ++ mk) fun xs => k (x :: xs)) = fun x => argsB ms fun xs => argsB mk fun ys => k (x :: xs ++ ys) := by
      funext x
      rw [argsB_app ms mk]
      rfl
    rw [B_eq, B_eq, this]
theorem okKwX {K : PySem.W.Frag} {W : WX} {g : DSt} {σ : L2.St} {H : Hp} {p : List (List Addr)} {G : Hp} {S : Sto} {ow : List Addr} {ms mk : List (M D)} {F : List D → M D} {Q : VK} {Q' : List V → List V → Hp → Prop} {d0 : D} {v0 : V} (r : RelS K p G S H g σ ow) (dn0 : Den K p G d0 v0) (h : okR (Den K) K p G H (fun c d H' => W c d σ H') (argsB (ms ++ mk) F S) Q)
    (k : ∀ xs ys vs zs p2 G2 H2 S2, xs.length = ms.length → ys.length = mk.length → Den K p2 G2 d0 v0 → DenL K p2 G2 xs vs → DenL K p2 G2 ys zs → Rel0 K p2 S2 G2 H2 → okR (Den K) K p2 G2 H2 (fun c d H' => W c d σ H') (F (xs ++ ys) S2) Q → Q' vs zs H2) :
    tXA K W g (runA ms) σ H fun vs H1 => tXA K W g (runA mk) σ H1 fun zs H2 => Q' vs zs H2 := by
  rw [argsB_app, argsB_congr ms (F' := fun xs => if xs.length = ms.length then argsB mk (fun ys => F (xs ++ ys)) else stuck) fun xs e => (if_pos e).symm, argsB_eq] at h
  refine ⟨p, G, S, ow, r, okR.seq h fun d S1 v p1 G1 H1 e1 dn r1 x1 h1 => ?_⟩
  by_cases hz : d.length = ms.length
  · rw [if_pos hz, argsB_congr mk (F' := fun ys => if ys.length = mk.length then F (d ++ ys) else stuck) fun xs e => (if_pos e).symm, argsB_eq] at h1
    refine ⟨p1, G1, S1, ow, r.ext x1 r1, okR.seq h1 fun d2 S2 v2 p2 G2 H2 e2 dn2 r2 x2 h2 => ?_⟩
    by_cases hy : d2.length = mk.length
    · rw [if_pos hy] at h2
      exact k d d2 v v2 p2 G2 H2 S2 hz hy ((dn0.mono x1.pp x1.g).mono x2.pp x2.g) (dn.mono x2.pp x2.g) dn2 r2 h2
    · rw [if_neg hy] at h2; exact h2.elim
  · rw [if_neg hz] at h1; exact h1.elim
theorem okKw {K : PySem.W.Frag} {W : WX} {g : DSt} {σ : L2.St} {H : Hp} {p : List (List Addr)} {G : Hp} {S : Sto} {ow : List Addr} {ms mk : List (M D)} {F : List D → M D} {Q : VK} {Q' : List V → List V → Hp → Prop} (r : RelS K p G S H g σ ow) (h : okR (Den K) K p G H (fun c d H' => W c d σ H') (argsB (ms ++ mk) F S) Q)
    (k : ∀ xs ys vs zs p2 G2 H2 S2, xs.length = ms.length → ys.length = mk.length → DenL K p2 G2 xs vs → DenL K p2 G2 ys zs → Rel0 K p2 S2 G2 H2 → okR (Den K) K p2 G2 H2 (fun c d H' => W c d σ H') (F (xs ++ ys) S2) Q → Q' vs zs H2) :
    tXA K W g (runA ms) σ H fun vs H1 => tXA K W g (runA mk) σ H1 fun zs H2 => Q' vs zs H2 := okKwX (d0 := .non) (v0 := .non) r rfl h fun xs ys vs zs p2 G2 H2 S2 h1 h2 _ => k xs ys vs zs p2 G2 H2 S2 h1 h2
section
variable {X : Cx} {W : WX} {g : DSt} {a : Expr} {es : List Expr} {kw : List Keyword} {ms mk : List (M D)} {pos p apos : Pos} {k : Nat} {f : Addr} {fd : FuncData} {ps ks : List Str} {gf : List D → M D} {dvs : List V} {ds : List Value} {dds : List D} {is : List Nat} {n : Nat} {x : Str}
variable {o : Expr} {mo : M D}
end
end RM

namespace RM
open PySem PySem.Spec PyProof.Rows L2
variable [PgW]
abbrev supB (txt sf fl pr : Str) (j : Nat) (p0 p1 p2 p3 p4 p5 p6 p7 p8 p9 : Pos) : List Stmt :=
  [.Expr (.Call (.Attribute (.Call (.Name "super" p0) [] [] p1) "__init__" p2) [.Constant (.str txt) j p3] [] p4) p5, .Assign [.Attribute (.Name sf p6) fl p7] (.Name pr p8) p9]
structure SupS (sc : Scope) (sf pr : Str) : Prop where
  su : sc.names.lookup ("super" : Str) = some .globalImplicit
  cl : sc.names.lookup ("__class__" : Str) = some .free
  lsf : sc.names.lookup sf = some .local
  lpr : sc.names.lookup pr = some .local
  kd : sc.kind = .function
  co : sc.isCoroutine = false
  ge : sc.isGenerator = false
  ce : ∀ y ∈ sc.names, y.2 ≠ .cell
  d1 : (sf == ("__debug__" : Str)) = false
  d2 : (pr == ("__debug__" : Str)) = false
  ne : (sf == pr) = false
structure SupC (prog : Program) (K : PySem.W.Frag) (C fI : Addr) (fl : Str) (name qual : Str) (params : Arguments) (body : List Stmt) (scope : Scope) : Prop where
  ox : OexC K C
  iC : PySem.W.findIn K (.ref C) "__init__" = some (some (.ref fI))
  tI : PySem.W.typeIn K (.ref fI) = some (.type "function")
  no : PySem.W.findIn K (.ref C) fl = some none
  fn : ∃ (oc : Value) (od : Option Addr) (osl : Array (Option Value)) (kV doc pm : Value) (an : Option Addr) (cda : Addr) (ct : Value) (cc : Addr), K.lookup fI = some ⟨oc, od, .func (PySem.W.fnX name qual params body scope [("__class__", cc)] .none kV doc pm an (.ref cda) ct), osl⟩ ∧
    PySem.W.codeIn K (.ref cda) qual = true ∧ (∃ (ccl : Value) (cdd : Option Addr) (vs : Array Value) (ccs : Array (Option Value)) (file : Str) (tf : Tok), K.lookup cda = some ⟨ccl, cdd, .fields vs, ccs⟩ ∧ vs[2]? = some (.str file tf) ∧ ((prog.main.file : Str) == file) = true) ∧
    ∃ (cl : Value) (cld : Option Addr) (csl : Array (Option Value)), K.lookup cc = some ⟨cl, cld, .cell (some (.ref C)), csl⟩
  st : PySem.W.nsIn K cStatics "thirdparty.any" = some none
  su : PySem.W.ks_superIn K C C "__init__" = some (some (.builtin "ValueError.__init__"))
  sb : PySem.W.subIn K (.ref C) (.type "ValueError") = some true
  mr : PySem.W.mroIn K C (.ref C) = some true
  top : (prog.main.scope.names.lookup ("super" : Str)).isSome = false
section
variable {prog : Program} {w : World} {A : Around} {K : PySem.W.Frag} {C fI x t0 : Addr} {fl sf pr txt name qual : Str} {params : Arguments} {scope : Scope} {j : Nat} {p0 p1 p2 p3 p4 p5 p6 p7 p8 p9 : Pos} {a0 : Arg} {R : Result → Shared → Prop} {mg mb : Str → Option Value} {u : Value}
theorem sup_run {h : Heap} {g : Array GenState} {d : Drawn} {t : Nat} {os : OsState} (Z : SupC prog K C fI fl name qual params (supB txt sf fl pr j p0 p1 p2 p3 p4 p5 p6 p7 p8 p9) scope) (S : SupS scope sf pr) (hp : (params.posonlyargs ++ params.args).head? = some a0) (hl : (p2.endLine == p4.line) = true) (h0 : a0.arg = sf)
    (hb : ∀ (kV doc pm : Value) (an : Option Addr) (cdv ct : Value) (cl : List (Str × Addr)) (v1 v2 : Value), bindArgs (PySem.W.fnX name qual params (supB txt sf fl pr j p0 p1 p2 p3 p4 p5 p6 p7 p8 p9) scope cl .none kV doc pm an cdv ct) ⟨[v1, v2], []⟩ = pure [(sf, v1), (pr, v2)])
    (kin : K.In h) (hr : A.depth < recursionLimit) (nol : h.NoLimit) (gl : h.Ns mainGlobals mg) (bl : h.Ns builtinsNs mb) (bb : ∀ x : Str, x ≠ "__name__" → mb x = bootBuiltins x) (hsu : mg "super" = none)
    (he : h.get? x = some (PySem.HandSPX.excO C t0)) (hxK : K.lookup x = none)
    (hq : ∀ h' tk' dx t1, (∀ b o, b ≠ x → h.get? b = some o → h'.get? b = some o) → h.objs.size ≤ dx → dx ≠ x → h'.get? x = some { cls := .ref C, dict := some dx, data := .fields #[.ref t1, .none, .none, .none, .bool false, .none] } →
      h'.Ns1 dx (fun y => if y = fl then some u else none) → R (.ok (.ret .none)) ⟨h', g, d, tk', os⟩) :
    codeAny (model prog w) A (.call (.ref fI) ⟨[.ref x, u], []⟩) R ⟨h, g, d, t, os⟩ := by
  obtain ⟨oc, od, osl, kV, doc, pm, an, cda, ct, cc, lk, hcd, ⟨ccl, cdd, vs, ccs, file, tf, lcd, hvs, hfile⟩, cl, cld, csl, lcc⟩ := Z.fn
  obtain ⟨nm, q, N, bs, bm, sn, sub, ab, col, dd, k0, k1, k2, k3, k5, hC, hbm⟩ := Z.ox.cls
  have hcl : PySem.W.clsIn K C = some { name := nm, bases := bs, mro := .ref C :: bm, ns := N, qualname := q, hasDict := true, slotNames := sn, subclasses := sub, abstract := ab, collection := col, hasDel := false } := by unfold PySem.W.clsIn; rw [hC] <;> rfl
  have xs : x < h.objs.size := Heap.lt_size he
  refine ks_codeAny_call_defAt (fd := PySem.W.fnX name qual params (supB txt sf fl pr j p0 p1 p2 p3 p4 p5 p6 p7 p8 p9) scope [("__class__", cc)] .none kV doc pm an (.ref cda) ct) (body := supB txt sf fl pr j p0 p1 p2 p3 p4 p5 p6 p7 p8 p9) (binds := [(sf, .ref x), (pr, u)]) hr (kin _ _ lk) rfl nol (PySem.W.codeRec_of kin hcd) rfl (.of_eq (hb _ _ _ _ _ _ _ _ _)) S.ce ?_ (fun h₁ hns hk₁ => ?_) S.co S.ge S.kd
  · intro y hy
    simp only [List.mem_cons, List.not_mem_nil, or_false] at hy
    rcases hy with rfl | rfl
    · exact S.lsf
    · exact S.lpr
  have kin1 : K.In h₁ := kin.keeps hk₁
  have hx1 := hk₁ _ _ he
  have I1 : PySem.W.InstAt h₁ x (PySem.HandSPX.excO C t0) C none := ⟨hx1, rfl, rfl, trivial⟩
  have vsf : (fun y => List.lookup y [(sf, Value.ref x), (pr, u)].reverse) sf = some (.ref x) := by
    show List.lookup sf [(pr, u), (sf, Value.ref x)] = _
    simp only [List.lookup, S.ne]
    simp
  have vpr : (fun y => List.lookup y [(sf, Value.ref x), (pr, u)].reverse) pr = some u := by
    show List.lookup pr [(pr, u), (sf, Value.ref x)] = _
    simp [List.lookup]
  generalize hen : callEnv (PySem.W.fnX name qual params (supB txt sf fl pr j p0 p1 p2 p3 p4 p5 p6 p7 p8 p9) scope [("__class__", cc)] .none kV doc pm an (.ref cda) ct) (Shared.mk h g d t os).heap.objs.size fI = env
  have esc : env.scope = scope := by rw [← hen]; rfl
  have hint : interactive env = false := by unfold interactive; rw [esc, S.kd]; rfl
  have hev : eval (.Call (.Attribute (.Call (.Name "super" p0) [] [] p1) "__init__" p2) [.Constant (.str txt) j p3] [] p4) env = (do
      let ov ← attributeBase (.Call (.Name "super" p0) [] [] p1) "__init__" env (eval (.Call (.Name "super" p0) [] [] p1) env)
      standAt p2.atName
      let (f, first) ← holding [ov] (getMethod ov "__init__" (do return (← importBound (.Call (.Name "super" p0) [] [] p1) env).getD true))
      callWith p4 f first (backTo p4 (starEach [.Constant (.str txt) j p3] env)) []) := by
    show (do
      let ov ← attributeBase (.Call (.Name "super" p0) [] [] p1) "__init__" env (eval (.Call (.Name "super" p0) [] [] p1) env)
      standAt p2.atName
      methodCall (.Call (.Name "super" p0) [] [] p1) "__init__" p2 p4 env ov 1 (backTo p4 (starEach [.Constant (.str txt) j p3] env)) []) = _
    congr 1
    funext ov
    congr 1
    funext _
    unfold methodCall
    have hf : methodCallForm 1 (backTo p4 (starEach [.Constant (.str txt) j p3] env)) [] = true := by rfl
    rw [hf]
    unfold methodCallPos calleeOf
    rw [hl]
    rfl
  refine ks_wpAt_execs_cons (ks_wpAt_Expr_any (ks_wpAt_MethodCall ?_ hev) hint)
  refine ks_wpAt_super_base (f := fI) (cc := cda) (ar := a0) (by rw [← hen]; exact S.su) (by rw [← hen]; exact S.cl) (by decide) (by rw [← hen]; rfl) (kin1 _ _ lk) rfl hp (by rw [← hen]; rfl) (kin1 _ _ lcd) rfl hvs hfile Z.top ?_
  subst hen
  refine PySem.W.ks_loadName_global S.kd S.su (Calls.loadGlobal_builtin (mg := mg) (mb := mb) (gl.keeps hk₁) hsu (bl.keeps hk₁) ((bb _ (by decide)).trans PyProof.Rows.Boot.«super») ⟨rfl, ?_⟩)
  refine wpAny_loadName_free S.kd S.cl rfl ⟨_, kin1 _ _ lcc, rfl⟩ ?_
  rw [h0]
  refine wpAny_loadName_local S.kd S.lsf hns vsf ?_
  refine ks_wpAny_isType_cls (kin1 _ _ hC) rfl ⟨rfl, ?_⟩
  refine ks_wpAny_call_super (kin1 _ _ hC) rfl hx1 rfl (fun c e => by cases e) (PySem.W.looks_mroIn kin1 Z.mr) (fun h2 so2 k2 => ?_)
  have kin2 : K.In h2 := kin1.keeps k2
  have hx2 := k2 _ _ hx1
  have I2 : PySem.W.InstAt h2 x (PySem.HandSPX.excO C t0) C none := ⟨hx2, rfl, rfl, trivial⟩
  have hm := Z.su
  unfold PySem.W.ks_superIn at hm
  rw [hcl] at hm
  refine PySem.W.kxs_getMethod PySem.W.kxs_ValueError so2 (PySem.W.looks_opaque kin2 Z.st) (l₀ := .ref C :: bm) ?_ rfl kin2 hm (I2.type.andThen (PySem.W.looks_subIn kin2 Z.sb)) (PySem.W.ks_ne kin2 I2 hcl) (by decide) ?_
  · exact fun A Q E s k q => wpAny_bind ((PySem.W.looks_clsIn kin2 hcl) A _ E s k (wpAny_pure q))
  refine PySem.W.kxs_callWith (i := "ValueError.__init__") (x := x) rfl ?_
  refine Calls.evalArgs_plain ?_
  refine Calls.spliced_cons (Calls.Constant_str (k := j) (pos := p3) (Calls.spliced_nil ?_))
  have hu3 : (h2.push (PySem.W.kxs_mw "ValueError.__init__" x)).get? h2.objs.size = some (PySem.W.kxs_mw "ValueError.__init__" x) := Heap.get?_push_at rfl rfl
  have k3' : ∀ b o, h2.get? b = some o → (h2.push (PySem.W.kxs_mw "ValueError.__init__" x)).get? b = some o := fun b o e => Heap.get?_push_of_some _ e
  have hx3 := k3' _ _ hx2
  have kin3 := kin2.keeps k3'
  refine ⟨hu3, ?_⟩
  generalize hh3 : h2.push (PySem.W.kxs_mw "ValueError.__init__" x) = h3 at *
  refine wpAny_call (codeAny_of_tree ?_)
  show wpAny _ _ (callAny (.ref h2.objs.size) ⟨_, []⟩) _ _ _
  simp only [callAny]
  refine wpAny_bind (wpAny_load hu3 ?_)
  simp only [PySem.W.kxs_mw, show (Value.type "method-wrapper" == Value.type "method" || Value.type "method-wrapper" == Value.type "builtin_function_or_method" || Value.type "method-wrapper" == Value.type "method-wrapper") = true by decide, if_true]
  refine PySem.W.KFB.if_so (by decide) ?_
  refine wpAny_bind (PySem.W.check_bound_init PySem.F.excBase_ValueError.toExcCallFacts (kin3 _ _ hC) hx3 rfl ?_)
  refine wpAny_bind (wpAny_pure (wpAny_pure ?_))
  refine ⟨plainId_quiet PySem.F.excBase_ValueError.init.plain _, codeAny_builtin PySem.F.excBase_ValueError.initEntry ?_⟩
  refine PySem.W.exc_init_tree (cls := .ref C) (t0 := t0) (dv := none) (c2 := .none) (c3 := .none) (b4 := .bool false) hx3 (by show 1 ≤ sizeLine; rw [sizeLine_eq]; omega) fun h5 k5' hx5 _ => ?_
  have k35 : ∀ b o, b ≠ x → h.get? b = some o → h5.get? b = some o := fun b o hb e => k5' b o hb (k3' b o (k2 b o (hk₁ b o e)))
  have kin5 : K.In h5 := fun b o e => by
    exact k35 b o (fun z => by rw [z, hxK] at e; cases e) (kin b o e)
  have hL : h5.Ns h.objs.size (fun y => List.lookup y [(sf, Value.ref x), (pr, u)].reverse) := by
    obtain ⟨oL, es, ep, e1, r⟩ := hns
    exact ⟨oL, es, ep, k5' _ _ (Nat.ne_of_gt xs) (k3' _ _ (k2 _ _ e1)), r⟩
  refine ks_wpAt_execs_cons (ks_wpAt_Assign_Attr (wpAt_of_wpAny (wpAny_Name (wpAny_loadName_local S.kd S.lpr hL vpr ?_) S.d2)))
  refine wpAny_Name (wpAny_loadName_local S.kd S.lsf hL vsf ?_) S.d1
  refine PySem.W.set_plain kin5 (ox := PySem.W.excRec (.ref C) h3.objs.size none .none .none (.bool false)) (od := none) ⟨hx5, rfl, rfl, trivial⟩ Z.ox.sa ?_
  refine PySem.HandSPX.exc_osa kin5 hx5 hcl (show PySem.HandSPX.refsVE (.ref C :: bm) = true from hbm) rfl Z.no fun h6 tk6 dx k6 s6 ne6 hx6 hn6 => ?_
  refine wpAt_of_wpAny (wpAny_execs_nil ?_)
  exact hq h6 tk6 dx h3.objs.size (fun b o hb e => k6 b o hb (k35 b o hb e)) (Nat.le_trans (by obtain ⟨oL, es, ep, e1, r⟩ := hL; exact Nat.le_of_lt (Heap.lt_size e1)) s6) ne6 hx6 hn6
end
section
variable {X : Cx} {C fI : Addr} {fl sf pr txt name qual x : Str} {params : Arguments} {scope : Scope} {j k : Nat} {p0 p1 p2 p3 p4 p5 p6 p7 p8 p9 p pos : Pos} {a0 : Arg} {e : Expr} {te : TE}
theorem pmk_sup (Z : SupC X.prog X.K C fI fl name qual params (supB txt sf fl pr j p0 p1 p2 p3 p4 p5 p6 p7 p8 p9) scope) (S : SupS scope sf pr) (hp : (params.posonlyargs ++ params.args).head? = some a0) (hl : (p2.endLine == p4.line) = true) (h0 : a0.arg = sf)
    (hb : ∀ (kV doc pm : Value) (an : Option Addr) (cdv ct : Value) (cl : List (Str × Addr)) (v1 v2 : Value), bindArgs (PySem.W.fnX name qual params (supB txt sf fl pr j p0 p1 p2 p3 p4 p5 p6 p7 p8 p9) scope cl .none kV doc pm an cdv ct) ⟨[v1, v2], []⟩ = pure [(sf, v1), (pr, v2)])
    (hr : Room (k + 1) X.A) (hsu : X.mg "super" = none) (hg : Gl X x) (hm : X.mg x = some (.ref C)) (he : PE X e te) (hdb : (x == ("__debug__" : Str)) = false := by decide) (hst : starEach [e] X.env = [(false, eval e X.env)] := by rfl) :
    PMk X (.Call (.Name x p) [e] [] pos) (fun σ H Q => te σ H fun y H1 => ∀ d, H1 d = none → Q (.ref C) (some d) (upd H1 d (.xd [(fl, y)]))) := by
  intro pins s σ H Q I h
  obtain ⟨nm, q, N, bs, bm, sn, sub, ab, col, dd, k0, k1, k2, k3, k5, hC, hbm⟩ := Z.ox.cls
  refine wpAny_Call_Name_kw (ld_glob I hg hm ?_ hdb)
  have ha : PA X [e] (tCons te tNil) := pa_cons he pa_nil hst
  refine PySem.W.callWith_K (h₀ := X.base) I.ok.mod.kin Z.ox.kC (thn (ha.run pos pins s σ H (fun vs H1 => match vs with | [y] => ∀ d, H1 d = none → Q (.ref C) (some d) (upd H1 d (.xd [(fl, y)])) | _ => False) I h) fun us s1 ⟨vs, H1, I1, r1, q1⟩ => ⟨I1.kIn, ?_⟩) hst rfl
  cases r1 with
  | nil => exact q1.elim
  | @cons y u ys us' ru rn =>
  cases rn with
  | cons _ _ => exact q1.elim
  | nil =>
  show wpAny _ _ (call (.ref C) [u]) _ _ _
  obtain ⟨hp1, g, dr, tk, os⟩ := s1
  have hsz : hp1.objs.size ≤ hp1.objs.size + 1 := Nat.le_succ _
  have kk : ∀ b o, hp1.get? b = some o → ((hp1.push (PySem.W.kdv_tup [u])).push (PySem.HandSPX.excO C hp1.objs.size)).get? b = some o := fun b o e => Heap.get?_push_of_some _ (Heap.get?_push_of_some _ e)
  have hget : ((hp1.push (PySem.W.kdv_tup [u])).push (PySem.HandSPX.excO C hp1.objs.size)).get? (hp1.objs.size + 1) = some (PySem.HandSPX.excO C hp1.objs.size) := by heap_get
  have kin := I1.kIn
  have hxK : X.K.lookup (hp1.objs.size + 1) = none := by
    cases z : X.K.lookup (hp1.objs.size + 1) with
    | none => rfl
    | some o => exact absurd (Heap.lt_size (kin _ _ z)) (by show ¬ (hp1.objs.size + 1 < hp1.objs.size); omega)
  obtain ⟨mb, hb1, hb2⟩ := I1.mod.blt
  refine wpAny_call (PySem.HandSPX.call_own PySem.F.excBase_ValueError (fun Y => PySem.HandSPX.refsVE_contains Y bm hbm) (kin _ _ hC) (PySem.W.looks_findIn kin Z.iC) (fun self => PySem.W.bind_fn kin self Z.tI) (by show 1 ≤ sizeLine; rw [sizeLine_eq]; omega)
    (sup_run Z S hp hl h0 hb (kin.keeps kk) (hr.make C [u] []).depth (I1.nolimit.keeps kk) ((I1.mod.glob.keeps I1.bk).keeps kk) ((hb1.keeps I1.bk).keeps kk) hb2 hsu hget hxK fun h' tk' dx t1 k' sdx ndx hx' hn' => ⟨rfl, ?_⟩))
  obtain ⟨G, g1, g2⟩ := restrict h' fun b => decide (b ≠ hp1.objs.size + 1)
  have gk : ∀ b, b ≠ hp1.objs.size + 1 → G.get? b = h'.get? b := fun b hb => g1 b (decide_eq_true hb)
  have ge : G.get? (hp1.objs.size + 1) = none := g2 _ (by simp)
  have k6 : ∀ b o, hp1.get? b = some o → G.get? b = some o := fun b o z => by
    have hb : b ≠ hp1.objs.size + 1 := Nat.ne_of_lt (Nat.lt_of_lt_of_le (Heap.lt_size z) hsz)
    rw [gk b hb]
    exact k' b o hb (kk b o z)
  have s2 : ((hp1.push (PySem.W.kdv_tup [u])).push (PySem.HandSPX.excO C hp1.objs.size)).objs.size = hp1.objs.size + 2 := by simp [Heap.push]
  have sd : hp1.objs.size ≤ dx := by rw [s2] at sdx; omega
  have hd0 : H1 dx = none := I1.hok.fresh sd
  have J : Inv X pins σ (upd H1 dx (.xd [(fl, y)])) ⟨G, g, dr, tk', os⟩ := I1.laid (t' := tk') (a := dx) (o := .xd [(fl, y)]) (h' := G) k6 sd ⟨_, hn'.at fun o z => (gk dx ndx).trans z, relO_put (fs := []) ru fun g => True.intro⟩
  refine ⟨hp1.objs.size + 1, _, _, ⟨G, g, dr, tk', os⟩, _, .ref C, some dx, rfl, J, fun b o z => ?_, ge, hx', ⟨rfl, rfl⟩, rfl, rfl, ?_, rfl, I1.bare, raises_own Z.ox.exC Z.ox.tyC, q1 dx hd0⟩
  · by_cases hba : b = hp1.objs.size + 1
    · rw [hba, ge] at z; cases z
    · rw [gk b hba] at z; exact z
  · rw [upd_ne (Ne.symm ndx)]
    exact I1.hok.fresh hsz
end
end RM

namespace RM
open PySem PySem.Spec PyProof.Rows L2
variable [PgW]
@[simp] theorem tst_pure (b : Bool) : tst (pure (.bl b)) = pure b := Eq.trans rfl rfl
@[simp] theorem tNot_pure (b : Bool) : tNot (pure b) = pure (!b) := Eq.trans rfl rfl
@[simp] theorem tAnd_pure (b : Bool) (n : M Bool) : tAnd (pure b) n = if b then n else pure false := Eq.trans rfl rfl
@[simp] theorem tOr_pure (b : Bool) (n : M Bool) : tOr (pure b) n = if b then pure true else n := Eq.trans rfl rfl
@[simp] theorem eAnd_pure (b : Bool) (n : M D) : eAnd (pure (.bl b)) n = if b then n else pure (.bl false) := Eq.trans rfl rfl
@[simp] theorem eOr_pure (b : Bool) (n : M D) : eOr (pure (.bl b)) n = if b then pure (.bl true) else n := Eq.trans rfl rfl
@[simp] theorem eNot_pure (b : Bool) : eNot (pure (.bl b)) = pure (.bl (!b)) := Eq.trans rfl rfl
@[simp] theorem ifM_pure {α : Type} (b : Bool) (x y : M α) : ifM (pure b) x y = if b then x else y := Eq.trans rfl rfl
@[simp] theorem noE_pure {α : Type} (x : α) : noE (pure x : M α) = pure x := Eq.trans rfl rfl
@[simp] theorem noE_stuck {α : Type} : noE (stuck : M α) = stuck := Eq.trans rfl rfl
@[simp] theorem asB_bl' (b : Bool) : asB (.bl b) = pure b := Eq.trans rfl rfl
@[simp] theorem lendX_pure (d : D) : lendX (pure d) = if noLst d then pure d else stuck := Eq.trans rfl rfl
@[simp] theorem orRet_inl {α τ : Type} (r : D → α) (k : τ → M α) (d : D) : orRet r k (.inl d) = pure (r d) := Eq.trans rfl rfl
@[simp] theorem orRet_inr {α τ : Type} (r : D → α) (k : τ → M α) (x : τ) : orRet r k (.inr x) = k x := Eq.trans rfl rfl
@[simp] theorem loopN_nil {τ : Type} (f : D → τ → M τ) (x : τ) : loopN f [] x = pure x := Eq.trans rfl rfl
@[simp] theorem loopN_cons {τ : Type} (f : D → τ → M τ) (d : D) (ds : List D) (x : τ) : loopN f (d :: ds) x = B (f d x) fun y => loopN f ds y := Eq.trans rfl rfl
@[simp] theorem loopS_nil {τ : Type} (f : D → τ → M (D ⊕ τ)) (x : τ) : loopS f [] x = pure (.inr x) := Eq.trans rfl rfl
theorem idxT {xs : List D} {n : Nat} {d : D} (h : xs[n]? = some d) : idxD (.tup xs) (.int n) = pure d ∧ idxD (.lst xs) (.int n) = pure d := by
  have hl : n < xs.length := (List.getElem?_eq_some_iff.mp h).1
  obtain ⟨x, _, hx, ha⟩ := atI_in (xs := xs) (i := n) (by omega) (by omega)
  rw [Int.toNat_natCast] at hx
  rw [h] at hx
  cases hx
  exact ⟨by unfold idxD; dsimp only; rw [ha], by unfold idxD; dsimp only; rw [ha]⟩
@[simp] theorem isNon_non : isNonD .non .non = pure (.bl true) := Eq.trans rfl rfl
@[simp] theorem isNon_bl (b : Bool) : isNonD (.bl b) .non = pure (.bl false) := Eq.trans rfl rfl
@[simp] theorem isNon_int (i : Int) : isNonD (.int i) .non = pure (.bl false) := Eq.trans rfl rfl
@[simp] theorem isNon_str (x : Str) : isNonD (.str x) .non = pure (.bl false) := Eq.trans rfl rfl
@[simp] theorem isNon_tup (x : List D) : isNonD (.tup x) .non = pure (.bl false) := Eq.trans rfl rfl
@[simp] theorem isNon_lst (x : List D) : isNonD (.lst x) .non = pure (.bl false) := Eq.trans rfl rfl
@[simp] theorem isNon_dic (k : List Key) (x : List D) : isNonD (.dic k x) .non = pure (.bl false) := Eq.trans rfl rfl
@[simp] theorem isNon_ins (c : Str) (k : List Str) (x : List D) : isNonD (.ins c k x) .non = pure (.bl false) := Eq.trans rfl rfl
@[simp] theorem notNon_non : notNonD .non .non = pure (.bl false) := Eq.trans rfl rfl
@[simp] theorem notNon_bl (b : Bool) : notNonD (.bl b) .non = pure (.bl true) := Eq.trans rfl rfl
@[simp] theorem notNon_int (i : Int) : notNonD (.int i) .non = pure (.bl true) := Eq.trans rfl rfl
@[simp] theorem notNon_str (x : Str) : notNonD (.str x) .non = pure (.bl true) := Eq.trans rfl rfl
@[simp] theorem notNon_tup (x : List D) : notNonD (.tup x) .non = pure (.bl true) := Eq.trans rfl rfl
@[simp] theorem notNon_lst (x : List D) : notNonD (.lst x) .non = pure (.bl true) := Eq.trans rfl rfl
@[simp] theorem notNon_dic (k : List Key) (x : List D) : notNonD (.dic k x) .non = pure (.bl true) := Eq.trans rfl rfl
@[simp] theorem notNon_ins (c : Str) (k : List Str) (x : List D) : notNonD (.ins c k x) .non = pure (.bl true) := Eq.trans rfl rfl
@[simp] theorem idx_tup0 (a : D) (xs : List D) : idxD (.tup (a :: xs)) (.int 0) = pure a := (idxT (n := 0) rfl).1
@[simp] theorem idx_tup1 (a b : D) (xs : List D) : idxD (.tup (a :: b :: xs)) (.int 1) = pure b := (idxT (n := 1) rfl).1
@[simp] theorem idx_tup2 (a b c : D) (xs : List D) : idxD (.tup (a :: b :: c :: xs)) (.int 2) = pure c := (idxT (n := 2) rfl).1
@[simp] theorem idx_tup3 (a b c d : D) (xs : List D) : idxD (.tup (a :: b :: c :: d :: xs)) (.int 3) = pure d := (idxT (n := 3) rfl).1
@[simp] theorem idx_lst0 (a : D) (xs : List D) : idxD (.lst (a :: xs)) (.int 0) = pure a := (idxT (n := 0) rfl).2
@[simp] theorem idx_lst1 (a b : D) (xs : List D) : idxD (.lst (a :: b :: xs)) (.int 1) = pure b := (idxT (n := 1) rfl).2
@[simp] theorem idx_lst2 (a b c : D) (xs : List D) : idxD (.lst (a :: b :: c :: xs)) (.int 2) = pure c := (idxT (n := 2) rfl).2
@[simp] theorem idx_lst3 (a b c d : D) (xs : List D) : idxD (.lst (a :: b :: c :: d :: xs)) (.int 3) = pure d := (idxT (n := 3) rfl).2
@[simp] theorem lstD_eq (xs : List D) : lstD xs = if xs.length ≤ sizeLine then pure (.lst xs) else stuck := Eq.trans rfl rfl
@[simp] theorem tupD_eq (xs : List D) : tupD xs = if xs.length ≤ sizeLine then pure (.tup xs) else stuck := Eq.trans rfl rfl
@[simp] theorem sizeL_eq (xs : List D) : sizeL xs = if xs.length ≤ sizeLine then pure xs else stuck := Eq.trans rfl rfl
@[simp] theorem addD_lst_eq (xs ys : List D) : addD (.lst xs) (.lst ys) = if xs.length + ys.length ≤ sizeLine then pure (.lst (xs ++ ys)) else stuck := Eq.trans rfl rfl
@[simp] theorem addD_str_eq (xs ys : Str) : addD (.str xs) (.str ys) = if xs.length + ys.length ≤ sizeLine then pure (.str (xs ++ ys)) else stuck := Eq.trans rfl rfl
@[simp] theorem lenD_str_eq (x : Str) : lenD [.str x] = if x.length ≤ sizeLine then pure (.int x.length) else stuck := Eq.trans rfl rfl
@[simp] theorem appO_eq (xs : List D) (y : D) : appO xs y = if xs.length < sizeLine then pure (xs ++ [y]) else stuck := Eq.trans rfl rfl
@[simp] theorem listF_lst (xs : List D) : listF (.lst xs) = pure xs := Eq.trans rfl rfl
@[simp] theorem listF_tup (xs : List D) : listF (.tup xs) = pure xs := Eq.trans rfl rfl
@[simp] theorem tupleD_lst (xs : List D) : tupleD [.lst xs] = pure (.tup xs) := Eq.trans rfl rfl
@[simp] theorem tupleD_tup (xs : List D) : tupleD [.tup xs] = pure (.tup xs) := Eq.trans rfl rfl
@[simp] theorem listD_lst (xs : List D) : listD [.lst xs] = pure (.lst xs) := Eq.trans rfl rfl
@[simp] theorem listD_tup (xs : List D) : listD [.tup xs] = pure (.lst xs) := Eq.trans rfl rfl
@[simp] theorem minD_2 (i j : Int) : minD [.int i, .int j] = pure (.int (if j < i then j else i)) := Eq.trans rfl rfl
@[simp] theorem maxD_2 (i j : Int) : maxD [.int i, .int j] = pure (.int (if j > i then j else i)) := Eq.trans rfl rfl
@[simp] theorem addD_tup (xs ys : List D) : addD (.tup xs) (.tup ys) = if xs.length + ys.length ≤ sizeLine then pure (.tup (xs ++ ys)) else stuck := Eq.trans rfl rfl
@[simp] theorem sliceD_lst (xs : List D) (lo hi : Option Int) : sliceD (.lst xs) lo hi = pure (.lst (cutL xs lo hi)) := Eq.trans rfl rfl
@[simp] theorem sliceD_tup (xs : List D) (lo hi : Option Int) : sliceD (.tup xs) lo hi = pure (.tup (cutL xs lo hi)) := Eq.trans rfl rfl
@[simp] theorem powD_109 : powD (.int 10) (.int 9) = pure (.int 1000000000) := Eq.trans rfl rfl
@[simp] theorem powD_1012 : powD (.int 10) (.int 12) = pure (.int 1000000000000) := Eq.trans rfl rfl
@[simp] theorem neD_lst_nil : neD (.lst []) (.lst []) = pure (.bl false) := Eq.trans rfl rfl
@[simp] theorem B_Bs {α β γ : Type} (m : M α) (f : α → M β) (g : β → M γ) (d : Dep f) (e : Dep g) : B (B m f d) g e = B m (fun x => B (f x) g e) := B_B m f g d e
@[simp] theorem tst_B {α : Type} (m : M α) (f : α → M D) (d : Dep f) : tst (B m f d) = B m (fun x => tst (f x)) := B_B ..
@[simp] theorem tNot_B {α : Type} (m : M α) (f : α → M Bool) (d : Dep f) : tNot (B m f d) = B m (fun x => tNot (f x)) := B_B ..
@[simp] theorem tAnd_B {α : Type} (m : M α) (f : α → M Bool) (n : M Bool) (d : Dep f) : tAnd (B m f d) n = B m (fun x => tAnd (f x) n) := B_B ..
@[simp] theorem tOr_B {α : Type} (m : M α) (f : α → M Bool) (n : M Bool) (d : Dep f) : tOr (B m f d) n = B m (fun x => tOr (f x) n) := B_B ..
@[simp] theorem eAnd_B {α : Type} (m : M α) (f : α → M D) (n : M D) (d : Dep f) : eAnd (B m f d) n = B m (fun x => eAnd (f x) n) := B_B ..
@[simp] theorem eOr_B {α : Type} (m : M α) (f : α → M D) (n : M D) (d : Dep f) : eOr (B m f d) n = B m (fun x => eOr (f x) n) := B_B ..
@[simp] theorem eNot_B {α : Type} (m : M α) (f : α → M D) (d : Dep f) : eNot (B m f d) = B m (fun x => eNot (f x)) := B_B ..
@[simp] theorem ifM_B {α β : Type} (m : M α) (f : α → M Bool) (x y : M β) (d : Dep f) : ifM (B m f d) x y = B m (fun z => ifM (f z) x y) := B_B ..
@[simp] theorem noE_B {α β : Type} (m : M α) (f : α → M β) (d : Dep f) : noE (B m f d) = B (noE m) (fun x => noE (f x)) := by
  funext S
  show (match (m S).andThen f with | .exc _ _ => Res.stuck | r => r) = (match m S with | .exc _ _ => Res.stuck | r => r).andThen fun x => noE (f x)
  cases m S <;> rfl
@[simp] theorem lendX_B {α : Type} (m : M α) (f : α → M D) (d : Dep f) : lendX (B m f d) = B (noE m) (fun x => lendX (f x)) := by
  unfold lendX
  rw [noE_B, B_B]
@[simp] theorem joinX_pure (s : Str) (m : M D) : joinX (pure (.str s)) m = B m fun y => joinD (.str s) y := Eq.trans rfl rfl
@[simp] theorem chainM_pure (f f' : D → D → M D) (x : D) (mb mc : M D) : chainM f f' (pure x) mb mc = B mb fun y => B (f x y) fun z => B (asB z) fun t => if t then B mc fun w => f' y w else pure (.bl false) := Eq.trans rfl rfl
@[simp] theorem tst_ite (c : Prop) [Decidable c] (a b : M D) : tst (if c then a else b) = if c then tst a else tst b := by split <;> rfl
@[simp] theorem B_ite {α β : Type} (c : Prop) [Decidable c] (a b : M α) (f : α → M β) (d : Dep f) : B (if c then a else b) f d = if c then B a f d else B b f d := by split <;> rfl
@[simp] theorem isi_int_non (cs : List Str) : isiD cs [.b "int"] .non = pure (.bl false) := Eq.trans rfl rfl
@[simp] theorem isi_int_bl (cs : List Str) (b : Bool) : isiD cs [.b "int"] (.bl b) = pure (.bl true) := Eq.trans rfl rfl
@[simp] theorem isi_int_int (cs : List Str) (i : Int) : isiD cs [.b "int"] (.int i) = pure (.bl true) := Eq.trans rfl rfl
@[simp] theorem isi_int_str (cs : List Str) (x : Str) : isiD cs [.b "int"] (.str x) = pure (.bl false) := Eq.trans rfl rfl
@[simp] theorem isi_int_tup (cs : List Str) (xs : List D) : isiD cs [.b "int"] (.tup xs) = pure (.bl false) := Eq.trans rfl rfl
@[simp] theorem isi_int_lst (cs : List Str) (xs : List D) : isiD cs [.b "int"] (.lst xs) = pure (.bl false) := Eq.trans rfl rfl
@[simp] theorem isi_int_dic (cs : List Str) (ks : List Key) (vs : List D) : isiD cs [.b "int"] (.dic ks vs) = pure (.bl false) := Eq.trans rfl rfl
@[simp] theorem isi_bool_non (cs : List Str) : isiD cs [.b "bool"] .non = pure (.bl false) := Eq.trans rfl rfl
@[simp] theorem isi_bool_bl (cs : List Str) (b : Bool) : isiD cs [.b "bool"] (.bl b) = pure (.bl true) := Eq.trans rfl rfl
@[simp] theorem isi_bool_int (cs : List Str) (i : Int) : isiD cs [.b "bool"] (.int i) = pure (.bl false) := Eq.trans rfl rfl
@[simp] theorem isi_bool_str (cs : List Str) (x : Str) : isiD cs [.b "bool"] (.str x) = pure (.bl false) := Eq.trans rfl rfl
@[simp] theorem isi_bool_tup (cs : List Str) (xs : List D) : isiD cs [.b "bool"] (.tup xs) = pure (.bl false) := Eq.trans rfl rfl
@[simp] theorem isi_bool_lst (cs : List Str) (xs : List D) : isiD cs [.b "bool"] (.lst xs) = pure (.bl false) := Eq.trans rfl rfl
@[simp] theorem isi_bool_dic (cs : List Str) (ks : List Key) (vs : List D) : isiD cs [.b "bool"] (.dic ks vs) = pure (.bl false) := Eq.trans rfl rfl
@[simp] theorem isi_str_non (cs : List Str) : isiD cs [.b "str"] .non = pure (.bl false) := Eq.trans rfl rfl
@[simp] theorem isi_str_bl (cs : List Str) (b : Bool) : isiD cs [.b "str"] (.bl b) = pure (.bl false) := Eq.trans rfl rfl
@[simp] theorem isi_str_int (cs : List Str) (i : Int) : isiD cs [.b "str"] (.int i) = pure (.bl false) := Eq.trans rfl rfl
@[simp] theorem isi_str_str (cs : List Str) (x : Str) : isiD cs [.b "str"] (.str x) = pure (.bl true) := Eq.trans rfl rfl
@[simp] theorem isi_str_tup (cs : List Str) (xs : List D) : isiD cs [.b "str"] (.tup xs) = pure (.bl false) := Eq.trans rfl rfl
@[simp] theorem isi_str_lst (cs : List Str) (xs : List D) : isiD cs [.b "str"] (.lst xs) = pure (.bl false) := Eq.trans rfl rfl
@[simp] theorem isi_str_dic (cs : List Str) (ks : List Key) (vs : List D) : isiD cs [.b "str"] (.dic ks vs) = pure (.bl false) := Eq.trans rfl rfl
@[simp] theorem isi_tuple_non (cs : List Str) : isiD cs [.b "tuple"] .non = pure (.bl false) := Eq.trans rfl rfl
@[simp] theorem isi_tuple_bl (cs : List Str) (b : Bool) : isiD cs [.b "tuple"] (.bl b) = pure (.bl false) := Eq.trans rfl rfl
@[simp] theorem isi_tuple_int (cs : List Str) (i : Int) : isiD cs [.b "tuple"] (.int i) = pure (.bl false) := Eq.trans rfl rfl
@[simp] theorem isi_tuple_str (cs : List Str) (x : Str) : isiD cs [.b "tuple"] (.str x) = pure (.bl false) := Eq.trans rfl rfl
@[simp] theorem isi_tuple_tup (cs : List Str) (xs : List D) : isiD cs [.b "tuple"] (.tup xs) = pure (.bl true) := Eq.trans rfl rfl
@[simp] theorem isi_tuple_lst (cs : List Str) (xs : List D) : isiD cs [.b "tuple"] (.lst xs) = pure (.bl false) := Eq.trans rfl rfl
@[simp] theorem isi_tuple_dic (cs : List Str) (ks : List Key) (vs : List D) : isiD cs [.b "tuple"] (.dic ks vs) = pure (.bl false) := Eq.trans rfl rfl
@[simp] theorem isi_list_non (cs : List Str) : isiD cs [.b "list"] .non = pure (.bl false) := Eq.trans rfl rfl
@[simp] theorem isi_list_bl (cs : List Str) (b : Bool) : isiD cs [.b "list"] (.bl b) = pure (.bl false) := Eq.trans rfl rfl
@[simp] theorem isi_list_int (cs : List Str) (i : Int) : isiD cs [.b "list"] (.int i) = pure (.bl false) := Eq.trans rfl rfl
@[simp] theorem isi_list_str (cs : List Str) (x : Str) : isiD cs [.b "list"] (.str x) = pure (.bl false) := Eq.trans rfl rfl
@[simp] theorem isi_list_tup (cs : List Str) (xs : List D) : isiD cs [.b "list"] (.tup xs) = pure (.bl false) := Eq.trans rfl rfl
@[simp] theorem isi_list_lst (cs : List Str) (xs : List D) : isiD cs [.b "list"] (.lst xs) = pure (.bl true) := Eq.trans rfl rfl
@[simp] theorem isi_list_dic (cs : List Str) (ks : List Key) (vs : List D) : isiD cs [.b "list"] (.dic ks vs) = pure (.bl false) := Eq.trans rfl rfl
@[simp] theorem isi_dict_non (cs : List Str) : isiD cs [.b "dict"] .non = pure (.bl false) := Eq.trans rfl rfl
@[simp] theorem isi_dict_bl (cs : List Str) (b : Bool) : isiD cs [.b "dict"] (.bl b) = pure (.bl false) := Eq.trans rfl rfl
@[simp] theorem isi_dict_int (cs : List Str) (i : Int) : isiD cs [.b "dict"] (.int i) = pure (.bl false) := Eq.trans rfl rfl
@[simp] theorem isi_dict_str (cs : List Str) (x : Str) : isiD cs [.b "dict"] (.str x) = pure (.bl false) := Eq.trans rfl rfl
@[simp] theorem isi_dict_tup (cs : List Str) (xs : List D) : isiD cs [.b "dict"] (.tup xs) = pure (.bl false) := Eq.trans rfl rfl
@[simp] theorem isi_dict_lst (cs : List Str) (xs : List D) : isiD cs [.b "dict"] (.lst xs) = pure (.bl false) := Eq.trans rfl rfl
@[simp] theorem isi_dict_dic (cs : List Str) (ks : List Key) (vs : List D) : isiD cs [.b "dict"] (.dic ks vs) = pure (.bl true) := Eq.trans rfl rfl
@[simp] theorem isi_lt_non (cs : List Str) : isiD cs [.b "list", .b "tuple"] .non = pure (.bl false) := Eq.trans rfl rfl
@[simp] theorem isi_lt_bl (cs : List Str) (b : Bool) : isiD cs [.b "list", .b "tuple"] (.bl b) = pure (.bl false) := Eq.trans rfl rfl
@[simp] theorem isi_lt_int (cs : List Str) (i : Int) : isiD cs [.b "list", .b "tuple"] (.int i) = pure (.bl false) := Eq.trans rfl rfl
@[simp] theorem isi_lt_str (cs : List Str) (x : Str) : isiD cs [.b "list", .b "tuple"] (.str x) = pure (.bl false) := Eq.trans rfl rfl
@[simp] theorem isi_lt_tup (cs : List Str) (xs : List D) : isiD cs [.b "list", .b "tuple"] (.tup xs) = pure (.bl true) := Eq.trans rfl rfl
@[simp] theorem isi_lt_lst (cs : List Str) (xs : List D) : isiD cs [.b "list", .b "tuple"] (.lst xs) = pure (.bl true) := Eq.trans rfl rfl
@[simp] theorem isi_lt_dic (cs : List Str) (ks : List Key) (vs : List D) : isiD cs [.b "list", .b "tuple"] (.dic ks vs) = pure (.bl false) := Eq.trans rfl rfl
section
variable [Pre]
theorem HT.B {α β : Type} {n k : Nat} {m : M α} {f : α → M β} {P : α → Prop} {Q : β → Prop} (h : HT n m P) (hf : ∀ a, P a → HT k (f a) Q) : HT (n + k) (RM.B m f) Q := HT.bind h hf
theorem HT.C {α β : Type} {n k : Nat} {m : M α} {f : α → M β} {P : α → Prop} {Q : β → Prop} (h : HT n m P) (hf : ∀ a, P a → HT k (f a) Q) : HT (k + n) (RM.B m f) Q := by rw [Nat.add_comm]; exact HT.bind h hf
theorem HT.p0 {α : Type} {P : α → Prop} {x : α} (h : P x) (n : Nat := 0) : HT n (Pure.pure x : M α) P := HT.mono (HT.pure h) (Nat.zero_le _) fun _ h => h
theorem HT.e0 {α : Type} {x : α} {n : Nat} : HT n (Pure.pure x : M α) fun r => r = x := HT.p0 (P := fun r => r = x) rfl n
theorem HT.le {α : Type} {n k : Nat} {m : M α} {P : α → Prop} (h : HT n m P) (hn : n ≤ k) : HT k m P := HT.mono h hn fun _ h => h
theorem HT.imp {α : Type} {n : Nat} {m : M α} {P Q : α → Prop} (h : HT n m P) (hp : ∀ a, P a → Q a) : HT n m Q := HT.mono h (Nat.le_refl _) hp
theorem HT.drawI {n : Int} (hn : 0 < n) (hl : n < 18446744073709551616 := by omega) : HT 1 (drawM [.mref Pre.ix, .int n]) fun d => ∃ k, d = .int k ∧ 0 ≤ k ∧ k < n := drawM_ok hn (by
  have h2 : n.natAbs ≠ 0 := by omega
  have := (Nat.log2_lt h2 (k := 64)).mpr (by omega)
  omega)
theorem HT.draw {β : Type} {n : Int} {k : Nat} {f : D → M β} {Q : β → Prop} (hn : 0 < n) (hf : ∀ i, 0 ≤ i → i < n → HT k (f (.int i)) Q) (hl : n < 18446744073709551616 := by omega) : HT (k + 1) (RM.B (drawM [.mref Pre.ix, .int n]) f) Q := HT.C (HT.drawI hn hl) (by rintro _ ⟨i, rfl, h0, h1⟩; exact hf i h0 h1)
theorem ht_loopS {τ : Type} {f : D → τ → M (D ⊕ τ)} {n : Nat} {J : τ → Prop} : ∀ (ds : List D) (x : τ), J x → (∀ d ∈ ds, ∀ x, J x → HT n (f d x) fun r => ∃ y, r = .inr y ∧ J y) → HT (ds.length * n) (loopS f ds x) fun r => ∃ y, r = .inr y ∧ J y
  | [], x, h, _ => HT.p0 ⟨x, rfl, h⟩ _
  | d :: ds, x, h, hf => by
    have sz : (d :: ds).length * n = n + ds.length * n := by rw [List.length_cons, Nat.add_mul, Nat.one_mul, Nat.add_comm]
    rw [sz]
    show HT _ (RM.B (f d x) _) _
    refine HT.B (hf d (List.mem_cons_self ..) x h) ?_
    rintro r ⟨y, rfl, hy⟩
    exact ht_loopS ds y hy fun z hz => hf z (List.mem_cons_of_mem _ hz)
theorem ht_loopU {f : D → Unit → M (D ⊕ Unit)} {n : Nat} {ds : List D} (hf : ∀ d ∈ ds, HT n (f d ()) fun r => r = .inr ()) : HT (ds.length * n) (loopS f ds ()) fun r => r = .inr () := by
  refine HT.imp (ht_loopS (J := fun _ => True) ds () trivial fun d hd x _ => HT.imp (hf d hd) fun r e => ⟨(), e, trivial⟩) ?_
  rintro r ⟨y, rfl, _⟩
  rfl
end
theorem rangeD_one {j : Int} (h0 : 0 ≤ j) (h1 : j < 1000000) : rangeD [.int j] = pure (rangeL 0 j) := if_pos ⟨by omega, by omega⟩
theorem rangeL_length (i j : Int) : (rangeL i j).length = (j - i).toNat := by unfold rangeL; simp
theorem idx_at {xs : List D} {i : Int} (h0 : 0 ≤ i) (h1 : i < xs.length) : ∃ d, d ∈ xs ∧ xs[i.toNat]? = some d ∧ idxD (.lst xs) (.int i) = pure d ∧ idxD (.tup xs) (.int i) = pure d := by
  obtain ⟨d, hm, hg, ha⟩ := atI_in h0 h1
  exact ⟨d, hm, hg, by unfold idxD; dsimp only; rw [ha], by unfold idxD; dsimp only; rw [ha]⟩
theorem good_begun (ns : List Int) (h : ns.length ≤ 63) : Good (begun ns) := by
  have ab : ∀ z : Int, 0 ≤ absI z := fun z => by unfold absI; split <;> omega
  refine ⟨fun z hz => ?_, fun z hz => ?_, Int.le_refl 0, Int.le_refl 0, ?_⟩
  · obtain ⟨c, hc, rfl⟩ := List.mem_map.mp hz
    have := of_decide_eq_true (List.mem_filter.mp hc).2
    omega
  · obtain ⟨c, _, rfl⟩ := List.mem_map.mp hz
    exact ab c
  · show (List.map _ (List.filter _ (List.map absI ns))).length ≤ 1000
    rw [List.length_map]
    have h1 := List.length_filter_le (fun c => decide (10 ^ 18 ≤ c)) (ns.map absI)
    rw [List.length_map] at h1
    omega
theorem begun_run [Pre] (ns : List Int) (h : ns.length ≤ 63) : begunD [.scr ns] Pre.pre = .ok (.mref Pre.ix) (onT (begun ns)) := by
  show (if ns.length ≤ 1000 then Res.ok (D.mref Pre.pre.length) (Pre.pre ++ [.tape (begun ns)]) else .stuck) = _
  rw [if_pos (by omega), Pre.hx]
theorem law_run [Pre] {ns : List Int} (h : ns.length ≤ 63) {k : D → M D} {n : Nat} (hn : n ≤ 1000000000000) (hk : HT n (k (.mref Pre.ix)) fun d => d = .bl true) : ∃ S', (B (begunD [.scr ns]) k) Pre.pre = .ok (.bl true) S' := by
  obtain ⟨a, t', e, _, _, rfl⟩ := hk (begun ns) (good_begun ns h) (by show (0 : Int) + _ ≤ _; omega)
  refine ⟨onT t', ?_⟩
  show (begunD [.scr ns] Pre.pre).andThen k = _
  rw [begun_run ns h]
  exact e
@[simp] theorem putX4_0 (a b c d y : D) : putX [a, b, c, d] y (.int 0) = pure [y, b, c, d] := Eq.trans rfl rfl
@[simp] theorem putX4_1 (a b c d y : D) : putX [a, b, c, d] y (.int 1) = pure [a, y, c, d] := Eq.trans rfl rfl
@[simp] theorem putX4_2 (a b c d y : D) : putX [a, b, c, d] y (.int 2) = pure [a, b, y, d] := Eq.trans rfl rfl
@[simp] theorem putX4_3 (a b c d y : D) : putX [a, b, c, d] y (.int 3) = pure [a, b, c, y] := Eq.trans rfl rfl
@[simp] theorem sizeLine_v : sizeLine = 16777216 := PySem.sizeLine_eq
end RM

namespace RM
open PySem PySem.Spec PyProof.Rows L2
variable [PgW]
mutual
def wt : PyData → Nat
  | .list xs => wts xs + 2
  | .tuple xs => wts xs + 3
  | .none => 4
  | .bool _ => 5
  | .int i => (PyData.shown (.int i)).length
  | .str x => (PyData.shown (.str x)).length
  | .dict kvs => (PyData.shown (.dict kvs)).length
def wts : List PyData → Nat
  | [] => 0
  | x :: xs => wt x + 2 + wts xs
end
def lens (ts : List Str) : Nat := (ts.map fun t => t.length + 2).sum
theorem textFrom_le : ∀ (ts : List Str) (k : Nat) (acc : Str), (textFrom k acc ts).length ≤ acc.length + lens ts
  | [], k, acc => by show acc.length ≤ acc.length + _; omega
  | t :: ts, k, acc => by
    have ih := textFrom_le ts (k + 1) (acc ++ (if k > 0 then ", " else "" : String) ++ t)
    have e : (acc ++ (if k > 0 then ", " else "" : String) ++ t).length ≤ acc.length + 2 + t.length := by
      rw [strLen_append, strLen_append]
      have : (Str.ofString (if k > 0 then ", " else "" : String)).length ≤ 2 := by split <;> decide
      omega
    show (textFrom (k + 1) (acc ++ (if k > 0 then ", " else "" : String) ++ t) ts).length ≤ _
    unfold lens at ih ⊢
    rw [List.map_cons, List.sum_cons]
    omega
theorem join_le : ∀ ts : List Str, (Str.join ", " ts).length ≤ lens ts
  | [] => Nat.zero_le _
  | [x] => by show x.length ≤ _; unfold lens; simp
  | x :: y :: r => by
    have ih := join_le (y :: r)
    show (x ++ ", " ++ Str.join ", " (y :: r)).length ≤ _
    rw [strLen_append, strLen_append]
    have : ((", " : String) : Str).length = 2 := rfl
    unfold lens at ih ⊢
    rw [List.map_cons, List.sum_cons]
    omega
mutual
theorem shown_le : ∀ x : PyData, (PyData.shown x).length ≤ wt x
  | .none => by decide +kernel
  | .bool true => by decide +kernel
  | .bool false => by decide +kernel
  | .int i => Nat.le_refl _
  | .str x => Nat.le_refl _
  | .dict kvs => Nat.le_refl _
  | .list xs => by
    have ih := shownAll_le xs
    show (listText (PyData.shownAll xs)).length ≤ wts xs + 2
    unfold listText
    rw [strLen_append]
    have := textFrom_le (PyData.shownAll xs) 0 "["
    have e1 : (("[" : String) : Str).length = 1 := rfl
    have e2 : (("]" : String) : Str).length = 1 := rfl
    omega
  | .tuple xs => by
    have ih := shownAll_le xs
    show (tupleText (PyData.shownAll xs)).length ≤ wts xs + 3
    unfold tupleText
    rw [strLen_append, strLen_append]
    have := join_le (PyData.shownAll xs)
    have e1 : (("(" : String) : Str).length = 1 := rfl
    have e2 : (Str.ofString (if (PyData.shownAll xs).length == 1 then ",)" else ")" : String)).length ≤ 2 := by split <;> decide
    omega
theorem shownAll_le : ∀ xs : List PyData, lens (PyData.shownAll xs) ≤ wts xs
  | [] => Nat.le_refl _
  | x :: xs => by
    have h1 := shown_le x
    have h2 := shownAll_le xs
    show lens (PyData.shown x :: PyData.shownAll xs) ≤ wt x + 2 + wts xs
    unfold lens at h2 ⊢
    rw [List.map_cons, List.sum_cons]
    omega
end
end RM

namespace RM
open PySem PySem.Spec PyProof.Rows L2
variable [PgW]
mutual
def rp : PyData → Bool
  | .none => true
  | .bool _ => true
  | .int i => decide (i.natAbs < 10 ^ 12)
  | .str x => PyData.canLay0 (.str x)
  | .list xs => rps xs
  | .tuple xs => rps xs
  | .dict _ => false
def rps : List PyData → Bool
  | [] => true
  | x :: xs => rp x && rps xs
end
theorem show_small {i : Int} (h : i.natAbs < 10 ^ 12) : PyData.showable (.int i) = true := by
  show decide (i.natAbs.log2 < 1920) = true
  refine decide_eq_true ?_
  by_cases z : i.natAbs = 0
  · rw [z]; decide
  · exact (Nat.log2_lt z).mpr (Nat.lt_trans h (by decide +kernel))
mutual
theorem rp_ok : ∀ x : PyData, rp x = true → x.canLay0 = true ∧ x.intsShort 13 = true ∧ x.showable = true
  | .none, _ => ⟨rfl, rfl, rfl⟩
  | .bool _, _ => ⟨rfl, rfl, rfl⟩
  | .int i, h => by
    have h : i.natAbs < 10 ^ 12 := of_decide_eq_true h
    exact ⟨rfl, decide_eq_true (PyData.shown_int_le h), show_small h⟩
  | .str x, h => ⟨h, rfl, rfl⟩
  | .list xs, h => rps_ok xs h
  | .tuple xs, h => rps_ok xs h
  | .dict _, h => by cases h
theorem rps_ok : ∀ xs : List PyData, rps xs = true → PyData.canLayAll0 xs = true ∧ PyData.intsShortAll 13 xs = true ∧ PyData.showableAll xs = true
  | [], _ => ⟨rfl, rfl, rfl⟩
  | x :: xs, h => by
    have h : (rp x && rps xs) = true := h
    rw [Bool.and_eq_true] at h
    obtain ⟨a, b, c⟩ := rp_ok x h.1
    obtain ⟨d, e, f⟩ := rps_ok xs h.2
    refine ⟨?_, ?_, ?_⟩
    · show (PyData.canLay0 x && PyData.canLayAll0 xs) = true
      rw [a, d]; rfl
    · show (PyData.intsShort 13 x && PyData.intsShortAll 13 xs) = true
      rw [b, e]; rfl
    · show (PyData.showable x && PyData.showableAll xs) = true
      rw [c, f]; rfl
end
theorem repr_rp {d : D} {x : PyData} (h : toPy d = some x) (r : rp x = true) (dp : x.depth ≤ 64) (w : x.weight ≤ 2 ^ 20) : reprD [d] = pure (.str x.shown) := by
  obtain ⟨a, b, c⟩ := rp_ok x r
  unfold reprD
  dsimp only
  rw [h]
  exact if_pos ⟨c, dp, PyData.shown_fits (by decide) (by decide) (PyData.leavesShort_of_canLay0 13 x a b) w⟩
structure Rp (n w : Nat) (d : D) : Prop where
  ex : ∃ x, toPy d = some x ∧ rp x = true ∧ x.depth ≤ n ∧ x.weight ≤ w
theorem Rp.le {n w n' w' : Nat} {d : D} (h : Rp n w d) (h1 : n ≤ n') (h2 : w ≤ w') : Rp n' w' d := by
  obtain ⟨x, a, b, c, e⟩ := h.ex
  exact ⟨x, a, b, by omega, by omega⟩
theorem Rp.repr {n w : Nat} {d : D} (h : Rp n w d) (hn : n ≤ 64) (hw : w ≤ 1000000) : ∃ s, reprD [d] = pure (.str s) := by
  obtain ⟨x, a, b, c, e⟩ := h.ex
  exact ⟨_, repr_rp a b (by omega) (by have : (2 : Nat) ^ 20 = 1048576 := by decide
                                       omega)⟩
structure RpL (n w : Nat) (ds : List D) : Prop where
  ex : ∃ xs, toPyL ds = some xs ∧ rps xs = true ∧ PyData.depthAll xs ≤ n ∧ PyData.weightAll xs ≤ w
theorem Rp.non : Rp 0 0 .non := ⟨_, rfl, rfl, Nat.le_refl _, Nat.le_refl _⟩
theorem Rp.bl (b : Bool) : Rp 0 0 (.bl b) := ⟨_, rfl, rfl, Nat.le_refl _, Nat.le_refl _⟩
theorem Rp.int {i : Int} (h : i.natAbs < 10 ^ 12) : Rp 0 50 (.int i) := by
  refine ⟨_, rfl, decide_eq_true h, Nat.le_refl _, ?_⟩
  show (if i == 0 then 0 else i.natAbs.log2 + 1) ≤ 50
  split
  · omega
  · rename_i z
    have z : i.natAbs ≠ 0 := fun e => z (by have : i = 0 := by omega
                                            rw [this]; rfl)
    have := (Nat.log2_lt z).mpr (Nat.lt_trans h (show 10 ^ 12 < 2 ^ 49 by decide +kernel))
    omega
theorem Rp.str {x : Str} {w : Nat} (h : PyData.canLay0 (.str x) = true) (hw : x.cps.size ≤ w) : Rp 0 w (.str x) := ⟨_, rfl, h, Nat.le_refl _, hw⟩
theorem RpL.nil : RpL 0 0 [] := ⟨_, rfl, rfl, Nat.le_refl _, Nat.le_refl _⟩
theorem RpL.cons {n n' w w' : Nat} {d : D} {ds : List D} (h : Rp n w d) (t : RpL n' w' ds) : RpL (max n n') (w + 1 + w') (d :: ds) := by
  obtain ⟨x, a, b, c, e⟩ := h.ex
  obtain ⟨xs, a', b', c', e'⟩ := t.ex
  refine ⟨x :: xs, ?_, ?_, ?_, ?_⟩
  · show (match toPy d, toPyL ds with | some y, some ys => some (y :: ys) | _, _ => none) = _
    rw [a, a']
  · show (rp x && rps xs) = true
    rw [b, b']; rfl
  · show max (PyData.depth x) (PyData.depthAll xs) ≤ _
    omega
  · show PyData.weight x + 1 + PyData.weightAll xs ≤ _
    omega
theorem RpL.le {n w n' w' : Nat} {ds : List D} (h : RpL n w ds) (h1 : n ≤ n') (h2 : w ≤ w') : RpL n' w' ds := by
  obtain ⟨x, a, b, c, e⟩ := h.ex
  exact ⟨x, a, b, by omega, by omega⟩
theorem RpL.all {n w : Nat} : ∀ {ds : List D}, (∀ d ∈ ds, Rp n w d) → RpL n (ds.length * (w + 1)) ds
  | [], _ => RpL.nil.le (by omega) (by omega)
  | d :: ds, h => (RpL.cons (h d (by simp)) (RpL.all fun x hx => h x (List.mem_cons_of_mem _ hx))).le (by omega) (by rw [List.length_cons, Nat.add_mul]; omega)
theorem Rp.tup {n w : Nat} {ds : List D} (h : RpL n w ds) : Rp (n + 1) w (.tup ds) := by
  obtain ⟨xs, a, b, c, e⟩ := h.ex
  refine ⟨.tuple xs, ?_, b, ?_, e⟩
  · show (toPyL ds).map _ = _
    rw [a]; rfl
  · show PyData.depthAll xs + 1 ≤ _
    omega
theorem Rp.lst {n w : Nat} {ds : List D} (h : RpL n w ds) : Rp (n + 1) w (.lst ds) := by
  obtain ⟨xs, a, b, c, e⟩ := h.ex
  refine ⟨.list xs, ?_, b, ?_, e⟩
  · show (toPyL ds).map _ = _
    rw [a]; rfl
  · show PyData.depthAll xs + 1 ≤ _
    omega
end RM

namespace RM
open PySem PySem.Spec PyProof.Rows L2
variable [PgW]
theorem meets_enumB1 {v : Value} {o : Obj} {H : Heap → Prop} (B : Begins v o H) :
    Meets (Builtin.«enumerate.__new__» ⟨[.type "enumerate", v], []⟩) (fun _ R s => H s.heap ∧
      R (.ok (.ret (.ref (s.heap.push o).objs.size))) { s with heap := (s.heap.push o).push { cls := .type "enumerate", data := .fields #[.none, .bool false, .ref s.heap.objs.size, rawInt 0, .none, .none] } }) :=
  .of_wp fun prog w A R s h => by
    obtain ⟨hp, g, d, tk, os⟩ := s; obtain ⟨h1, h⟩ := h
    have hsub := sub_enumerate
    have q1 : ∀ {A' : Around} {E : Value → Shared → Prop} {Q : Value → Shared → Prop}, Q (.ref hp.objs.size) ⟨hp.push o, g, d, tk, os⟩ → wpAny (model prog w) A' (pyIter v) Q E ⟨hp, g, d, tk, os⟩ :=
      fun q => B.iter prog w _ _ ⟨hp, g, d, tk, os⟩ _ h1 q
    wp_walk using q1
    refine wpAny_stack_any fun st => wpAny_pure ?_
    split
    · rename_i c _ _ _ _ _
      cases (c == Value.type "enumerate")
      · wp_walk using q1
        exact ⟨_, rfl, h⟩
      · wp_walk using q1
        exact ⟨_, rfl, h⟩
    · wp_walk using q1
      exact ⟨_, rfl, h⟩
theorem call_enumB1 {prog : Program} {w : World} {A : Around} {E : Value → Shared → Prop} {s : Shared} {v : Value} {o : Obj} {H : Heap → Prop} {Q : Value → Shared → Prop} (B : Begins v o H) (h1 : H s.heap)
    (h : ∀ h', IsEnum h' (s.heap.objs.size + 1) s.heap.objs.size 0 .none → h'.get? s.heap.objs.size = some o → h'.objs.size = s.heap.objs.size + 2 →
      (∀ b o, s.heap.get? b = some o → h'.get? b = some o) → Q (.ref (s.heap.objs.size + 1)) { s with heap := h' }) :
    wpAny (model prog w) A (call (.type "enumerate") [v]) Q E s := by
  refine callType_new F.called_enumerate (by decide) (F.typeCall_enumerate_1 _) (F.newCall_enumerate_1 _) (fun obj => F.args_object_init_2 obj _) F.entry_enumerate_new
    (meets_enumB1 B) ⟨h1, ?_⟩
  have hz : (s.heap.push o).objs.size = s.heap.objs.size + 1 := Heap.size_push ..
  show _ ∧ _
  rw [hz]
  have he : IsEnum ((s.heap.push o).push { cls := .type "enumerate", data := .fields #[.none, .bool false, .ref s.heap.objs.size, rawInt 0, .none, .none] }) (s.heap.objs.size + 1) s.heap.objs.size 0 .none := by
    have := Heap.get?_push_size (s.heap.push o) (o := { cls := .type "enumerate", data := .fields #[.none, .bool false, .ref s.heap.objs.size, rawInt 0, .none, .none] }) rfl
    rw [hz] at this; exact this
  refine ⟨⟨_, he, rfl⟩, h _ he (Heap.get?_push_of_some _ (Heap.get?_push_size _ B.free)) (by rw [Heap.size_push, hz]) fun b o x => Heap.get?_push_of_some _ (Heap.get?_push_of_some _ x)⟩
def IteT (K : PySem.W.Frag) (a : Addr) : It :=
  ⟨fun i H => ∃ (xs : List V) (x : V), SqT K H a xs ∧ xs[i]? = some x, fun i H v H' => ∃ T x, v = .ref T ∧ H T = none ∧ H' = upd H T (.tup [.int (i : Nat), x]) ∧ ∀ xs, SqT K H a xs → xs[i]? = some x, fun i H => ∃ xs : List V, SqT K H a xs ∧ xs.length ≤ i⟩
theorem turn_enumT {P : Program} {w : World} {K : PySem.W.Frag} {elts : List Expr} {kk : Nat} {tpos : Pos} (a e it : Addr) (hai : a ≠ it) (hea : e ≠ a) :
    Turn P w K (.Tuple elts kk tpos) (IteT K a) [e, it] e (fun i h => (∃ old, IsEnum h e it ((i : Nat) : Int) old) ∧ h.IsTupleIter it a i ∧ e ≠ it) where
  mem := by simp
  obj := fun i h st b hb => by
    obtain ⟨⟨old, he⟩, ⟨o, ho, hc, hd⟩, _⟩ := st
    have e' : b = e ∨ b = it := by simpa using hb
    rcases e' with z | z
    · rw [z]; exact ⟨_, he, fun v q => nomatch q⟩
    · rw [z]; exact ⟨o, ho, fun v q => by rw [hd] at q; cases q⟩
  keep := fun i h h' st k => let ⟨⟨old, he⟩, hi, hne⟩ := st; ⟨⟨old, k e (by simp) _ he⟩, hi.at fun o q => k it (by simp) o q, hne⟩
  item := by
    intro X hP hw hK hc i pins s σ H E I hf st hg
    subst hP hw hK
    obtain ⟨⟨old, he⟩, hit, hne⟩ := st
    obtain ⟨xs, x, hq, hx⟩ := hg
    obtain ⟨its, rv, p, hz⟩ := I.tuple hq
    obtain ⟨u, hu, ru⟩ := rv.get hx
    have hel : e < s.heap.objs.size := Heap.lt_size he
    have hil : it < s.heap.objs.size := by obtain ⟨_, q, _⟩ := hit; exact Heap.lt_size q
    have hil2 : i < its.toArray.size := by
      have := (List.getElem?_eq_some_iff.mp hu).1
      simpa using this
    have D := Draws.tuple (prog := X.prog) (w := X.w) (A := X.A.in1) (I.ok.hd hc) it a hai its.toArray
    refine wpAny_pyNext_enum_itemD D he ⟨hit, p⟩ hil2 hne (by simp [hne, hea]) fun x' h' tk hP ho hst' hT hsz hk => ?_
    obtain rfl : x' = u := by
      have h1 : its.toArray[i]? = some x' := hP
      have h2 : its.toArray[i]? = some u := by simpa using hu
      rw [h1] at h2; exact Option.some.inj h2
    obtain ⟨hit', _⟩ := hst'
    refine ⟨_, rfl, wpAny_letOwnedTupleGo_enum (s := { s with heap := h', toks := tk + 1 }) ho fun h'' he' sb => ?_⟩
    have hT2 : h''.get? s.heap.objs.size = some { cls := .type "tuple", data := .seq #[.int i tk, x'] } := (sb.2 _ (Nat.ne_of_gt hel)).trans hT
    have new : ObjOk X.prog X.w (upd H s.heap.objs.size (.tup [.int (i : Nat), x])) h'' s.heap.objs.size (.tup [.int (i : Nat), x]) :=
      ⟨by show 2 ≤ sizeLine; decide, [.int i tk, x'], .cons ⟨_, rfl⟩ (.cons ru .nil), ⟨_, hT2, rfl, _, rfl⟩⟩
    have I1 : Inv X pins σ (upd H s.heap.objs.size (.tup [.int (i : Nat), x])) { s with heap := h'', toks := tk + 1 } :=
      I.turnedNew (ch := [e, it]) (fun b ob hb q => (sb.2 b (fun z => hb (by simp [z]))).trans (hk b ob (fun z => hb (by simp [z])) (fun z => hb (by simp [z])) q)) hf (Nat.le_refl _) new
    refine ⟨.ref s.heap.objs.size, _, I1, rfl, ⟨_, x, rfl, I.hok.fresh (Nat.le_refl _), rfl, fun ys hy => by rw [I.tuple_inj hy hq]; exact hx⟩, ⟨⟨x', ?_⟩, hit'.at fun o q => (sb.2 it (Ne.symm hne)).trans q, hne⟩, fun b hb => ?_⟩
    · have e1 : ((i + 1 : Nat) : Int) = (i : Int) + 1 := by omega
      rw [e1]; exact he'
    · have hb' : b < s.heap.objs.size := by
        have e' : b = e ∨ b = it := by simpa using hb
        rcases e' with z | z
        · rw [z]; exact hel
        · rw [z]; exact hil
      rw [upd_ne (Nat.ne_of_lt hb')]
      exact (hf b hb).1
  done := by
    intro X hP hw hK hc i pins s σ H E I hf st hg
    subst hP hw hK
    obtain ⟨⟨old, he⟩, hit, hne⟩ := st
    obtain ⟨xs, hq, hx⟩ := hg
    obtain ⟨its, rv, p, hz⟩ := I.tuple hq
    obtain ⟨f0, f1, f2, f3, f4, f5⟩ := hf it (by simp)
    have hl := rv.length
    have hT : s.TypeIs (.ref e) "enumerate" := ⟨_, he, rfl⟩
    unfold pyNext
    refine wpAny_bind (wpAny_attempt (wpAny_callSpecial?_slot (name := Str.ofString "__next__") hT F.slot_enumerate_next
      (wpAny_call_entry F.slot_enumerate_next hT F.entry_enumerate_next ?_ (F.args_enumerate_next_1 _))))
    show wpAny _ _ (field (.ref e) 2 >>= _) _ _ _
    refine wpAny_bind (wpAny_field he rfl (x := .ref it) rfl ?_)
    refine wpAny_bind (wpAny_nextOf_tuple_end (I.ok.hd hc) hit p (by simp; omega) fun h' x he' hx' => ?_)
    obtain ⟨o, ho, hc⟩ := hx'
    refine wpAny_bind (wpAny_isInstance (T := "StopIteration") (b := true) ⟨o, ho, hc⟩ isSubtype_stop ?_)
    exact wpAny_pure ⟨rfl, I.turned (t' := s.toks) (fun b o hb q => he' b o hb q) f0 f1 f3 f4 f5⟩
  self := fun A i s Q E st h => let ⟨⟨_, he⟩, _⟩ := st; wpAny_pyIter_enum he h
def iEnumT (K : PySem.W.Frag) (ta : TA) : TI := fun σ H R => ta σ H fun vs H1 => ∃ a xs, vs = [.ref a] ∧ SqT K H1 a xs ∧ R (IteT K a) H1
theorem pi_enumT {X : Cx} {e : Expr} {ta : TA} {p pos tpos : Pos} {elts : List Expr} {kk : Nat} (hg : Gl X "enumerate") (hm : X.mg "enumerate" = none) (ha : PA X [e] ta) (hs : starEach [e] X.env = [(false, eval e X.env)] := by rfl) :
    PI X (.Tuple elts kk tpos) (.Call (.Name "enumerate" p) [e] [] pos) (iEnumT X.K ta) := by
  refine ⟨fun pins s σ H R I h => ?_⟩
  refine Call_ (ld_blt I hg hm boot_enumerate (PyProof.Rows.callWith_type1 (thn (ha.run pos pins s σ H _ I h) fun us s1 ⟨vs, H1, I1, r1, q1⟩ => ?_) hs rfl))
  obtain ⟨a, xs, ex, hq, q⟩ := q1
  subst ex
  cases r1 with
  | cons r rr =>
    cases rr
    cases r
    obtain ⟨its, rv, p', hz⟩ := I1.tuple hq
    have hal : a < s1.heap.objs.size := by obtain ⟨_, q, _⟩ := p'; exact Heap.lt_size q
    refine call_enumB1 (begins_tuple a its.toArray) p' fun h' he hit hsz hk => wpAny_pyIter_enum he ?_
    have I2 : Inv X pins σ H1 { s1 with heap := h' } := I1.kept (t' := s1.toks) hk
    refine ⟨s1.heap.objs.size + 1, [s1.heap.objs.size + 1, s1.heap.objs.size], _, _, H1, rfl, I2, turn_enumT a (s1.heap.objs.size + 1) s1.heap.objs.size (Nat.ne_of_lt hal) (Nat.ne_of_gt (Nat.lt_succ_of_lt hal)), ⟨⟨.none, he⟩, ⟨_, hit, rfl, rfl⟩, Nat.succ_ne_self _⟩, fun b hb => ?_, q⟩
    have e' : b = s1.heap.objs.size + 1 ∨ b = s1.heap.objs.size := by simpa using hb
    have hle : s1.heap.objs.size ≤ b := by
      rcases e' with z | z
      · rw [z]; exact Nat.le_add_right _ _
      · rw [z]; exact Nat.le_refl _
    exact I1.fpOk hle (I1.hok.fresh hle)
def enumFrom : Nat → List D → List D
  | _, [] => []
  | k, d :: ds => .tup [.int k, d] :: enumFrom (k + 1) ds
def enumD : D → M (List D)
  | .lst xs => pure (enumFrom 0 xs)
  | .tup xs => pure (enumFrom 0 xs)
  | _ => stuck
theorem enumFrom_len : ∀ (xs : List D) (k : Nat), (enumFrom k xs).length = xs.length
  | [], _ => rfl
  | _ :: xs, k => by
    show (enumFrom (k + 1) xs).length + 1 = xs.length + 1
    rw [enumFrom_len xs]
theorem enumFrom_get : ∀ (xs : List D) (k i : Nat), (enumFrom k xs)[i]? = (xs[i]?).map fun d => .tup [.int ((k + i : Nat) : Int), d]
  | [], _, _ => rfl
  | _ :: _, _, 0 => rfl
  | _ :: xs, k, i + 1 => by
    show (enumFrom (k + 1) xs)[i]? = _
    rw [enumFrom_get xs]
    show _ = (xs[i]?).map _
    rw [show k + 1 + i = k + (i + 1) from by omega]
section
variable {K : PySem.W.Frag} {p : List (List Addr)} {G : Hp}
theorem itok_enum {a : Addr} {ds : List D} {vs : List V} (h : SqL K G a vs) (dn : DenL K p G ds vs) : ItOk K p G (enumFrom 0 ds) (Ite K a) where
  go := fun i H s hi => by
    rw [enumFrom_len] at hi
    have hl := dn.length
    exact ⟨vs, vs[i], s.seq h, by simp [hl, hi]⟩
  stop := fun H s => ⟨vs, s.seq h, by rw [enumFrom_len, dn.length]; exact Nat.le_refl _⟩
  yld := fun i d H x H' e s y => by
    obtain ⟨T, x', rfl, hT, rfl, y⟩ := y
    rw [enumFrom_get] at e
    cases e0 : ds[i]? with
    | none => rw [e0] at e; cases e
    | some d0 =>
      rw [e0] at e
      obtain ⟨v, e1, e2⟩ := dn.get e0
      have := y vs (s.seq h)
      rw [e1] at this
      cases this
      cases e
      refine .inr ⟨T, _, _, rfl, hT, rfl, rfl, DenL.cons (d := .int _) ?_ (DenL.one e2)⟩
      show V.int _ = V.int _
      rw [Nat.zero_add]
theorem itok_enumT {a : Addr} {ds : List D} {vs : List V} (h : SqT K G a vs) (dn : DenL K p G ds vs) : ItOk K p G (enumFrom 0 ds) (IteT K a) where
  go := fun i H s hi => by
    rw [enumFrom_len] at hi
    have hl := dn.length
    exact ⟨vs, vs[i], SqT.mono s h, by simp [hl, hi]⟩
  stop := fun H s => ⟨vs, SqT.mono s h, by rw [enumFrom_len, dn.length]; exact Nat.le_refl _⟩
  yld := fun i d H x H' e s y => by
    obtain ⟨T, x', rfl, hT, rfl, y⟩ := y
    rw [enumFrom_get] at e
    cases e0 : ds[i]? with
    | none => rw [e0] at e; cases e
    | some d0 =>
      rw [e0] at e
      obtain ⟨v, e1, e2⟩ := dn.get e0
      have := y vs (SqT.mono s h)
      rw [e1] at this
      cases this
      cases e
      refine .inr ⟨T, _, _, rfl, hT, rfl, rfl, DenL.cons (d := .int _) ?_ (DenL.one e2)⟩
      show V.int _ = V.int _
      rw [Nat.zero_add]
end
section
variable {X : Cx} {W : WX} {g : DSt} {a : Expr} {ma : M D} {p pos tpos : Pos} {elts : List Expr} {kk : Nat}
theorem xi_enum (hg : Gl X "enumerate") (hm : X.mg "enumerate" = none) (ha : XE X W g a ma) (hs : starEach [a] X.env = [(false, eval a X.env)] := by rfl) : XI X W g (.Tuple elts kk tpos) (.Call (.Name "enumerate" p) [a] [] pos) (B ma enumD) := by
  have hA : PA X [a] _ := pa_cons ha pa_nil hs
  refine PI.imp (PI.or (pi_enum hg hm hA hs) (pi_enumT hg hm hA hs)) fun σ H R ⟨p, G, S, ow, r, h⟩ => ?_
  have h : okR (ItOk X.K) X.K p G H (fun c d H' => W c d σ H') ((ma S).andThen enumD) R := h
  cases e : ma S with
  | stuck => rw [e] at h; exact h.elim
  | exc z S1 =>
    rw [e] at h
    exact .inl ⟨p, G, S, ow, r, by rw [e]; exact h⟩
  | ok d S1 =>
    rw [e] at h
    cases d <;> try exact h.elim
    · rename_i xs
      refine .inr ⟨p, G, S, ow, r, ?_⟩
      rw [e]
      intro v p1 G1 H1 dn r1 x1
      obtain ⟨l, vs, rfl, hl, hv⟩ := dn
      exact ⟨l, vs, rfl, SqT.mono r1.sub hl, h _ p1 G1 H1 (itok_enumT hl hv) r1 x1⟩
    · rename_i xs
      refine .inl ⟨p, G, S, ow, r, ?_⟩
      rw [e]
      intro v p1 G1 H1 dn r1 x1
      obtain ⟨l, vs, rfl, hl, hv⟩ := dn
      exact ⟨l, vs, rfl, SqL.of (r1.sub _ _ hl), h _ p1 G1 H1 (itok_enum (SqL.of hl) hv) r1 x1⟩
end
end RM

namespace RM
open PySem PySem.Spec PyProof.Rows L2
variable [PgW]
abbrev TT := List (Str × Str)
structure TabF (K : PySem.W.Frag) (w : World) (a : Addr) (kvs : TT) : Prop where
  d : ∃ es n, KDict K w a es n
  v : ∀ z, ∃ r, PySem.W.nsIn K a z = some r ∧ (match kvs.lookup z with
    | some y => ∃ u, r = some u ∧ RelV (.str y) u
    | none => r = none)
def tabVals (kvs : TT) : List (Str × He.Dv) := kvs.map fun q => (q.1, .str q.2)
theorem lookup_mem {α : Type} : ∀ {kvs : List (Str × α)} {z : Str} {y : α}, kvs.lookup z = some y → (z, y) ∈ kvs
  | [], _, _, h => by cases h
  | q :: r, z, y, h => by
    obtain ⟨k, v⟩ := q
    rw [List.lookup_cons] at h
    cases e : z == k with
    | true =>
      rw [e] at h
      cases h
      rw [beq_iff_eq.mp e]
      exact List.mem_cons_self ..
    | false =>
      rw [e] at h
      exact List.mem_cons_of_mem _ (lookup_mem h)
theorem lookup_none {α : Type} : ∀ {kvs : List (Str × α)} {z : Str}, kvs.lookup z = none → z ∉ kvs.map (·.1)
  | [], _, _ => by simp
  | q :: r, z, h => by
    obtain ⟨k, v⟩ := q
    rw [List.lookup_cons] at h
    cases e : z == k with
    | true => rw [e] at h; cases h
    | false =>
      rw [e] at h
      have := lookup_none h
      simp only [List.map_cons, List.mem_cons, not_or]
      exact ⟨fun q => by rw [q] at e; simp at e, this⟩
theorem keyOf_mem {P : Params} : ∀ {l : List DictEntry} {ks : List Str}, l.map He.keyOf = He.keysIn P ks → ∀ e ∈ l, ∃ x t, e.key = .str x t ∧ x ∈ ks
  | [], _, _, e, he => by cases he
  | e :: r, [], h, _, _ => by cases h
  | e :: r, k :: ks, h, e', he => by
    have h1 : He.keyOf e :: r.map He.keyOf = some (k, PyData.keyHash P k) :: He.keysIn P ks := h
    injection h1 with h2 h3
    rcases List.mem_cons.mp he with rfl | he
    · unfold He.keyOf at h2
      split at h2
      · rename_i x t q
        obtain ⟨h5, h6⟩ := Prod.mk.inj (Option.some.inj h2)
        exact ⟨x, t, q, by rw [h5]; exact List.mem_cons_self ..⟩
      · cases h2
    · obtain ⟨x, t, a, b⟩ := keyOf_mem h3 e' he
      exact ⟨x, t, a, List.mem_cons_of_mem _ b⟩
theorem tabF_of {K : PySem.W.Frag} {w : World} {a : Addr} {kvs : TT} (h : He.dicW K a = some (He.keysIn w.params (kvs.map (·.1)))) (hv : He.valsB K a (tabVals kvs) = true) : TabF K w a kvs := by
  obtain ⟨es, n, KD⟩ := He.dicW_ok h
  refine ⟨⟨es, n, KD⟩, fun z => ?_⟩
  cases e : kvs.lookup z with
  | some y =>
    have hm : (z, He.Dv.str y) ∈ tabVals kvs := List.mem_map.mpr ⟨_, lookup_mem e, rfl⟩
    obtain ⟨u, h1, h2⟩ := He.valsB_ok hv hm
    exact ⟨some u, h1, u, rfl, h2⟩
  | none =>
    refine ⟨none, ?_, rfl⟩
    have hz := lookup_none e
    have hk : es.toList.map He.keyOf = He.keysIn w.params (kvs.map (·.1)) := by
      have h2 := h
      unfold He.dicW at h2
      rw [KD.at_] at h2
      have h3 : (match decide ("dict" = "dict") && ((#[] : Array (Option Value)).isEmpty && !(a == sysModules)) with
        | true => some (es.toList.map He.keyOf)
        | false => none) = some (He.keysIn w.params (kvs.map (·.1))) := h2
      rw [KD.low] at h3
      exact Option.some.inj h3
    have hs := keyOf_mem hk
    unfold PySem.W.nsIn
    rw [KD.at_]
    have f1 : es.toList.find? (·.key.isStr z) = none := List.find?_eq_none.mpr fun x hx => by
      obtain ⟨y, t, e1, e2⟩ := hs x hx
      rw [e1]
      show ¬ (y == z) = true
      intro q
      rw [beq_iff_eq.mp q] at e2
      exact hz e2
    have f2 : es.toList.any (·.refKey) = false := List.any_eq_false.mpr fun x hx => by
      obtain ⟨y, t, e1, e2⟩ := hs x hx
      unfold DictEntry.refKey
      rw [e1]
      simp
    show (match es.toList.find? (·.key.isStr z) with
      | some e => some (some e.val)
      | none => if es.toList.any (·.refKey) then none else some none) = some none
    rw [f1, f2]
    rfl
section
variable {X : Cx} {V : Wf} {g : DSt} {a : Expr} {ma : M D} {pos p : Pos} {kvs : TT} {x : Str}
end
end RM

namespace RM
open PySem PySem.Spec PyProof.Rows L2
variable [PgW]
section
variable {X : Cx} {V : Wf} {k : Nat} {T : MT}
def AllF (K : PySem.W.Frag) : MT → Prop
  | [] => True
  | q :: r => PySem.W.selfFirst K (He.ga K q.1) = true ∧ AllF K r
theorem AllF.get {K : PySem.W.Frag} {c : Str} {h : D → D → M D} : ∀ {T : MT}, AllF K T → T.lookup c = some h → PySem.W.selfFirst K (He.ga K c) = true
  | [], _, e => by cases e
  | q :: r, ⟨a, b⟩, e => by
    obtain ⟨c', h'⟩ := q
    rw [List.lookup_cons] at e
    cases z : c == c' with
    | true =>
      rw [beq_iff_eq.mp z]
      exact a
    | false =>
      rw [z] at e
      exact AllF.get b e
end
abbrev TabD := Str × TT
def tabKeys (t : TabD) : List Str := t.2.map fun q : Str × Str => q.1
abbrev AlY : Type := AlX × List (Option (List (Option (Str × Int))))
section
variable (fa : List He.Fa) (fn : List He.DefD) (pr : List PrD) (chk : PySem.W.Frag → Bool) (ts : List TabD)
def obsY (K : PySem.W.Frag) : AlY := (obsX fa fn pr chk K, ts.map fun t => He.dicW K (He.ga K t.1))
structure SaysY (w : World) (K : PySem.W.Frag) : Prop where
  x : SaysX fa fn pr chk K
  t : ts.map (fun t => He.dicW K (He.ga K t.1)) = ts.map fun t => some (He.keysIn w.params (tabKeys t))
end
theorem SaysY.tab {fa : List He.Fa} {fn : List He.DefD} {pr : List PrD} {chk : PySem.W.Frag → Bool} {ts : List TabD} {w : World} {K : PySem.W.Frag} (s : SaysY fa fn pr chk ts w K) (i : Nat) {t : TabD} (hv : He.valsB K (He.ga K t.1) (tabVals t.2) = true) (h : ts[i]? = some t := by rfl) : TabF K w (He.ga K t.1) t.2 := by
  have e : (ts.map fun t => He.dicW K (He.ga K t.1))[i]? = (ts.map fun t => some (He.keysIn w.params (tabKeys t)))[i]? := by rw [s.t]
  rw [List.getElem?_map, List.getElem?_map, h] at e
  exact tabF_of (Option.some.inj e) hv
end RM

namespace RM
open PySem PySem.Spec PyProof.Rows L2
variable [PgW]
abbrev MT1 := List (Str × (D → M D))
def AllM1 (X : Cx) (k : Nat) (m : Str) : MT1 → Prop
  | [] => True
  | q :: r => (∃ f fd ps, OwnM X k q.1 m f fd ps (l1 q.2) ∧ ps.length = 1 ∧ Binds X.K fd ps []) ∧ AllM1 X k m r
theorem AllM1.get {X : Cx} {k : Nat} {m c : Str} {h : D → M D} : ∀ {T : MT1}, AllM1 X k m T → T.lookup c = some h → ∃ f fd ps, OwnM X k c m f fd ps (l1 h) ∧ ps.length = 1 ∧ Binds X.K fd ps []
  | [], _, e => by cases e
  | q :: r, ⟨a, b⟩, e => by
    obtain ⟨c', h'⟩ := q
    rw [List.lookup_cons] at e
    cases z : c == c' with
    | true =>
      rw [z] at e
      cases e
      rw [beq_iff_eq.mp z]
      exact a
    | false =>
      rw [z] at e
      exact AllM1.get b e
section
variable {X : Cx} {V : Wf} {k : Nat} {T : MT1}
end
end RM

namespace RM
open PySem PySem.Spec PyProof.Rows L2
variable [PgW]
section
variable {X : Cx} {W : Wf} {e : Expr} {ma : DSt → M D} {pos : Pos}
end
section
variable {α : Type} {X : Cx} {W : Wf} {g : DSt} {I : IC α} {e : Expr} {rest : List Stmt} {pos : Pos} {me : M D}
end
end RM

namespace RM
open PySem PySem.Spec PyProof.Rows L2
variable [PgW]
def stepK (σ : List Key) (k : Key) : List Key := if σ.any (fun x => decide (x = k)) then σ else σ ++ [k]
def once (ks : List Key) : List Key := ks.foldl stepK []
section
variable {prog : Program} {w : World} {A : Around} {R : Result → Shared → Prop} {I : Addr} {fp wr : List Addr} {G : Array GenState → Array GenState → Prop} {n : Nat} {P : Nat → Value → Prop} {St : Nat → Shared → Prop}
end
section
variable {prog : Program} {w : World} {A : Around} {E : Value → Shared → Prop} {s : Shared}
end
end RM

namespace RM
open PySem PySem.Spec PyProof.Rows L2
variable [PgW]
section
variable {X : Cx}
end
end RM

namespace RM
open PySem PySem.Spec PyProof.Rows L2
variable [PgW]
section
variable {X : Cx} {V : Wf}
end
end RM

namespace RM
open PySem PySem.Spec PyProof.Rows L2
variable [PgW]
section
variable (R : PySem.W.OpenRow) (q : Program) (fa : List He.Fa) (fn : List He.DefD) (pr : List PrD) (chk : PySem.W.Frag → Bool) (ts : List TabD) (n M : Nat) (loose : List Str) (w : World)
variable {R q fa fn pr chk ts n M loose w}
end
end RM

namespace RM
open PySem PySem.Spec PyProof.Rows L2
variable [PgW]
def keyV : Value → Key
  | .int k _ => .inl k
  | .str x _ => .inr x
  | _ => .inl 0
abbrev keysOf (l : List (Int × Value)) : List Key := l.map fun e => keyV e.2
def SetW (P : Program) (w : World) (h : Heap) (a : Addr) (ks : List Key) : Prop :=
  ∃ o es ep t, h.get? a = some o ∧ o.ExactSet ∧ o.data = .set es ep t ∧ ElemsOf (mixKind P w) es.toList ∧ (keysOf es.toList).Perm (once ks) ∧
    es.size < scanBound ∧ t.fits es.size = true ∧ Ris t.place.toList ∧ (w.params.followText "set-order" = true ∨ t.led = true)
theorem SetW.at {P : Program} {w : World} {h h' : Heap} {a : Addr} {ks : List Key} (R : SetW P w h a ks) (k : ∀ o, h.get? a = some o → h'.get? a = some o) : SetW P w h' a ks := by
  obtain ⟨o, es, ep, t, ho, r⟩ := R
  exact ⟨o, es, ep, t, k o ho, r⟩
section
variable {P : Program} {w : World} {A : Around} {E : Value → Shared → Prop} {s : Shared} {a : Addr} {ks : List Key}
theorem stored {h : Heap} {o : Obj} {xs ys : Array (Int × Value)} {ep : Nat} {t u : SetTable} (ho : h.get? a = some o) (hd : o.data = .set xs ep t) :
    (h.update a (Obj.putSet ys u)).get? a = some { o with data := .set ys (ep + 1) u } := by
  have e := putSet_of ys u hd
  have z := Heap.get?_update_self (Obj.putSet ys u) ho (by rw [e]; rfl)
  rwa [e] at z
end
section
variable {prog : Program} {w : World} {A : Around} {R : Result → Shared → Prop} {I : Addr} {fp wr : List Addr} {G : Array GenState → Array GenState → Prop} {n : Nat} {P : Nat → Value → Prop} {St : Nat → Shared → Prop}
end
section
variable {prog : Program} {w : World} {A : Around} {E : Value → Shared → Prop} {s : Shared}
end
end RM

namespace RM
open PySem PySem.Spec PyProof.Rows L2
variable [PgW]
section
variable {P : Program} {w : World} {A : Around} {E : Value → Shared → Prop} {s : Shared} {a : Addr} {ks : List Key}
end
section
variable {X : Cx}
end
end RM

namespace RM
open PySem PySem.Spec PyProof.Rows L2
variable [PgW]
def outL (o : Obj) : List Addr := match o.data with
  | .seq its _ => its.toList.flatMap He.refV
  | .dict es _ => es.toList.flatMap fun e => He.refV e.val
  | .func fd => He.refV fd.code ++ (He.refV fd.defaults ++ He.refV fd.kwdefaults)
  | .cls cd => [cd.ns]
  | .fields vs => vs.toList.flatMap He.refV
  | _ => []
section
variable (fa : List He.Fa) (fn : List He.DefD) (pr : List PrD) (chk : PySem.W.Frag → Bool) (ts : List TabD)
end
section
variable (R : PySem.W.OpenRow) (q : Program) (fa : List He.Fa) (fn : List He.DefD) (pr : List PrD) (chk : PySem.W.Frag → Bool) (ts : List TabD) (n M : Nat) (loose : List Str) (w : World)
variable {R q fa fn pr chk ts n M loose w}
end
end RM

namespace RM
open PySem PySem.Spec PyProof.Rows L2
variable [PgW]
section
variable {α : Type} {X : Cx} {W : Wf} {g : DSt} {I : IC α} {e : Expr} {rest : List Stmt} {pos px : Pos} {ml : M (List D)}
end
def j0 {α : Type} (f : M α) : List D → M α
  | [] => f
  | _ => stuck
def j1 {α : Type} (f : D → M α) : List D → M α
  | [a] => f a
  | _ => stuck
def j2 {α : Type} (f : D → D → M α) : List D → M α
  | [a, b] => f a b
  | _ => stuck
def j3 {α : Type} (f : D → D → D → M α) : List D → M α
  | [a, b, c] => f a b c
  | _ => stuck
def j4 {α : Type} (f : D → D → D → D → M α) : List D → M α
  | [a, b, c, d] => f a b c d
  | _ => stuck
def j5 {α : Type} (f : D → D → D → D → D → M α) : List D → M α
  | [a, b, c, d, e] => f a b c d e
  | _ => stuck
@[simp] theorem j0_at {α : Type} (f : M α) : j0 f [] = f := Eq.trans rfl rfl
@[simp] theorem j1_at {α : Type} (f : D → M α) (a : D) : j1 f [a] = f a := Eq.trans rfl rfl
@[simp] theorem j2_at {α : Type} (f : D → D → M α) (a b : D) : j2 f [a, b] = f a b := Eq.trans rfl rfl
@[simp] theorem j3_at {α : Type} (f : D → D → D → M α) (a b c : D) : j3 f [a, b, c] = f a b c := Eq.trans rfl rfl
@[simp] theorem j4_at {α : Type} (f : D → D → D → D → M α) (a b c d : D) : j4 f [a, b, c, d] = f a b c d := Eq.trans rfl rfl
@[simp] theorem j5_at {α : Type} (f : D → D → D → D → D → M α) (a b c d e : D) : j5 f [a, b, c, d, e] = f a b c d e := Eq.trans rfl rfl
def spF (K : PySem.W.Frag) (k : Nat) (f : List D → M (List D)) : Sp := fun vs H Q E => ∃ ds p G S, ds.length = k ∧ DenL K p G ds vs ∧ Rel0 K p S G H ∧ okF K p G H E (f ds S) Q
theorem spF.len {K : PySem.W.Frag} {k : Nat} {f : List D → M (List D)} (vs : List V) (H : Hp) (Q : VK) (E : L2.XK) (h : spF K k f vs H Q E) : vs.length = k := by
  obtain ⟨ds, p, G, S, e, dn, _⟩ := h
  rw [dn.length, e]
section
variable {P : Program} {w : World} {K : PySem.W.Frag} {mg : Str → Option Value} {base : Heap} {x qual : Str} {params : Arguments} {body : List Stmt} {scope : Scope} {dvs : List V} {kws : List (Str × V)} {f : Addr} {fd : FuncData}
end
section
variable {X : Cx} {W : WX} {g : DSt} {a : Expr} {es : List Expr} {ms : List (M D)} {pos p : Pos} {k : Nat} {f : Addr} {fd : FuncData} {ps : List Str} {gf : List D → M (List D)} {x : Str} {dvs : List V} {ds : List Value} {dds : List D}
end
end RM

namespace RM
open PySem PySem.Spec PyProof.Rows L2
variable [PgW]
section
variable {X : Cx} {W : Wf} {pos apos cpos : Pos}
end
section
variable {α : Type} {X : Cx} {W : Wf} {g : DSt} {I : IC α} {rest : List Stmt} {pos apos cpos : Pos}
end
end RM

namespace RM
open PySem PySem.Spec PyProof.Rows L2
variable [PgW]
section
variable {X : Cx}
end
section
variable {X : Cx} {W : WX} {g : DSt} {a b : Expr} {ma mb : M D} {pos p2 p3 p4 apos cpos : Pos}
end
end RM

namespace RM
open PySem PySem.Spec PyProof.Rows L2
variable [PgW]
theorem SetW.ty {P : Program} {w : World} {s : Shared} {a : Addr} {ks : List Key} (R : SetW P w s.heap a ks) : s.TypeIs (.ref a) "set" := by
  obtain ⟨o, es, ep, t, ho, hx, _⟩ := R
  exact ⟨o, ho, hx.1⟩
section
variable {P : Program} {w : World} {A : Around} {E : Value → Shared → Prop} {s : Shared} {a : Addr} {ks : List Key}
end
section
variable {X : Cx}
end
section
variable {X : Cx}
end
section
variable {X : Cx} {V : WX} {g : DSt} {elt iter tg : Expr} {ifs : List Expr} {scope : Scope} {own : List (Str × Nat)} {T : Tgt} {mi : M (List D)} {mt : D → M Bool} {me : D → M D} {pos p q : Pos}
end
end RM

namespace RM
open PySem PySem.Spec PyProof.Rows L2
variable [PgW]
section
variable {K : PySem.W.Frag} {p : List (List Addr)} {G : Hp}
end
section
variable {X : Cx} {W : WX} {g : DSt} {a b : Expr} {ma mb : M D} {p pos tpos : Pos} {elts : List Expr} {kk : Nat}
end
end RM

namespace RM
open PySem PySem.Spec PyProof.Rows L2
variable [PgW]
def AllG (K : PySem.W.Frag) (m : Str) : MT → Prop
  | [] => True
  | q :: r => PySem.W.fnIn K (He.ma K (He.ga K q.1) m) = true ∧ AllG K m r
theorem AllG.get {K : PySem.W.Frag} {m c : Str} {h : D → D → M D} : ∀ {T : MT}, AllG K m T → T.lookup c = some h → PySem.W.fnIn K (He.ma K (He.ga K c) m) = true
  | [], _, e => by cases e
  | q :: r, ⟨a, b⟩, e => by
    obtain ⟨c', h'⟩ := q
    rw [List.lookup_cons] at e
    cases z : c == c' with
    | true =>
      rw [beq_iff_eq.mp z]
      exact a
    | false =>
      rw [z] at e
      exact AllG.get b e
section
variable {X : Cx} {V : Wf} {k : Nat} {T : MT} {g : DSt} {a b : Expr} {ma mb : M D} {pos : Pos}
end
end RM

namespace RM
open PySem PySem.Spec PyProof.Rows L2
variable [PgW]
section
variable {X : Cx} {pins : List (Addr × Obj)} {σ : L2.St} {H : Hp} {s : Shared}
theorem xcO_ok {P : Program} {w : World} {h : Heap} {a : Addr} {cls : Value} {d : Option Addr} {oe : Obj} {vs : Array Value} (e : h.get? a = some oe) (z : Zc cls d oe) (dd : oe.data = .fields vs) : ObjOk P w H h a (XcO cls d a) :=
  ⟨⟨oe, vs, e, z, dd⟩, ⟨oe, e⟩, fun _ _ ⟨o, v, q, r⟩ k => ⟨o, v, k o q, r⟩⟩
theorem _root_.L2.Inv.track {a : Addr} {cls : Value} {d : Option Addr} {oe : Obj} {vs : Array Value} (I : Inv X pins σ H s) (he : s.heap.get? a = some oe) (hz : Zc cls d oe) (hd : oe.data = .fields vs) (na : H a = none) (nL : a ≠ X.env.locals)
    (np : ∀ p ∈ X.pn ++ pins, p.1 ≠ a) (n0 : X.s_0.heap.get? a = none) : Inv X pins σ (upd H a (XcO cls d a)) s := by
  have far : ∀ b u, H b = some u → upd H a (XcO cls d a) b = some u := fun b u q => by rw [upd_ne (ne_of_none q na)]; exact q
  refine ⟨I.ok, I.os, I.bare, ⟨I.base.keep, I.base.slot, fun b u q n hx => ?_, I.base.there, fun b xs q => far _ _ (I.base.tups b xs q), fun b u v q => far _ _ (I.base.frzs b u v q), fun b ps q => ?_⟩, I.loc, I.cell, ?_, fun x c e => ?_, fun p hp => ?_, HOk.laidN I.hok (fun _ _ q => q) na (xcO_ok he hz hd), I.len⟩
  · rw [upd_ne (fun z => by rw [z, n0] at q; cases q)]
    exact I.base.free b u q n hx
  · obtain ⟨more, q2⟩ := I.base.tbls b ps q
    exact ⟨more, far _ _ q2⟩
  · rw [upd_ne nL.symm]; exact I.free
  · have : c ≠ a := fun z => by
      obtain ⟨v, o, ho, hc⟩ := I.cell x c e
      rw [z, he] at ho
      cases ho
      rw [hd] at hc
      cases hc
    rw [upd_ne this]; exact I.freeC x c e
  · obtain ⟨p1, p2, p3⟩ := I.pin p hp
    exact ⟨p1, by rw [upd_ne (np p hp)]; exact p2, p3⟩
end
def wKeep (K : PySem.W.Frag) (c : Value) (i : Nat) (ts : Addr → Value → Option Addr → TS) (D : Ends) : WX := fun cls d σ H =>
  PySem.W.exmOne K cls c = some true ∧ ∀ a, H a = none → ts a cls d { nx := fun σ' H' => H' a = none ∧ D.nx (σ'.set i none) (upd H' a (XcO cls d a)), rt := fun _ _ => False, bk := fun _ _ => False, ct := fun _ _ => False } (σ.set i (some (.ref a))) H
section
variable {X : Cx} {x n : Str} {c : Value} {i : Nat} {body suite : List Stmt} {b₀ : Stmt} {np pos pos' : Pos} {tb : WX → TS} {ts : Addr → Value → Option Addr → TS}
theorem ps_try_keep (hs : X.stack = X.env :: X.outer) (hf : X.env.frame = some X.env.locals) (hx : X.ex = []) (hN : X.N.Nodup) (hi : X.N[i]? = some n) (hln : X.env.kindOf n = some .local) (hc : Names X x c)
    (hb : ∀ (W : WX) (pn : List (Addr × Obj)) (xe : Value → Shared → Prop), Takes (X.tr pn xe) W → PassesOwn (model X.prog X.w) X.A X.env xe → PSs (X.tr pn xe) body (tb W))
    (hsu : ∀ (a : Addr) (oe : Obj) (cls : Value) (d : Option Addr) (pn : List (Addr × Obj)), Zc cls d oe → (∃ vs, oe.data = .fields vs) → PSs (X.suite a ((a, oe) :: pn)) (b₀ :: suite) (ts a cls d)) :
    PS X (.Try body [.ExceptHandler (some (.Name x np)) (some n) (b₀ :: suite) pos'] [] [] pos) (fun D σ H => tb (wKeep X.K c i ts D) D σ H) := by
  refine ⟨fun pins s σ H D I h => ?_⟩
  have ok := I.ok
  have hfr : X.A.frames = some (X.env :: X.outer) := by rw [ok.frames, hs]
  refine wpAny_Try_except ?_
  have fly : Takes (X.tr (X.pn ++ pins) fun e s₁ => wpAny (model X.prog X.w) X.A (noteFrame e X.env) (fun _ s₂ => wpAny (model X.prog X.w) X.A (setFlight e none) (fun _ s₃ =>
      wpAny (model X.prog X.w) X.A (handleBy e X.env [.ExceptHandler (some (.Name x np)) (some n) (b₀ :: suite) pos']) (SP X pins D) X.xe s₃) X.xe s₂) X.xe s₁) (wKeep X.K c i ts D) := by
    rintro u s' ⟨a, B, sI, pins', σ', H', cls, d, rfl, J', nb, up, sky, na, os, ag, hb1, hyes⟩
    have J : Inv X pins σ' H' sI := J'.ofTry ok
    have sky' : Sky B (X.env :: X.outer) a (Zc cls d) X.env.locals s'.heap := by rw [← hs]; exact sky
    refine Sky.land Zc.steady hfr hf sky' fun h3 fl3 up3 => ?_
    have J3 : Inv X pins σ' H' { s' with heap := h3 } := J.landed nb fl3.1 (up.trans up3) os ag
    obtain ⟨oe3, vs3, he3, hz3, hd3⟩ := fl3.there
    have nfr : a ∉ frs (X.env :: X.outer) := fun hm => by
      obtain ⟨_, o', e', hnf⟩ := fl3.2.2.1.mem hm
      rw [he3] at e'
      cases e'
      exact hnf _ hd3
    have nL : a ≠ X.env.locals := fun z => nfr (List.mem_filterMap.mpr ⟨X.env, List.mem_cons_self, by rw [hf, z]⟩)
    have nF : a ∉ X.fs := fun hm => by
      obtain ⟨e, he, q⟩ := List.mem_filterMap.mp hm
      exact nfr (List.mem_filterMap.mpr ⟨e, List.mem_cons_of_mem _ he, q⟩)
    -- the exception is new
    have nI : sI.heap.get? a = none := by
      cases q : sI.heap.get? a with
      | none => rfl
      | some o =>
        have := nb a o q (by rw [show (X.tr (X.pn ++ pins) _).stack = X.stack from rfl, hs]; exact nfr)
        rw [fl3.2.1] at this
        cases this
    have n0 : X.s_0.heap.get? a = none := by
      cases q : X.s_0.heap.get? a with
      | none => rfl
      | some o =>
        obtain ⟨o', e'⟩ := J.base.there a o q (by rw [hx]; simp)
        rw [nI] at e'
        cases e'
    have nP : ∀ p ∈ X.pn ++ pins, p.1 ≠ a := fun p hp z => by
      have := (J.pin p hp).1
      rw [z, nI] at this
      cases this
    have S3 := J3.suite he3 hd3 na nL nF
    refine wpAny_handleBy_cons (codeAny_handlers_test ?_) (by intro q; cases q)
    have LT : PySem.W.Looks (model X.prog X.w) h3 (typeOf (.ref a)) cls := fun A Q E s k q => wpAny_typeOf_ref (k _ _ he3) (by rw [hz3.1]; exact q)
    have LM := PySem.W.exm_one (M := model X.prog X.w) (J3.kIn) LT hb1
    have test : ∀ {Q : Value → Shared → Prop} {E : Value → Shared → Prop}, Q c { s' with heap := h3 } → wpAny (model X.prog X.w) (X.A.mark (some (.ref a))) (eval (.Name x np) X.env) Q E { s' with heap := h3 } := fun {Q E} q => by
      obtain ⟨hg, hdbg, hm | ⟨hm, hv, hnn⟩⟩ := hc
      · exact ld_glob (X := X.suite a ((a, oe3) :: (X.pn ++ pins))) S3 hg hm q hdbg
      · exact ld_blt (X := X.suite a ((a, oe3) :: (X.pn ++ pins))) S3 hg hm hv q hnn hdbg
    refine test (LM.here ?_)
    refine codeAny_handlers_suite_as ?_
    refine HandSPX.lands_againZ fl3 fun h4 fl4 up4 => ?_
    have J4 : Inv X pins σ' H' { s' with heap := h4 } := J.landed nb fl4.1 ((up.trans up3).trans up4) os ag
    obtain ⟨oe4, vs4, he4, hz4, hd4⟩ := fl4.there
    have S4 := J4.suite he4 hd4 na nL nF
    refine store_ok (X := X.suite a ((a, oe4) :: (X.pn ++ pins))) (v := .ref a) S4 hN hi (.inl hln) rfl (fun s5 S5 => ?_) (.inr hln)
    refine wpAny_mono ((hsu a oe4 cls d (X.pn ++ pins) hz4 ⟨_, hd4⟩).run [] s5 _ H' _ S5 (hyes a na)) (fun f s6 hsp => ?_) (fun _ _ z => False.elim z)
    cases f with
    | next =>
      obtain ⟨σ6, H6, S6, q5, q6⟩ := hsp
      have pa := S6.pin (a, oe4) (by simp)
      have T6 : Inv X pins σ6 (upd H6 a (XcO cls d a)) s6 := (S6.unsuite ok).track pa.1 hz4 hd4 q5 nL nP n0
      exact gone_ok T6 hN hi hln fun s7 J7 => ⟨_, _, J7, q6⟩
    | brk =>
      obtain ⟨σ6, H6, S6, q6⟩ := hsp
      exact q6.elim
    | cont =>
      obtain ⟨σ6, H6, S6, q6⟩ := hsp
      exact q6.elim
    | ret u =>
      obtain ⟨v6, σ6, H6, S6, r6, q6⟩ := hsp
      exact q6.elim
  refine wpAny_mono ((hb _ (X.pn ++ pins) _ fly PassesOwn.looking).run [] s σ H D (I.toTry _) h) (fun f s1 hsp => ?_) (fun e s1 he => he)
  cases f with
  | next =>
    obtain ⟨σ', H', J', q⟩ := hsp
    exact wpAny_execs_nil ⟨σ', H', J'.ofTry ok, q⟩
  | brk =>
    obtain ⟨σ', H', J', q⟩ := hsp
    exact ⟨σ', H', J'.ofTry ok, q⟩
  | cont =>
    obtain ⟨σ', H', J', q⟩ := hsp
    exact ⟨σ', H', J'.ofTry ok, q⟩
  | ret u =>
    obtain ⟨v, σ', H', J', r, q⟩ := hsp
    exact ⟨v, σ', H', J'.ofTry ok, r, q⟩
end
end RM

namespace RM
open PySem PySem.Spec PyProof.Rows L2
variable [PgW]
section
variable {X : Cx} {pins : List (Addr × Obj)} {σ : L2.St} {H : Hp} {s : Shared}
end
section
variable {X : Cx} {pins : List (Addr × Obj)} {σ : L2.St} {H : Hp} {s : Shared}
end
end RM

namespace RM
open PySem PySem.Spec PyProof.Rows L2
variable [PgW]
theorem SlotsR.getL {K : PySem.W.Frag} {p : List (List Addr)} {G H : Hp} : ∀ {t : DSt} {σ : L2.St} {ow : List Addr} {i : Nat} {v : V} {R : List (List Addr) → Hp → Prop}, SlotsR K p G H t σ ow → t[i]? = some (some (.lam v R)) → σ[i]? = some (some v) ∧ R p G
  | [], _, _, _, _, _, _, e => by simp at e
  | _ :: _, _, _, 0, v, R, ⟨u, r, l, k, h1, h2, h3, _⟩, e => by
    simp only [List.getElem?_cons_zero, Option.some.injEq] at e
    subst e
    obtain ⟨e1, e2, e3⟩ := h3
    exact ⟨by rw [h1, e2]; rfl, e3 p G ⟨[], by simp⟩ (Same.refl _)⟩
  | _ :: _, _, _, i + 1, v, R, ⟨u, r, l, k, h1, h2, _, h4⟩, e => by
    obtain ⟨e1, e2⟩ := SlotsR.getL (i := i) h4 (by simpa using e)
    exact ⟨by rw [h1]; simpa using e1, e2⟩
def tryM (z0 y0 : D) (cs : List Str) (mw : M D) : M (D × D) := fun S => match mw S with
  | .ok d S' => .ok (d, y0) S'
  | .exc x S' => if x.cls ∈ cs then .ok (z0, .xcp x.cls x.ns x.fs) S' else .stuck
  | .stuck => .stuck
def tryE (y0 : D) (cs : List Str) (mw : M D) : M D := fun S => match mw S with
  | .ok _ S' => .ok y0 S'
  | .exc x S' => if x.cls ∈ cs then .ok (.xcp x.cls x.ns x.fs) S' else .stuck
  | .stuck => .stuck
theorem excAt_den {K : PySem.W.Frag} {p : List (List Addr)} {G : Hp} {x : Exc} {cls : Value} {dd : Option Addr} {a : Addr} (h : ExcAt K p G x cls dd) (ha : G a = none) : cls = .ref (He.ga K x.cls) ∧ Den K p (upd G a (XcO cls dd a)) (.xcp x.cls x.ns x.fs) (.ref a) := by
  have sm : Same G (upd G a (XcO cls dd a)) := Same.upd_of ha
  cases dd with
  | none =>
    obtain ⟨rfl, e1, e2⟩ := h
    rw [e1, e2]
    exact ⟨rfl, a, none, [], rfl, upd_same, .inl ⟨rfl, rfl⟩, rfl, rfl⟩
  | some d =>
    obtain ⟨rfl, vs, h1, h2, h3⟩ := h
    exact ⟨rfl, a, some d, vs, rfl, upd_same, .inr ⟨d, rfl, sm _ _ h1⟩, h2, h3.mono ⟨[], by simp⟩ sm⟩
section
variable {X : Cx} {W : Wf} {g : DSt} {a n y z x : Str} {f c CS : Addr} {q : Str} {gm : DSt} {σm : L2.St} {mw : M D} {cs : List Str} {p1 p2 p3 p4 p5 p6 p7 p8 np pos' pos : Pos}
theorem keep_end {nn : Snap} {p : List (List Addr)} {G H : Hp} {S S' : Sto} {σ : L2.St} {ow : List Addr} {i j : Nat} {x0 : Exc} {g2 : DSt} (r : RelF X.K nn p G S H g σ ow) (hi : i < g.length) (hj : j < g.length) (hij : i ≠ j) (gi : g[i]? = some none) {K' : Value → Option Addr → Hp → Prop}
    (E : Ends) (he : ∀ (v : D), v = .xcp x0.cls x0.ns x0.fs → ∀ p' G' H' σ' ow', RelF X.K nn p' G' S' H' (g.set j (some (.val v))) σ' ow' → E.nx σ' H') (hcs : x0.cls ∈ cs) (hex : ∀ c ∈ cs, PySem.W.exmOne X.K (.ref (He.ga X.K c)) (.ref CS) = some true) :
    ∀ cls dd p' G' H', ExcAt X.K p' G' x0 cls dd → Rel0 X.K p' S' G' H' → Ext p G H p' G' H' → wKeep X.K (.ref CS) i (fun _ _ _ => tAsg (tVar i) (gName j)) E cls dd σ H' := by
  intro cls dd p' G' H' xa r1 x1
  refine ⟨?_, fun a ha => ?_⟩
  · cases dd with
    | none => obtain ⟨rfl, _⟩ := xa; exact hex _ hcs
    | some d => obtain ⟨rfl, _⟩ := xa; exact hex _ hcs
  · have hl := r.rs.sl.len
    refine ⟨.ref a, by rw [List.getElem?_set_self (by omega)], ha, ?_⟩
    have ga : G' a = none := Same.free r1.sub ha
    obtain ⟨hcl, dn⟩ := excAt_den xa ga
    obtain ⟨r2, x2⟩ := r1.new (XcO cls dd a) ha
    have rf := (r.step x1 r1).step x2 r2
    obtain ⟨ow', rf'⟩ := rf.set0 (i := j) hj (s := some (.val (.xcp x0.cls x0.ns x0.fs))) (v := some (.ref a)) ⟨rfl, _, rfl, dn⟩
    obtain ⟨ow2, rf2⟩ := rf'.set0 (i := i) (by rw [List.length_set]; exact hi) (s := none) (v := none) rfl
    have e1 : (g.set j (some (.val (.xcp x0.cls x0.ns x0.fs)))).set i none = g.set j (some (.val (.xcp x0.cls x0.ns x0.fs))) := by
      apply List.ext_getElem?
      intro k
      rw [List.getElem?_set]
      split
      · rename_i e
        subst e
        rw [List.getElem?_set_ne (Ne.symm hij), gi, if_pos (by rw [List.length_set]; exact hi)]
      · rfl
    have e2 : ((σ.set i (some (V.ref a))).set j (some (.ref a))).set i none = (σ.set j (some (.ref a))).set i none := by
      rw [List.set_comm _ _ hij, List.set_set]
    rw [e1] at rf2
    rw [e2]
    exact he _ rfl _ _ _ _ _ rf2
theorem set_same {k : Nat} {v : Option DV} (h : g[k]? = some v) : g.set k v = g := by
  apply List.ext_getElem?
  intro m
  rw [List.getElem?_set]
  split
  · rename_i e
    subst e
    rw [h, if_pos (List.getElem?_eq_some_iff.mp h).1]
  · rfl
end
end RM

namespace RM
open PySem PySem.Spec PyProof.Rows L2
variable [PgW]
def tabbed {α : Type} (j : Nat) (fnm q : Str) (m : M α) : M α := fun S => match S[j]? with
  | some (.tab n' q') => if n' = fnm ∧ q' = q then m S else .stuck
  | _ => .stuck
def valsOnly : DSt → DSt
  | [] => []
  | some (.val d) :: t => some (.val d) :: valsOnly t
  | some (.lam v R) :: t => some (.lam v R) :: valsOnly t
  | _ :: t => none :: valsOnly t
section
variable {K : PySem.W.Frag} {p : List (List Addr)} {S : Sto} {G H : Hp}
theorem Rel0.tab (r : Rel0 K p S G H) {j : Nat} {fnm q : Str} (hs : S[j]? = some (.tab fnm q)) : p[j]? = some [(He.cT K (fnm, none)).2] ∧ ∃ ps, H (He.cT K (fnm, none)).2 = some (.tbl ps) ∧ TriplesOk ps.toList ∧ ∀ (pos : Pos) (cv : Value), codeAmong pos ps.toList = some cv → ∃ c, cv = .ref c ∧ G c = some (LamX.CodeO c q) := by
  have hj : j < p.length := by rw [r.len]; exact (List.getElem?_eq_some_iff.mp hs).1
  have e : p[j]? = some p[j] := List.getElem?_eq_getElem hj
  have m := r.mo j _ _ e hs
  match as : p[j], m with
  | [x], m =>
    obtain ⟨rfl, h⟩ := m
    exact ⟨by rw [e, as], h⟩
  | [], m => exact m.elim
  | _ :: _ :: _, m => exact absurd m (by unfold MoAt; simp)
end
section
variable {X : Cx} {W : WX} {g : DSt} {x a nm ql : Str} {gA : Addr} {fd : FuncData} {pg : Arguments} {bg : List Stmt} {sg : Scope} {dvs : List V} {kws : List (Str × V)} {Ng : List Str} {k j : Nat} {fnm q : Str} {params : Arguments} {body : Expr} {scope : Scope} {mw hear : M D} {p lpos pos : Pos}
end
end RM

namespace RM
open PySem PySem.Spec PyProof.Rows L2
variable [PgW]
section
variable {α : Type} {X : Cx} {W : Wf} {g : DSt} {I : IC α} {rest : List Stmt} {C fI : Addr} {fl sf pr txt name qual c : Str} {params : Arguments} {scope : Scope} {j k : Nat} {p0 p1 p2 p3 p4 p5 p6 p7 p8 p9 p pos pos' : Pos} {a0 : Arg} {e : Expr} {me : M D}
theorem xs_raiseS (Z : SupC X.prog X.K (He.ga X.K c) fI fl name qual params (supB txt sf fl pr j p0 p1 p2 p3 p4 p5 p6 p7 p8 p9) scope) (S : SupS scope sf pr) (hp : (params.posonlyargs ++ params.args).head? = some a0) (hl : (p2.endLine == p4.line) = true) (h0 : a0.arg = sf)
    (hb : ∀ (kV doc pm : Value) (an : Option Addr) (cdv ct : Value) (cl : List (Str × Addr)) (v1 v2 : Value), bindArgs (PySem.W.fnX name qual params (supB txt sf fl pr j p0 p1 p2 p3 p4 p5 p6 p7 p8 p9) scope cl .none kV doc pm an cdv ct) ⟨[v1, v2], []⟩ = pure [(sf, v1), (pr, v2)])
    (hr : Room (k + 1) X.A) (hc : X.calm = true) (tk : Takes X W.x) (hsu : X.mg "super" = none) (hg : Gl X c) (hm : X.mg c = some (.ref (He.ga X.K c))) (he : XE X W.x g e me) (hdb : (c == ("__debug__" : Str)) = false := by decide) (hst : starEach [e] X.env = [(false, eval e X.env)] := by rfl) :
    XS X W g I (.Raise (some (.Call (.Name c p) [e] [] pos)) none pos' :: rest) (B me fun d => raise ⟨c, [fl], [d]⟩) := by
  refine PSs.imp (pss_cons (ps_raise hc tk (pmk_sup Z S hp hl h0 hb hr hsu hg hm he hdb hst)) pss_never) fun E σ H ⟨n, p, G, S, ow, r, q⟩ => ?_
  refine ⟨p, G, S, ow, r.rs, okG.seq q r fun d S1 v p1 G1 H1 e1 dn r1 x1 h1 dd hdd => ?_⟩
  obtain ⟨r2, x2⟩ := r1.rs.rel.new (.xd [(fl, v)]) hdd
  exact h1 _ (some dd) p1 _ _ ⟨rfl, [v], upd_same, rfl, DenL.one (dn.upd (r1.rs.rel.gfree hdd))⟩ r2 (r1.ext.trans x2)
structure TxtC (K : PySem.W.Frag) (C : Addr) : Prop where
  ex : PySem.W.excIn K C PySem.HandSPX.veTail "ValueError.__new__" = true
  kp : PySem.W.keepIn K (.ref C) = true
  sb : PySem.W.subIn K (.ref C) (.type "BaseException") = some true
  ty : PySem.W.typeIn K (.ref C) = some (.type "type")
theorem xs_raiseT {m : Str} (Z : TxtC X.K (He.ga X.K c)) (hc : X.calm = true) (tk : Takes X W.x) (hg : Gl X c) (hm : X.mg c = some (.ref (He.ga X.K c))) (hdb : (c == ("__debug__" : Str)) = false := by decide) :
    XS X W g I (.Raise (some (.Call (.Name c p) [.Constant (.str m) j p2] [] pos)) none pos' :: rest) (raise ⟨c, [], []⟩) := by
  refine PSs.imp (pss_cons (ps_raise hc tk (pmk_own PySem.F.excBase_ValueError Z.ex hm Z.kp (raises_own Z.sb Z.ty) hg hdb)) pss_never) fun E σ H ⟨n, p, G, S, ow, r, q⟩ => ?_
  exact q _ none p G H ⟨rfl, rfl, rfl⟩ r.rs.rel r.ext
end
def subE (c : Str) : Ty → Bool
  | .o e => decide (c = e) || decide (e = "PriceError")
  | .b _ => true
def tyE (ex : List Str) : Ty → Bool
  | .o e => decide (e ∈ ex)
  | .b n => decide (n = "ValueError")
def isiE (ex : List Str) (t : Ty) (d : D) : M D := match d with
  | .non => if tyE ex t = true then pure (.bl false) else stuck
  | .xcp c _ _ => if c ∈ ex ∧ tyE ex t = true then pure (.bl (subE c t)) else stuck
  | _ => stuck
def excB (K : PySem.W.Frag) (ex : List Str) : Bool := ex.all fun c =>
  He.eqO (PySem.W.findIn K (.ref (He.ga K c)) "__getattribute__") (some (some (.builtin "BaseException.__getattribute__"))) && He.eqO (PySem.W.findIn K (.ref (He.ga K c)) "__getattr__") (some none) && decide (PySem.W.subIn K (.ref (He.ga K c)) (.type "BaseException") = some true) && PySem.W.hasDictIn K (He.ga K c) &&
  He.eqO (PySem.W.findIn K (.ref (He.ga K c)) "__class__") (some (some (.builtin "object.__class__"))) && He.eqO (PySem.W.specialIn K (.builtin "object.__class__") "__get__") (some (some (.builtin "getset_descriptor.__get__"))) && decide (PySem.W.takesIn K (.builtin "object.__class__") = some true) &&
  decide (PySem.W.mroIn K (He.ga K c) (.type "object") = some true) && decide (PySem.W.kitOne K (.ref (He.ga K c)) (.type "ValueError") = some true) && decide (PySem.W.kitOne K (.type "NoneType") (.ref (He.ga K c)) = some false) &&
  ex.all fun e => decide (PySem.W.kitOne K (.ref (He.ga K c)) (.ref (He.ga K e)) = some (subE c (.o e)))
structure ExT (K : PySem.W.Frag) (ex : List Str) : Prop where
  xc : ∀ c ∈ ex, L2.ExcC K (He.ga K c)
  ve : ∀ c ∈ ex, PySem.W.kitOne K (.ref (He.ga K c)) (.type "ValueError") = some true
  nn : ∀ c ∈ ex, PySem.W.kitOne K (.type "NoneType") (.ref (He.ga K c)) = some false
  oo : ∀ c ∈ ex, ∀ e ∈ ex, PySem.W.kitOne K (.ref (He.ga K c)) (.ref (He.ga K e)) = some (subE c (.o e))
theorem excB_ok {K : PySem.W.Frag} {ex : List Str} (h : excB K ex = true) : ExT K ex := by
  have k : ∀ c ∈ ex, _ := fun c hc => List.all_eq_true.mp h c hc
  simp only [Bool.and_eq_true, List.all_eq_true, decide_eq_true_eq] at k
  exact ⟨fun c hc => ⟨He.eqO_ok (k c hc).1.1.1.1.1.1.1.1.1.1, He.eqO_ok (k c hc).1.1.1.1.1.1.1.1.1.2, (k c hc).1.1.1.1.1.1.1.1.2, (k c hc).1.1.1.1.1.1.1.2, He.eqO_ok (k c hc).1.1.1.1.1.1.2, He.eqO_ok (k c hc).1.1.1.1.1.2, (k c hc).1.1.1.1.2, (k c hc).1.1.1.2⟩,
    fun c hc => (k c hc).1.1.2, fun c hc => (k c hc).1.2, fun c hc e he => (k c hc).2 e he⟩
theorem kit_nve {K : PySem.W.Frag} : PySem.W.kitOne K (.type "NoneType") (.type "ValueError") = some false := kit_ty (by decide +kernel)
theorem xc_inst {P : Program} {w : World} {H : Hp} {h : Heap} {a C : Addr} {dd : Option Addr} (hok : HOk P w H h) (e : H a = some (XcO (.ref C) dd a)) (hd : dd = none ∨ ∃ d fs, dd = some d ∧ H d = some (.xd fs)) : ∃ oe od, PySem.W.InstAt h a oe C od := by
  obtain ⟨oe, vs, e1, z, e2⟩ := (show ObjOk P w H h a (.ext _) from hok a _ e).1
  obtain ⟨oc, od, oda, osl⟩ := oe
  obtain ⟨h1, h2⟩ := z
  dsimp only at h1 h2 e2
  subst h1 h2 e2
  rcases hd with rfl | ⟨d, fs, rfl, q⟩
  · exact ⟨_, none, e1, rfl, rfl, trivial⟩
  · obtain ⟨mA, ⟨o, es, ep, q1, _⟩, _⟩ := (show ObjOk P w H h d (.xd fs) from hok d _ q)
    exact ⟨_, some o, e1, rfl, rfl, q1⟩
def rIsX (K : PySem.W.Frag) (ex : List Str) : List V → Hp → VK → Prop := fun xs H Q => ∃ (x : V) (t : Ty), xs = [x, tyV' K t] ∧ tyE ex t = true ∧
  ((x = .non ∧ Q (.bl false) H) ∨ ∃ a c dd, x = .ref a ∧ c ∈ ex ∧ H a = some (XcO (.ref (He.ga K c)) dd a) ∧ (dd = none ∨ ∃ d fs, dd = some d ∧ H d = some (.xd fs)) ∧ Q (.bl (subE c t)) H)
theorem kit_exc {K : PySem.W.Frag} {ex : List Str} (T : ExT K ex) {c : Str} (hc : c ∈ ex) {t : Ty} (ht : tyE ex t = true) : PySem.W.kitOne K (.ref (He.ga K c)) (tyVal K t) = some (subE c t) := by
  cases t with
  | b n => rw [show n = "ValueError" from of_decide_eq_true ht]; exact T.ve c hc
  | o e => exact T.oo c hc e (of_decide_eq_true ht)
theorem kit_excN {K : PySem.W.Frag} {ex : List Str} (T : ExT K ex) {t : Ty} (ht : tyE ex t = true) : PySem.W.kitOne K (.type "NoneType") (tyVal K t) = some false := by
  cases t with
  | b n => rw [show n = "ValueError" from of_decide_eq_true ht]; exact kit_nve
  | o e => exact T.nn e (of_decide_eq_true ht)
theorem call_isX {X : Cx} {ex : List Str} (T : ExT X.K ex) : CallR X (.builtin "isinstance") (rIsX X.K ex) := by
  intro pins s σ H xs us Q I r h
  obtain ⟨x, t, rfl, ht, q⟩ := h
  obtain ⟨u1, u2, rfl, r1, r2⟩ := vals2 r
  have e2 := (clsV_of (K := X.K) t).eq r2
  subst e2
  rcases q with ⟨rfl, q⟩ | ⟨a, c, dd, rfl, hc, ha, hd, q⟩
  · cases (show u1 = Value.none from r1)
    exact PySem.W.kia_one PySem.W.kitx_none I.kIn True.intro (kit_excN T ht) (fun z => nomatch z) fun tk => ⟨.bl false, H, I.tok tk, rfl, q⟩
  · cases (show u1 = Value.ref a from r1)
    obtain ⟨oe, od, J⟩ := xc_inst I.hok ha hd
    have E := T.xc c hc
    have hcl : (PySem.W.clsIn X.K (He.ga X.K c)).isSome = true := by
      obtain ⟨cd, hc, _⟩ := PySem.W.any_some E.hd
      rw [hc]
      rfl
    exact PySem.W.kia_one (PySem.W.kitx_exc hcl E.hg E.hk E.hs E.ha E.hn E.ht E.hm) I.kIn J (kit_exc T hc ht) (fun z => nomatch z) fun tk => ⟨.bl _, H, I.tok tk, rfl, q⟩
section
variable {X : Cx} {W : WX} {g : DSt} {a b : Expr} {ma : M D} {pos p : Pos} {ex : List Str}
theorem xe_isiE (T : ExT X.K ex) (t : Ty) (hg : Gl X "isinstance") (hm : X.mg "isinstance" = none) (ha : XE X W g a ma) (hb : PE X b (tC (tyV' X.K t))) (hs : starEach [a, b] X.env = (false, eval a X.env) :: starEach [b] X.env := by rfl) (hs2 : starEach [b] X.env = [(false, eval b X.env)] := by rfl)
    (hpl : (backTo pos (starEach [b] X.env)).any (·.1) = false := by rfl) : XE X W g (.Call (.Name "isinstance" p) [a, b] [] pos) (B ma (isiE ex t)) := by
  refine PE.imp (pe_callB (call_isX T) hg hm (by decide +kernel) (pa_cons ha (pa_cons hb pa_nil hs2) hs) (by decide) (by decide) hs hpl) fun σ H Q ⟨q, G, S, ow, r, h⟩ => ?_
  refine ⟨q, G, S, ow, r, okR.seq h fun d S1 v p1 G1 H1 e1 dn r1 x1 h1 => ?_⟩
  unfold isiE at h1
  split at h1
  · cases (show v = V.non from dn)
    by_cases ht : tyE ex t = true
    · rw [if_pos ht] at h1
      exact ⟨.non, t, rfl, ht, .inl ⟨rfl, okR.fin (d := D.bl false) (v := V.bl false) h1 rfl r1⟩⟩
    · rw [if_neg ht] at h1; exact h1.elim
  · rename_i c ns fs
    obtain ⟨a', dd, vs, rfl, ga, hd, _⟩ := dn
    by_cases ht : c ∈ ex ∧ tyE ex t = true
    · rw [if_pos ht] at h1
      refine ⟨.ref a', t, rfl, ht.2, .inr ⟨a', c, dd, rfl, ht.1, r1.sub _ _ ga, ?_, okR.fin (d := D.bl _) (v := V.bl _) h1 rfl r1⟩⟩
      rcases hd with ⟨_, e⟩ | ⟨d, e1, e2⟩
      · exact .inl e
      · exact .inr ⟨d, _, e1, r1.sub _ _ e2⟩
    · rw [if_neg ht] at h1; exact h1.elim
  · exact h1.elim
end
def fldE (ex : List Str) (tb : List (Str × Str)) (f : Str) (d : D) : M D := fun S => match d with
  | .xcp c ns fs => if c ∈ ex ∧ (c, f) ∈ tb then match lookF ns fs f with
      | some x => .ok x S
      | none => .stuck
    else .stuck
  | _ => .stuck
def xfldB (K : PySem.W.Frag) (tb : List (Str × Str)) : Bool := tb.all fun q => He.eqO (PySem.W.findIn K (.ref (He.ga K q.1)) q.2) (some none)
theorem xfldB_ok {K : PySem.W.Frag} {tb : List (Str × Str)} (h : xfldB K tb = true) : ∀ q ∈ tb, PySem.W.findIn K (.ref (He.ga K q.1)) q.2 = some none := fun q hq => He.eqO_ok (List.all_eq_true.mp h q hq)
theorem xe_fldE {X : Cx} {W : WX} {g : DSt} {o : Expr} {mo : M D} {ex : List Str} {tb : List (Str × Str)} (f : Str) {pos : Pos} (T : ExT X.K ex) (hf : ∀ q ∈ tb, PySem.W.findIn X.K (.ref (He.ga X.K q.1)) q.2 = some none) (ho : XE X W g o mo) (hb : attributeBase o f X.env (eval o X.env) = eval o X.env := by rfl) :
    XE X W g (.Attribute o f pos) (B mo (fldE ex tb f)) := by
  refine ⟨fun pins s σ H Q I ⟨q, G, S, ow, r, h⟩ => ?_⟩
  refine attr_of hb (thn (ho.run pins s σ H (fun x H1 => ∃ a c d fs v, x = .ref a ∧ c ∈ ex ∧ (c, f) ∈ tb ∧ H1 a = some (XcO (.ref (He.ga X.K c)) (some d) a) ∧ H1 d = some (.xd fs) ∧ fs.lookup f = some v ∧ Q v H1) I ⟨q, G, S, ow, r, okR.seq h fun d S1 v p1 G1 H1 e1 dn r1 x1 h1 => ?_⟩) fun u s1 hh => ?_)
  · unfold fldE at h1
    cases d <;> try exact h1.elim
    rename_i c ns fs
    obtain ⟨a', dd, vs, rfl, ga, hd, hl, dl⟩ := dn
    dsimp only at h1
    by_cases hz : c ∈ ex ∧ (c, f) ∈ tb
    · rw [if_pos hz] at h1
      cases lk : lookF ns fs f with
      | none => rw [lk] at h1; exact h1.elim
      | some y =>
        rw [lk] at h1
        obtain ⟨vy, ly, dy⟩ := lookF_den dl lk
        rcases hd with ⟨rfl, _⟩ | ⟨d, rfl, gd⟩
        · cases fs <;> cases lk
        · exact ⟨a', c, d, _, vy, rfl, hz.1, hz.2, r1.sub _ _ ga, r1.sub _ _ gd, ly, okR.fin (d := y) (v := vy) h1 dy r1⟩
    · rw [if_neg hz] at h1; exact h1.elim
  · obtain ⟨x, H1, I1, rx, a, c, d, fs, v, rfl, hc, ht, ha, hd, hl, q⟩ := hh
    obtain rfl : u = Value.ref a := rx
    have E := T.xc c hc
    obtain ⟨oe, vs, e1, z, e2⟩ := (show ObjOk X.prog X.w H1 s1.heap a (.ext _) from I1.hok a _ ha).1
    obtain ⟨mA, hns, hr⟩ := (show ObjOk X.prog X.w H1 s1.heap d (.xd fs) from I1.hok d _ hd)
    obtain ⟨od, ho, hl2⟩ := lookIn_ns hns
    obtain ⟨u, hu, ru⟩ := RelO.some_of (v := v) (o := mA f) (by rw [← hl]; exact hr f)
    have J : PySem.W.InstAt s1.heap a oe (He.ga X.K c) (some od) := ⟨e1, z.1, by unfold PySem.W.notCls; rw [e2] <;> rfl, by rw [z.2]; exact ho⟩
    exact HandSPX.exc_get I1.kIn J E.hg E.hk E.hs (PySem.W.findObj_own E.hd (hf (c, f) ht) rfl (by rw [hl2, hu])) (handed_of ru) ⟨v, H1, I1.tok _, ru, q⟩
end RM

namespace RM
open PySem PySem.Spec PyProof.Rows L2
variable [PgW]
def outE (o : Obj) : List Addr := match o.data with
  | .func fd => He.refV fd.code ++ (He.refV fd.defaults ++ (He.refV fd.kwdefaults ++ fd.closure.map fun q => q.2))
  | _ => outL o
def lvE (g : Addr → Option Obj) : Nat → List Addr → List Addr
  | 0, as => as
  | n + 1, as => as ++ lvE g n ((as.flatMap fun a => match g a with
    | some o => outE o
    | none => []).filter fun a => Nat.blt 3 a)
abbrev asE (n : Nat) (g : Addr → Option Obj) : List Addr := cStatics :: lvE g n [mainGlobals]
abbrev frE (n : Nat) (g : Addr → Option Obj) : PySem.W.Frag := He.frT g (asE n g)
def oexB (K : PySem.W.Frag) (C : Addr) : Bool := (match K.lookup C with
  | some ⟨.type t, _, .cls cd, sl⟩ => decide (t = "type") && (match cd.mro with | .ref c :: bm => decide (c = C) && PySem.HandSPX.refsVE bm | _ => false) && cd.hasDict && !cd.hasDel && (match sl.toList with | [_, _, _, _, some (.builtin n), _] => decide (n = "ValueError.__new__") | _ => false)
  | _ => false) && He.eqO (PySem.W.findIn K (.ref C) "__setattr__") (some (some (.builtin "object.__setattr__"))) && decide (PySem.W.subIn K (.ref C) (.type "BaseException") = some true) && decide (PySem.W.typeIn K (.ref C) = some (.type "type")) && PySem.W.keepIn K (.ref C)
theorem oexB_ok {K : PySem.W.Frag} {C : Addr} (h : oexB K C = true) : OexC K C := by
  unfold oexB at h
  simp only [Bool.and_eq_true, decide_eq_true_eq] at h
  obtain ⟨⟨⟨⟨h1, h2⟩, h3⟩, h4⟩, h5⟩ := h
  refine ⟨?_, He.eqO_ok h2, h3, h4, h5⟩
  split at h1
  · rename_i t dd cd sl lk
    simp only [Bool.and_eq_true, decide_eq_true_eq, Bool.not_eq_true'] at h1
    obtain ⟨⟨⟨⟨rfl, hm⟩, hd⟩, hn⟩, hs⟩ := h1
    split at hm
    · rename_i c bm em
      simp only [Bool.and_eq_true, decide_eq_true_eq] at hm
      obtain ⟨rfl, hb⟩ := hm
      split at hs
      · rename_i k0 k1 k2 k3 n k5 es
        have en : n = "ValueError.__new__" := of_decide_eq_true hs
        subst en
        obtain ⟨nm, bs, mro, ns, qn, hdd, sn, sub, ab, col, del⟩ := cd
        dsimp only at em hd hn
        subst em hd hn
        obtain ⟨l⟩ := sl
        dsimp only at es
        subst es
        exact ⟨nm, qn, ns, bs, bm, sn, sub, ab, col, dd, k0, k1, k2, k3, k5, lk, hb⟩
      · cases hs
    · cases hm
  · cases h1
def txtB (K : PySem.W.Frag) (C : Addr) : Bool := PySem.W.excIn K C PySem.HandSPX.veTail "ValueError.__new__" && PySem.W.keepIn K (.ref C) && decide (PySem.W.subIn K (.ref C) (.type "BaseException") = some true) && decide (PySem.W.typeIn K (.ref C) = some (.type "type"))
theorem txtB_ok {K : PySem.W.Frag} {C : Addr} (h : txtB K C = true) : TxtC K C := by
  unfold txtB at h
  simp only [Bool.and_eq_true, decide_eq_true_eq] at h
  exact ⟨h.1.1.1, h.1.1.2, h.1.2, h.2⟩
structure SupD where
  cls : Str
  fl : Str
  name : Str
  qual : Str
  params : Arguments
  body : List Stmt
  scope : Scope
abbrev SupW : Type := Option (Str × Str × Arguments × FuncBody × Scope × Addr × List Str × Addr)
abbrev SupD.f (d : SupD) (K : PySem.W.Frag) : Addr := He.ma K (He.ga K d.cls) "__init__"
def supW (K : PySem.W.Frag) (d : SupD) : SupW := match K.lookup (d.f K) with
  | some ⟨_, _, .func fd, _⟩ => some (fd.name, fd.qualname, fd.params, fd.body, fd.scope, fd.globals, fd.closure.map (fun q => q.1), fd.builtins)
  | _ => none
def SupD.val (d : SupD) : SupW := some (d.name, d.qual, d.params, .stmts d.body, d.scope, mainGlobals, ["__class__"], builtinsNs)
def supOk (file : Str) (K : PySem.W.Frag) (d : SupD) : Bool := oexB K (He.ga K d.cls) && He.eqO (PySem.W.findIn K (.ref (He.ga K d.cls)) "__init__") (some (some (.ref (d.f K)))) && decide (PySem.W.typeIn K (.ref (d.f K)) = some (.type "function")) && He.eqO (PySem.W.findIn K (.ref (He.ga K d.cls)) d.fl) (some none) &&
  (match K.lookup (d.f K) with
  | some ⟨_, _, .func fd, _⟩ => (match fd.code, fd.closure with
    | .ref cda, [(_, cc)] => (match fd.defaults with | .none => true | _ => false) && PySem.W.codeIn K (.ref cda) d.qual && (match K.lookup cda with
      | some ⟨_, _, .fields vs, _⟩ => (match (vs[2]? : Option Value) with
        | some (.str f _) => file == f
        | _ => false)
      | _ => false) && (match K.lookup cc with
      | some ⟨_, _, .cell (some (.ref C')), _⟩ => decide (C' = He.ga K d.cls)
      | _ => false)
    | _, _ => false)
  | _ => false) && He.eqO (PySem.W.nsIn K cStatics "thirdparty.any") (some none) && He.eqO (PySem.W.ks_superIn K (He.ga K d.cls) (He.ga K d.cls) "__init__") (some (some (.builtin "ValueError.__init__"))) &&
  decide (PySem.W.subIn K (.ref (He.ga K d.cls)) (.type "ValueError") = some true) && decide (PySem.W.mroIn K (He.ga K d.cls) (.ref (He.ga K d.cls)) = some true)
theorem supOk_ok {prog : Program} {K : PySem.W.Frag} {d : SupD} (h : supOk prog.main.file K d = true) (hw : supW K d = d.val) (ht : (prog.main.scope.names.lookup ("super" : Str)).isSome = false) : SupC prog K (He.ga K d.cls) (d.f K) d.fl d.name d.qual d.params d.body d.scope := by
  unfold supOk at h
  simp only [Bool.and_eq_true, decide_eq_true_eq] at h
  obtain ⟨⟨⟨⟨⟨⟨⟨⟨h1, h2⟩, h3⟩, h4⟩, h5⟩, h6⟩, h7⟩, h8⟩, h9⟩ := h
  refine ⟨oexB_ok h1, He.eqO_ok h2, h3, He.eqO_ok h4, ?_, He.eqO_ok h6, He.eqO_ok h7, h8, h9, ht⟩
  clear h1 h2 h3 h4 h6 h7 h8 h9
  obtain ⟨cls, fl, name, qual, params, body, scope⟩ := d
  dsimp only [SupD.f, SupD.val] at *
  generalize hf : He.ma K (He.ga K cls) "__init__" = f at *
  unfold supW at hw
  dsimp only [SupD.f] at hw
  rw [hf] at hw
  cases lk : K.lookup f with
  | none => rw [lk] at hw; cases hw
  | some o =>
    obtain ⟨oc, od, dt, osl⟩ := o
    rw [lk] at hw h5
    cases dt <;> try cases hw
    rename_i fd
    dsimp only at hw h5
    obtain ⟨nm, q, ps, bd, sc, gl, cl, df, kw, doc, pm, an, cd, ct, bl⟩ := fd
    dsimp only at hw h5
    split at h5
    · rename_i cda x cc
      simp only [Bool.and_eq_true] at h5
      obtain ⟨⟨⟨g0, g1⟩, g2⟩, g3⟩ := h5
      have hw' := Option.some.inj hw
      simp only [Prod.mk.injEq, List.map_cons, List.map_nil, List.cons.injEq, and_true] at hw'
      obtain ⟨rfl, rfl, rfl, rfl, rfl, rfl, rfl, rfl⟩ := hw'
      have hdf : df = .none := by cases df <;> first | rfl | cases g0
      subst hdf
      split at g2
      · rename_i ccl cdd vs ccs lc
        split at g2
        · rename_i fs tf ev
          split at g3
          · rename_i cl' cld C' csl lcc
            have eC : C' = He.ga K cls := of_decide_eq_true g3
            subst eC
            exact ⟨oc, od, osl, kw, doc, pm, an, cda, ct, cc, rfl, g1, ⟨ccl, cdd, vs, ccs, fs, tf, lc, ev, g2⟩, cl', cld, csl, lcc⟩
          · cases g3
        · cases g2
      · cases g2
    · cases h5
structure HkE where
  fa : List He.Fa
  fn : List He.DefD
  pr : List PrD
  chk : PySem.W.Frag → Bool
  ts : List TabD
  sp : List SupD
  tf : List (Str × Str)
  file : Str
def modsE (g : Addr → Option Obj) : Bool := match g sysModules with
  | some o => (match o.data with | .dict _ _ => true | _ => false)
  | none => false
def tabsE (g : Addr → Option Obj) (tf : List (Str × Str)) (K : PySem.W.Frag) : Bool := (tf.all fun p => PySem.W.codeHdIn K (He.cT K (p.1, none)).1 (He.cT K (p.1, none)).2 && (match g (He.cT K (p.1, none)).2 with
  | some o => He.emptyTab o
  | none => false)) && decide ((tf.map fun p => (He.cT K (p.1, none)).2).Nodup)
abbrev AlE : Type := AlY × Bool × List SupW
namespace HkE
variable (h : HkE)
def obsK (g : Addr → Option Obj) (K : PySem.W.Frag) : AlE := (obsY h.fa h.fn h.pr h.chk h.ts K, ((modsE g && tabsE g h.tf K) && h.sp.all fun d => supOk h.file K d), h.sp.map fun d => supW K d)
def obs (n : Nat) (g : Addr → Option Obj) : AlE := h.obsK g (frE n g)
def val (w : World) : AlE := (((He.valD h.fn, true, h.pr.map fun q : PrD => q.d.val), h.ts.map fun t => some (He.keysIn w.params (tabKeys t))), true, h.sp.map SupD.val)
structure Says (w : World) (hp : Heap) (K : PySem.W.Frag) : Prop where
  y : SaysY h.fa h.fn h.pr h.chk h.ts w K
  sp : ∀ d ∈ h.sp, supOk h.file K d = true ∧ supW K d = d.val
  hd : ∀ p ∈ h.tf, PySem.W.codeHdIn K (He.cT K (p.1, none)).1 (He.cT K (p.1, none)).2 = true
  out : ∀ p ∈ h.tf, K.lookup (He.cT K (p.1, none)).2 = none
  empty : ∀ p ∈ h.tf, hp.get? (He.cT K (p.1, none)).2 = some { cls := .none, data := .fields #[] }
  nd : (h.tf.map fun p => (He.cT K (p.1, none)).2).Nodup
  sm : ∃ o es ep, hp.get? sysModules = some o ∧ o.data = .dict es ep
theorem says_of {n : Nat} {w : World} {hp : Heap} (e : h.obs n hp.get? = h.val w) : h.Says w hp (frE n hp.get?) := by
  unfold obs obsK val at e
  have e1 := congrArg (fun z : AlE => z.1) e
  have e2 := congrArg (fun z : AlE => z.2.1) e
  have e3 := congrArg (fun z : AlE => z.2.2) e
  dsimp only at e1 e2 e3
  generalize hK : frE n hp.get? = K at *
  rw [Bool.and_eq_true] at e2
  obtain ⟨e4, e5⟩ := e2
  rw [Bool.and_eq_true] at e4
  obtain ⟨e0, e4⟩ := e4
  have sm : ∃ o es ep, hp.get? sysModules = some o ∧ o.data = .dict es ep := by
    unfold modsE at e0
    cases q : hp.get? sysModules with
    | none => rw [q] at e0; cases e0
    | some o =>
      rw [q] at e0
      dsimp only at e0
      split at e0
      · rename_i es ep q2
        exact ⟨o, es, ep, rfl, q2⟩
      · cases e0
  unfold tabsE at e4
  rw [Bool.and_eq_true] at e4
  have key : ∀ p ∈ h.tf, PySem.W.codeHdIn K (He.cT K (p.1, none)).1 (He.cT K (p.1, none)).2 = true ∧ ∃ o, hp.get? (He.cT K (p.1, none)).2 = some o ∧ He.emptyTab o = true := fun p hp' => by
    have z := List.all_eq_true.mp e4.1 p hp'
    rw [Bool.and_eq_true] at z
    refine ⟨z.1, ?_⟩
    cases q : hp.get? (He.cT K (p.1, none)).2 with
    | none => rw [q] at z; cases z.2
    | some o => rw [q] at z; exact ⟨o, rfl, z.2⟩
  refine ⟨⟨SaysX.of (congrArg (fun z : AlY => z.1) e1), congrArg (fun z : AlY => z.2) e1⟩, fun d hd => ⟨List.all_eq_true.mp e5 d hd, ?_⟩, fun p hp' => (key p hp').1, fun p hp' => ?_, fun p hp' => ?_, of_decide_eq_true e4.2, sm⟩
  · obtain ⟨i, hi, ed⟩ := List.mem_iff_getElem.mp hd
    have z : (h.sp.map fun d => supW K d)[i]? = (h.sp.map SupD.val)[i]? := congrArg (fun l : List SupW => l[i]?) e3
    rw [List.getElem?_map, List.getElem?_map, List.getElem?_eq_getElem hi, ed] at z
    exact Option.some.inj z
  · obtain ⟨_, o, q, z⟩ := key p hp'
    rw [← hK]
    rw [← hK] at q
    exact He.frT_none q z
  · obtain ⟨_, o, q, z⟩ := key p hp'
    rw [q, He.emptyTab_eq z]
def hook (n : Nat) : PySem.W.Hook where
  α := AlE
  obs := fun s => h.obs n s.heap.get?
  val := fun w => h.val w
  says := fun w hp => ∃ K : PySem.W.Frag, K.In hp ∧ h.Says w hp K
  of := fun _ _ e => ⟨_, He.frT_in, h.says_of e⟩
  keeps := fun _ _ _ ⟨K, hK, c⟩ k => ⟨K, PySem.W.Frag.In.keeps hK k, ⟨c.y, c.sp, c.hd, c.out, fun p hp => k _ _ (c.empty p hp), c.nd, let ⟨o, es, ep, a, b⟩ := c.sm; ⟨o, es, ep, k _ _ a, b⟩⟩⟩
theorem obs_eq {n : Nat} {g : Addr → Option Obj} {s : Shared} (e : ∀ a, g a = s.heap.get? a) : h.obs n g = (h.hook n).obs s := by
  have e : g = s.heap.get? := funext e
  rw [e] <;> rfl
end HkE
abbrev tabP (K : PySem.W.Frag) (tf : List (Str × Str)) : List (List Addr) := tf.map fun t => [(He.cT K (t.1, none)).2]
abbrev tabS (tf : List (Str × Str)) : Sto := tf.map fun t => .tab t.1 t.2
structure TabsB (base : Heap) (mg : Str → Option Value) (K : PySem.W.Frag) (tf : List (Str × Str)) : Prop where
  tb : ∀ t ∈ tf, LamX.TabB base mg (He.cT K (t.1, none)).1 (He.cT K (t.1, none)).2
  sm : ∃ o, base.get? sysModules = some o
theorem law_GT {P : Program} {w : World} {K : PySem.W.Frag} {mg mb : Str → Option Value} {k : Nat} {fa a : Addr} {fd : FuncData} {x : Str} {g : List D → M D} {s : Shared} {us : List Value} {ns : List Int} {S' : Sto} {tf : List (Str × Str)}
    (kin : K.In s.heap) (gl : s.heap.Ns mainGlobals mg) (bl : s.heap.Ns builtinsNs mb) (bb : ∀ x : Str, x ≠ "__name__" → mb x = bootBuiltins x) (lim : s.heap.NoLimit) (gens : s.gens = #[])
    (hbm : ∃ (bm : Addr) (ob : Obj), mg "__builtins__" = some (.ref bm) ∧ bm ≠ builtinsNs ∧ s.heap.get? bm = some ob ∧ ob.cls = .type "module" ∧ ob.dict = some builtinsNs ∧ ob.data = .plain)
    (hS : ∃ o es ep, s.heap.get? sysModules = some o ∧ o.data = .dict es ep) (hT : ∀ t ∈ tf, s.heap.get? (He.cT K (t.1, none)).2 = some { cls := .none, data := .fields #[] }) (nT : ∀ t ∈ tf, K.lookup (He.cT K (t.1, none)).2 = none) (cT : ∀ t ∈ tf, PySem.W.CodeHd s.heap (He.cT K (t.1, none)).1 (He.cT K (t.1, none)).2) (nd : (tf.map fun t => (He.cT K (t.1, none)).2).Nodup)
    (ha : s.heap.get? a = some { cls := .type "list", data := .seq us.toArray }) (hi : IntsAre us ns) (hl : ns.length ≤ sizeLine) (hr : Room k callerA)
    (F : ∀ base : Heap, K.In base → base.Ns mainGlobals mg → TabsB base mg K tf → FnD P w K mg base k fa fd [x] g) (bd : ∀ (s : Shared) (u : Value), BindsTo s fd ⟨[u], []⟩ [(x, u)]) (hm : g [.scr ns] (tabS tf) = .ok (.bl true) S') :
    codeAny (model P w) callerA (.call (.ref fa) ⟨[.ref a], []⟩) (fun r s' => r = .ok (.ret (.bool true)) ∧ OldK s.heap s'.heap ∧ s'.os = s.os ∧ AllBare s'.gens) s := by
  have rv := vals_ints hi
  -- the addresses of the tables
  let Ts : List Addr := tf.map fun t => (He.cT K (t.1, none)).2
  have inT : ∀ b, b ∈ Ts → ∃ t ∈ tf, (He.cT K (t.1, none)).2 = b := fun b hb => List.mem_map.mp hb
  have tIn : ∀ t ∈ tf, (He.cT K (t.1, none)).2 ∈ Ts := fun t ht => List.mem_map.mpr ⟨t, ht, rfl⟩
  have atT : ∀ b, b ∈ Ts → s.heap.get? b = some { cls := .none, data := .fields #[] } := fun b hb => by
    obtain ⟨t, ht, rfl⟩ := inT b hb
    exact hT t ht
  have aT : a ∉ Ts := fun z => by
    have q := atT a z
    rw [ha] at q
    have q2 : Data.seq us.toArray _ = Data.fields #[] := congrArg Obj.data (Option.some.inj q)
    cases q2
  -- G: what is frozen (the script, if K does not tell it)
  have main : ∀ G : Hp, (∀ b o, G b = some o → b = a ∧ o = .frz { cls := .type "list", data := .seq us.toArray } (.lst (ns.map V.int))) → SqL K G a (ns.map V.int) → (G a ≠ none → K.lookup a = none) →
      codeAny (model P w) callerA (.call (.ref fa) ⟨[.ref a], []⟩) (fun r s' => r = .ok (.ret (.bool true)) ∧ OldK s.heap s'.heap ∧ s'.os = s.os ∧ AllBare s'.gens) s := by
    intro G only seq far
    have gT : ∀ b, b ∈ Ts → G b = none := fun b hb => by
      cases q : G b with
      | none => rfl
      | some o => obtain ⟨rfl, _⟩ := only b o q; exact absurd hb aT
    let H : Hp := fun b => if b ∈ Ts then some (.tbl #[]) else G b
    have hTb : ∀ b, b ∈ Ts → H b = some (.tbl #[]) := fun b hb => if_pos hb
    have hNo : ∀ b, b ∉ Ts → H b = G b := fun b hb => if_neg hb
    have sm : Same G H := fun b o e => by
      have : b ∉ Ts := fun z => by rw [gT b z] at e; cases e
      rw [hNo b this]; exact e
    have hok : HOk P w H s.heap := fun b o e => by
      by_cases z : b ∈ Ts
      · rw [hTb b z] at e
        cases e
        exact atT b z
      · rw [hNo b z] at e
        obtain ⟨rfl, rfl⟩ := only b o e
        exact ⟨ha, by rw [List.length_map]; exact hl, us, _, rv, ha⟩
    have free : ∀ {b : Addr} {o : Obj}, s.heap.get? b = some o → (∀ vs n, o.data ≠ .seq vs n) → o.data ≠ .fields #[] → H b = none := fun {b o} e h1 h2 => by
      by_cases z : b ∈ Ts
      · rw [atT b z] at e
        cases e
        exact absurd rfl h2
      · rw [hNo b z]
        cases q : G b with
        | none => rfl
        | some u =>
          obtain ⟨rfl, _⟩ := only b u q
          rw [ha] at e
          cases e
          exact absurd rfl (h1 _ _)
    have nsK : ∀ {b : Addr} {m : Str → Option Value}, s.heap.Ns b m → (hidT s.heap H).Ns b m := fun {b m} h => by
      obtain ⟨o, es, ep, e, d, rest⟩ := h
      exact ⟨o, es, ep, hidT_get e (free e (fun _ _ z => by rw [d] at z; cases z) fun z => by rw [d] at z; cases z), d, rest⟩
    have kb : K.In (hidT s.heap H) := fun b o e => by
      refine hidT_get (kin b o e) ?_
      by_cases z : b ∈ Ts
      · obtain ⟨t, ht, rfl⟩ := inT b z
        rw [nT t ht] at e; cases e
      · rw [hNo b z]
        cases q : G b with
        | none => rfl
        | some u =>
          obtain ⟨rfl, _⟩ := only b u q
          rw [far (by rw [q]; simp)] at e
          cases e
    obtain ⟨mc, l1, l2⟩ := lim
    have hM : Mod K mg (hidT s.heap H) := ⟨kb, nsK gl, ⟨mb, nsK bl, bb⟩, ⟨mc, nsK l1, l2⟩⟩
    have TB0 : ∀ t ∈ tf, LamX.TabB (hidT s.heap H) mg (He.cT K (t.1, none)).1 (He.cT K (t.1, none)).2 := fun t ht => by
      refine ⟨?_, ?_, fun z => ?_⟩
      · obtain ⟨o, vs, f1, f2, f3, f4, f5, f6, f7, c1, c2, c3, c4⟩ := cT t ht
        exact ⟨o, vs, f1, f2, f3, f4, f5, f6, f7, hidT_get c1 (free c1 (fun _ _ z => by rw [c3] at z; cases z) fun z => by rw [c3] at z; cases z; simp at c4), c2, c3, c4⟩
      · obtain ⟨bm, ob, b1, b2, b3, b4, b5, b6⟩ := hbm
        refine ⟨bm, ob, b1, b2, fun q => ?_, fun q => ?_, hidT_get b3 (free b3 (fun _ _ z => by rw [b6] at z; cases z) fun z => by rw [b6] at z; cases z), b4, b5, b6⟩
        · obtain ⟨o, es, ep, e, d, _⟩ := gl
          rw [q, e] at b3
          cases b3
          rw [d] at b6; cases b6
        · rw [q, hT t ht] at b3
          cases b3
          cases b6
      · obtain ⟨o, es, ep, e, d, _⟩ := gl
        rw [z, hT t ht] at e
        cases e
        cases d
    have TB : TabsB (hidT s.heap H) mg K tf := ⟨TB0, by
      obtain ⟨o, es, ep, q1, q2⟩ := hS
      exact ⟨o, hidT_get q1 (free q1 (fun _ _ z => by rw [q2] at z; cases z) fun z => by rw [q2] at z; cases z)⟩⟩
    have e0 : Env0 P w K mg (hidT s.heap H) callerA [] s H := ⟨rfl, hM, fun b o e => of_hidT e, Nat.le_of_eq (hidT_size _ _), trivial, (fun b hb => nomatch (show b ∈ ([] : List Addr) from hb)), hok, AllBare.of_eq gens⟩
    have fl : (tabP K tf).flatten = Ts := by
      show (tf.map fun t => [(He.cT K (t.1, none)).2]).flatten = tf.map _
      clear hTb hNo sm hok free nsK kb hM TB TB0 e0 hm F nd hT nT cT inT tIn atT aT gT
      induction tf with
      | nil => rfl
      | cons t r ih => simp only [List.map_cons, List.flatten_cons, ih, List.singleton_append]
    have want : spD K 1 g [.ref a] H (fun v _ => v = .bl true) fun _ _ _ => False := by
      refine ⟨[.scr ns], tabP K tf, G, tabS tf, rfl, DenL.one ⟨a, rfl, seq⟩, ⟨sm, by simp, fun i as o e1 e2 => ?_, by rw [fl]; exact nd, fun b hb => gT b (by rw [← fl]; exact hb)⟩, ?_⟩
      · rw [List.getElem?_map] at e1 e2
        cases q : tf[i]? with
        | none => rw [q] at e1; cases e1
        | some t =>
          rw [q] at e1 e2
          cases e1
          cases e2
          exact ⟨rfl, #[], hTb _ (tIn t (List.mem_of_getElem? q)), trivial, fun pos cv z => by cases z⟩
      · rw [hm]
        exact fun v p' G' H' dv _ _ => dv
    refine codeAny_mono ((F _ kb (nsK gl) TB).go callerA [] s H ⟨[.ref a], []⟩ [.ref a] [.ref a] _ _ rfl hr e0 (bd s (.ref a)) (.cons rfl .nil) want) fun r s2 q => ?_
    match r, q with
    | .error e, q =>
      obtain ⟨_, _, _, _, _, _, _, _, _, _, _, _, z⟩ := q
      exact z.elim
    | .ok .next, q => exact False.elim q
    | .ok .brk, q => exact False.elim q
    | .ok .cont, q => exact False.elim q
    | .ok (.ret u), ⟨v, H', os, bare, un, hok', r', q⟩ =>
      have q' : v = .bl true := q
      subst q'
      cases (show u = Value.bool true from r')
      have stay : ∀ b o, b ∉ Ts → s.heap.get? b = some o → s2.heap.get? b = some o := fun b o nb e => by
        cases q : H b with
        | none => exact un.keep b o e q (fun z => nomatch (show b ∈ ([] : List Addr) from z)) (by simp)
        | some z =>
          rw [hNo b nb] at q
          obtain ⟨rfl, rfl⟩ := only b z q
          obtain ⟨e2, _⟩ := hok' b _ (un.frzs b _ _ (by rw [hNo b nb]; exact q))
          rw [ha] at e
          cases e
          exact e2
      have more : ∀ b, b ∈ Ts → ∃ vs : Array Value, s2.heap.get? b = some { cls := .none, data := .fields vs } := fun b hb => by
        obtain ⟨m, z⟩ := un.tbls b #[] (hTb b hb)
        exact ⟨_, hok' b _ z⟩
      refine ⟨rfl, ⟨fun b o e => ?_, fun b o e => ?_⟩, os, bare⟩
      · by_cases hb : b ∈ Ts
        · obtain ⟨vs, e2⟩ := more b hb
          obtain ⟨t, ht, rfl⟩ := inT b hb
          rw [hT t ht] at e
          cases e
          exact .inr (.inl ⟨((cT t ht).tab (hT t ht)).isCodeTable, rfl, #[], vs, rfl, by rw [Array.empty_append]; exact e2⟩)
        · exact .inl (stay b o hb e)
      · by_cases hb : b ∈ Ts
        · obtain ⟨vs, e2⟩ := more b hb
          exact ⟨_, e2⟩
        · exact ⟨o, stay b o hb e⟩
  cases hk : K.lookup a with
  | some o =>
    have e := kin a o hk
    rw [ha] at e
    cases e
    exact main (fun _ => none) (fun b o z => nomatch (show (none : Option HO) = some o from z)) (.inr ⟨_, us.toArray, _, hk, rfl, rfl, rfl, by rw [List.size_toArray, hi.length]; exact hl, by simpa using rv⟩) fun z => absurd rfl z
  | none =>
    refine main (fun b => if b = a then some (.frz { cls := .type "list", data := .seq us.toArray } (.lst (ns.map V.int))) else none) (fun b o z => ?_) (.inl (.inr ⟨_, if_pos rfl⟩)) fun _ => hk
    by_cases hb : b = a
    · have z' := (if_pos hb).symm.trans z
      cases z'
      exact ⟨hb, rfl⟩
    · have z' := (if_neg hb).symm.trans z
      cases z'
omit [PgW] in
theorem walk_GT {l : PySem.W.OpenLaw} {n k : Nat} {q : Program} {loose : List Str} {XP : (Str → Option Value) → Heap → Prop} {YP : World → Heap → Prop} {d : DefRec} {x : Str} {g : List D → M D} {tf : List (Str × Str)}
    (hn : l.most = some n) (hn2 : n ≤ sizeLine) (hdf : d.params.defaults = []) (hr : Room k callerA)
    (F : ∀ (w : World) (mg : Str → Option Value) (fa : Addr) (h : Heap), YP w h → h.Ns mainGlobals mg → mg d.name = some (.ref fa) →
      ∃ (K : PySem.W.Frag) (fd : FuncData), K.In h ∧ (∃ o es ep, h.get? sysModules = some o ∧ o.data = .dict es ep) ∧ (∀ t ∈ tf, h.get? (He.cT K (t.1, none)).2 = some { cls := .none, data := .fields #[] }) ∧ (∀ t ∈ tf, K.lookup (He.cT K (t.1, none)).2 = none) ∧ (∀ t ∈ tf, PySem.W.CodeHd h (He.cT K (t.1, none)).1 (He.cT K (t.1, none)).2) ∧ (tf.map fun t => (He.cT K (t.1, none)).2).Nodup ∧
        (∀ (s : Shared) (u : Value), BindsTo s fd ⟨[u], []⟩ [(x, u)]) ∧ ∀ base : Heap, K.In base → base.Ns mainGlobals mg → TabsB base mg K tf → @FnD ⟨l.prog, w⟩ l.prog w K mg base k fa fd [x] g)
    (law : ∀ (w : World) (ns : List Int), ns.length ≤ n → (∀ z ∈ ns, Builtin.Int.intBits z ≤ 1048576) → ∃ S', g [.scr ns] (tabS tf) = .ok (.bl true) S') :
    PySem.W.WalkO q loose XP YP l.row.toRowW d [] (fun f vs => PySem.call f vs) := by
  refine Att.attach_callB hn hdf fun w s₀ s₁ mg mb fa o pm cd doc a vs ns G Y ho hd hcd hmg hobj hints hlen hbits hg => ?_
  obtain ⟨K, fd, kin, hS, hT, nT, cT, nd, hb, hF⟩ := F w mg fa _ Y G.T.g hmg
  obtain ⟨S', e⟩ := law w ns hlen hbits
  letI : PgW := ⟨l.prog, w⟩
  exact law_GT kin G.T.g G.T.b G.T.builtins G.T.nolimit hg G.T.bmain hS hT nT cT nd hobj hints (Nat.le_trans hlen hn2) hr hF hb e
end RM

namespace RM
open PySem PySem.Spec PyProof.Rows L2
variable [PgW]
section
variable {P : Program} {w : World} {K : PySem.W.Frag} {mg : Str → Option Value} {base : Heap} {x qual : Str} {params : Arguments} {body : List Stmt} {scope : Scope} {dvs : List V} {kws : List (Str × V)} {fd : FuncData}
end
theorem BodyX.mono {X : Cx} {k j : Nat} {W : Wf} (B : BodyX X k W) (h : j ≤ k) : BodyX X j W := ⟨B.room.mono h, B.gd, B.tk, B.po, B.calm⟩
section
variable [Pre]
theorem HT.tab {α : Type} {n j : Nat} {nm q : Str} {m : M α} {P : α → Prop} (h : HT n m P) (hp : (Pre.pre : Sto)[j]? = some (.tab nm q) := by rfl) : HT n (tabbed j nm q m) P := by
  intro t ht hn
  obtain ⟨a, t', e, r⟩ := h t ht hn
  refine ⟨a, t', ?_, r⟩
  unfold tabbed
  have e2 : (onT t)[j]? = some (.tab nm q) := by
    show (Pre.pre ++ [MO.tape t])[j]? = _
    rw [List.getElem?_append_left (List.getElem?_eq_some_iff.mp hp).1]; exact hp
  rw [e2]
  dsimp only
  rw [if_pos ⟨rfl, rfl⟩]
  exact e
end
@[simp] theorem tryM_pure (z0 y0 : D) (cs : List Str) (d : D) : tryM z0 y0 cs (pure d) = pure (d, y0) := Eq.trans rfl rfl
@[simp] theorem tryE_pure (y0 : D) (cs : List Str) (d : D) : tryE y0 cs (pure d) = pure y0 := Eq.trans rfl rfl
end RM

namespace RM
open PySem PySem.Spec PyProof.Rows L2
variable [PgW]
section
variable {prog : Program} {w : World} {A : Around} {E : Value → Shared → Prop} {s : Shared} {K : PySem.W.Frag} {x C f : Addr} {ox : Obj} {od : Option Obj} {b tb : Value}
end
def nfB (K : PySem.W.Frag) (cs eq : List Str) : Bool := eq.all fun c => (builtinKinds.all fun n => PySem.W.notFirst K (He.ga K c) (.type n)) && (cs.all fun e => PySem.W.notFirst K (He.ga K c) (.ref (He.ga K e))) &&
  He.eqO (PySem.W.findIn K (.ref (He.ga K c)) "__ne__") (some (some (.builtin "object.__ne__"))) && decide (PySem.W.mroIn K (He.ga K c) (.type "object") = some true)
structure NfT (K : PySem.W.Frag) (cs eq : List Str) : Prop where
  nb : ∀ c ∈ eq, ∀ n ∈ builtinKinds, PySem.W.notFirst K (He.ga K c) (.type n) = true
  no : ∀ c ∈ eq, ∀ e ∈ cs, PySem.W.notFirst K (He.ga K c) (.ref (He.ga K e)) = true
  ne : ∀ c ∈ eq, PySem.W.findIn K (.ref (He.ga K c)) "__ne__" = some (some (.builtin "object.__ne__"))
  ob : ∀ c ∈ eq, PySem.W.mroIn K (He.ga K c) (.type "object") = some true
theorem nfB_ok {K : PySem.W.Frag} {cs eq : List Str} (h : nfB K cs eq = true) : NfT K cs eq := by
  have k : ∀ c ∈ eq, _ := fun c hc => List.all_eq_true.mp h c hc
  simp only [Bool.and_eq_true, List.all_eq_true, decide_eq_true_eq] at k
  exact ⟨fun c hc => (k c hc).1.1.1, fun c hc => (k c hc).1.1.2, fun c hc => He.eqO_ok (k c hc).1.2, fun c hc => (k c hc).2⟩
theorem NfT.at_ {K : PySem.W.Frag} {cs eq : List Str} (N : NfT K cs eq) {c : Str} (hc : c ∈ eq) {k : Ty} (hk : kindOk cs k = true) : PySem.W.notFirst K (He.ga K c) (tyVal K k) = true := by
  cases k with
  | b n => exact N.nb c hc n (of_decide_eq_true hk)
  | o e => exact N.no c hc e (of_decide_eq_true hk)
section
variable {X : Cx} {V : Wf} {k : Nat} {T : MT} {cs eq : List Str}
end
end RM

namespace RM
open PySem PySem.Spec PyProof.Rows L2
variable [PgW]
def tl2 {α : Type} (f : D → D → M α) : D → M α
  | .lst [a, b] => f a b
  | _ => stuck
def tl3 {α : Type} (f : D → D → D → M α) : D → M α
  | .lst [a, b, c] => f a b c
  | _ => stuck
def tl4 {α : Type} (f : D → D → D → D → M α) : D → M α
  | .lst [a, b, c, d] => f a b c d
  | _ => stuck
@[simp] theorem tl2_lst {α : Type} (f : D → D → M α) (a b : D) : tl2 f (.lst [a, b]) = f a b := Eq.trans rfl rfl
@[simp] theorem tl3_lst {α : Type} (f : D → D → D → M α) (a b c : D) : tl3 f (.lst [a, b, c]) = f a b c := Eq.trans rfl rfl
@[simp] theorem tl4_lst {α : Type} (f : D → D → D → D → M α) (a b c d : D) : tl4 f (.lst [a, b, c, d]) = f a b c d := Eq.trans rfl rfl
section
variable {X : Cx} {W : Wf} {g : DSt} {e tg : Expr} {me : M D} {pos : Pos} {α : Type} {I : IC α} {rest : List Stmt}
end
end RM

namespace RM
open PySem PySem.Spec PyProof.Rows L2
variable [PgW]
open Classical in
section
variable {X : Cx} {V : Wf} {k : Nat} {T : MT}
end
end RM

namespace RM
open PySem PySem.Spec PyProof.Rows L2
variable [PgW]
mutual
def toPyE : D → Option PyData
  | .non => some .none
  | .bl b => some (.bool b)
  | .int i => some (.int i)
  | .str x => some (.str x)
  | .tup xs => (toPyEL xs).map .tuple
  | .lst xs => (toPyEL xs).map .list
  | .dic ks vs => match ks, vs with
    | [], [] => some (.dict [])
    | _, _ => none
  | .ins _ _ _ => none
  | .mref _ => none
  | .scr _ => none
  | .xcp _ _ _ => none
  | .dct _ _ => none
def toPyEL : List D → Option (List PyData)
  | [] => some []
  | x :: xs => match toPyE x, toPyEL xs with
    | some y, some ys => some (y :: ys)
    | _, _ => none
end
def reprE : List D → M D
  | [d] => match toPyE d with
    | some x => if x.showable = true ∧ x.depth ≤ 64 ∧ x.shown.length ≤ sizeLine then pure (.str x.shown) else stuck
    | none => stuck
  | _ => stuck
section
variable {X : Cx} {pins : List (Addr × Obj)} {σ : L2.St} {G H : Hp} {s : Shared} {p : List (List Addr)}
mutual
theorem den_reads (I : Inv X pins σ H s) (sub : Same G H) (hb : H sysModules = none) : ∀ {d : D} {v : L2.V} {u : Value} {x : PyData}, Den X.K p G d v → toPyE d = some x → RelV v u → ∃ as, Reads s.heap u x as ∧ sysModules ∉ as
  | .non, v, u, x, dn, e, r => by
    cases e
    cases (show v = _ from dn)
    cases r
    exact ⟨_, Reads.none, by simp⟩
  | .bl b, v, u, x, dn, e, r => by
    cases e
    cases (show v = _ from dn)
    cases r
    exact ⟨_, Reads.bool b, by simp⟩
  | .int i, v, u, x, dn, e, r => by
    cases e
    cases (show v = _ from dn)
    obtain ⟨t, rfl⟩ := r
    exact ⟨_, Reads.int i t, by simp⟩
  | .str y, v, u, x, dn, e, r => by
    cases e
    cases (show v = _ from dn)
    obtain ⟨t, rfl⟩ := r
    exact ⟨_, Reads.str y t, by simp⟩
  | .tup xs, v, u, x, dn, e, r => by
    obtain ⟨ys, e1, rfl⟩ := Option.map_eq_some_iff.mp (show (toPyEL xs).map PyData.tuple = some x from e)
    obtain ⟨a, vs, rfl, ha, hv⟩ := dn
    cases r
    obtain ⟨its, rv, ⟨o, ho, hc, n, hd⟩, _⟩ := I.tuple (SqT.mono sub ha)
    obtain ⟨as, hr, hn⟩ := den_readsL I sub hb hv e1 rv
    exact ⟨_, Reads.tuple ho hc hd hr, hn⟩
  | .lst xs, v, u, x, dn, e, r => by
    obtain ⟨ys, e1, rfl⟩ := Option.map_eq_some_iff.mp (show (toPyEL xs).map PyData.list = some x from e)
    obtain ⟨a, vs, rfl, ha, hv⟩ := dn
    cases r
    have ha := sub _ _ ha
    obtain ⟨its, rv, ⟨o, n, ho, hc, _, hd⟩, _⟩ := I.list (.inl (.inl ha))
    obtain ⟨as, hr, hn⟩ := den_readsL I sub hb hv e1 rv
    refine ⟨_, Reads.list ho hc hd hr, fun z => ?_⟩
    rcases List.mem_cons.mp z with z | z
    · rw [← z, hb] at ha; cases ha
    · exact hn z
  | .dic [] [], v, u, x, dn, e, r => by
    cases (show some (PyData.dict []) = some x from e)
    obtain ⟨a, o1, vs, rfl, ha, hl, hv⟩ := dn
    cases r
    have ha := sub _ _ ha
    obtain ⟨_, hm, qs, kv, o, es, ep, ho, hx, hd, _, hp, _⟩ := dk_rd I.hok (.inr ⟨_, ha⟩)
    have hq : qs = [] := by
      cases vs with
      | nil => cases kv; rfl
      | cons => cases hl
    subst hq
    have he : es.toList = [] := by
      cases q : es.toList with
      | nil => rfl
      | cons => rw [q] at hp; cases hp
    refine ⟨_, Reads.dict (kvs := []) ho hx.1 hd (by rw [he]; exact ReadsAll.nil) (by rw [he]; exact ReadsAll.nil), fun z => ?_⟩
    simp at z
    rw [← z] at hm
    simp at hm
  | .dic (_ :: _) _, _, _, _, _, e, _ => by cases e
  | .dic [] (_ :: _), _, _, _, _, e, _ => by cases e
  | .ins _ _ _, _, _, _, _, e, _ => by cases e
  | .mref _, _, _, _, _, e, _ => by cases e
  | .scr _, _, _, _, _, e, _ => by cases e
  | .xcp _ _ _, _, _, _, _, e, _ => by cases e
  | .dct _ _, _, _, _, _, e, _ => by cases e
theorem den_readsL (I : Inv X pins σ H s) (sub : Same G H) (hb : H sysModules = none) : ∀ {ds : List D} {vs : List L2.V} {us : List Value} {xs : List PyData}, DenL X.K p G ds vs → toPyEL ds = some xs → Vals vs us → ∃ as, ReadsAll s.heap us xs as ∧ sysModules ∉ as
  | [], vs, us, xs, dn, e, r => by
    cases e
    cases dn
    cases r
    exact ⟨_, ReadsAll.nil, by simp⟩
  | d :: ds, vs, us, xs, dn, e, r => by
    have e' : (match toPyE d, toPyEL ds with
      | some y, some ys => some (y :: ys)
      | _, _ => none) = some xs := e
    cases q1 : toPyE d with
    | none => rw [q1] at e'; cases e'
    | some z =>
      cases q2 : toPyEL ds with
      | none => rw [q1, q2] at e'; cases e'
      | some zs =>
        rw [q1, q2] at e'
        cases e'
        obtain ⟨w, ws, rfl, d1, d2⟩ := dn
        cases r with
        | cons r1 r2 =>
          obtain ⟨as, h1, n1⟩ := den_reads I sub hb d1 q1 r1
          obtain ⟨bs, h2, n2⟩ := den_readsL I sub hb d2 q2 r2
          exact ⟨_, ReadsAll.cons h1 h2, by simp [n1, n2]⟩
end
end
end RM

namespace RM
open PySem PySem.Spec PyProof.Rows L2
variable [PgW]
structure RpE (n w : Nat) (d : D) : Prop where
  ex : ∃ x, toPyE d = some x ∧ x.showable = true ∧ x.leavesShort 13 = true ∧ x.depth ≤ n ∧ x.weight ≤ w
structure RpEL (n w : Nat) (ds : List D) : Prop where
  ex : ∃ xs, toPyEL ds = some xs ∧ PyData.showableAll xs = true ∧ PyData.leavesShortAll 13 xs = true ∧ PyData.depthAll xs ≤ n ∧ PyData.weightAll xs ≤ w
theorem RpE.le {n w n' w' : Nat} {d : D} (h : RpE n w d) (h1 : n ≤ n') (h2 : w ≤ w') : RpE n' w' d := by
  obtain ⟨x, a, b, c, e, f⟩ := h.ex
  exact ⟨x, a, b, c, by omega, by omega⟩
theorem RpE.repr {n w : Nat} {d : D} (h : RpE n w d) (hn : n ≤ 64) (hw : w ≤ 1000000) : ∃ s, reprE [d] = pure (.str s) := by
  obtain ⟨x, a, b, c, e, f⟩ := h.ex
  refine ⟨x.shown, ?_⟩
  unfold reprE
  dsimp only
  rw [a]
  have p20 : (2 : Nat) ^ 20 = 1048576 := by decide
  exact if_pos ⟨b, by omega, PyData.shown_fits (by decide) (by decide) c (by omega)⟩
theorem RpE.str {x : Str} {w : Nat} (h : PyData.canLay0 (.str x) = true) (hw : x.cps.size ≤ w) : RpE 0 w (.str x) := ⟨_, rfl, rfl, PyData.leavesShort_of_canLay0 13 _ h rfl, Nat.le_refl _, hw⟩
theorem RpEL.nil : RpEL 0 0 [] := ⟨_, rfl, rfl, rfl, Nat.le_refl _, Nat.le_refl _⟩
theorem RpEL.cons {n n' w w' : Nat} {d : D} {ds : List D} (h : RpE n w d) (t : RpEL n' w' ds) : RpEL (max n n') (w + 1 + w') (d :: ds) := by
  obtain ⟨x, a, b, c, e, f⟩ := h.ex
  obtain ⟨xs, a', b', c', e', f'⟩ := t.ex
  refine ⟨x :: xs, ?_, ?_, ?_, ?_, ?_⟩
  · show (match toPyE d, toPyEL ds with | some y, some ys => some (y :: ys) | _, _ => none) = _
    rw [a, a']
  · show (PyData.showable x && PyData.showableAll xs) = true
    rw [b, b']; rfl
  · show (PyData.leavesShort 13 x && PyData.leavesShortAll 13 xs) = true
    rw [c, c']; rfl
  · show max (PyData.depth x) (PyData.depthAll xs) ≤ _
    omega
  · show PyData.weight x + 1 + PyData.weightAll xs ≤ _
    omega
theorem RpEL.le {n w n' w' : Nat} {ds : List D} (h : RpEL n w ds) (h1 : n ≤ n') (h2 : w ≤ w') : RpEL n' w' ds := by
  obtain ⟨x, a, b, c, e, f⟩ := h.ex
  exact ⟨x, a, b, c, by omega, by omega⟩
theorem RpEL.all {n w : Nat} : ∀ {ds : List D}, (∀ d ∈ ds, RpE n w d) → RpEL n (ds.length * (w + 1)) ds
  | [], _ => RpEL.nil.le (by omega) (by omega)
  | d :: ds, h => (RpEL.cons (h d (by simp)) (RpEL.all fun x hx => h x (List.mem_cons_of_mem _ hx))).le (by omega) (by rw [List.length_cons, Nat.add_mul]; omega)
theorem RpE.tup {n w : Nat} {ds : List D} (h : RpEL n w ds) : RpE (n + 1) w (.tup ds) := by
  obtain ⟨xs, a, b, c, e, f⟩ := h.ex
  refine ⟨.tuple xs, ?_, b, c, ?_, f⟩
  · show (toPyEL ds).map _ = _
    rw [a]; rfl
  · show PyData.depthAll xs + 1 ≤ _
    omega
theorem RpE.lst {n w : Nat} {ds : List D} (h : RpEL n w ds) : RpE (n + 1) w (.lst ds) := by
  obtain ⟨xs, a, b, c, e, f⟩ := h.ex
  refine ⟨.list xs, ?_, b, c, ?_, f⟩
  · show (toPyEL ds).map _ = _
    rw [a]; rfl
  · show PyData.depthAll xs + 1 ≤ _
    omega
end RM

namespace RM
open PySem PySem.Spec PyProof.Rows L2
variable [PgW]
def splitF : D → D → M (List D)
  | .str a, .str b => if (b.length == 0) = false ∧ a.length + 2 ≤ sizeLine then pure ((Txt.split a b).map D.str) else stuck
  | _, _ => stuck
def partD3 : D → D → M D
  | .str a, .str b => if (b.length == 0) = false ∧ a.length ≤ sizeLine then pure (.tup [.str (Txt.partition a b).1, .str (Txt.partition a b).2.1, .str (Txt.partition a b).2.2]) else stuck
  | _, _ => stuck
def splitX (ma mb : M D) : M (List D) := B ma fun x => B (strD x) fun s => B mb fun y => splitF (.str s) y
def partX (ma mb : M D) : M D := B ma fun x => B (strD x) fun s => B mb fun y => partD3 (.str s) y
@[simp] theorem splitX_pure (s : Str) (m : M D) : splitX (pure (.str s)) m = B m fun y => splitF (.str s) y := Eq.trans rfl rfl
@[simp] theorem partX_pure (s : Str) (m : M D) : partX (pure (.str s)) m = B m fun y => partD3 (.str s) y := Eq.trans rfl rfl
section
variable {X : Cx} {W : WX} {g : DSt} {a b : Expr} {ma mb : M D} {pos p2 p3 p4 apos cpos : Pos}
end
end RM

namespace RM
open PySem PySem.Spec PyProof.Rows L2
variable [PgW]
def strA : List D → M D
  | [.int i] => if i.natAbs.log2 < 1920 then pure (.str (Str.ofString (toString i))) else stuck
  | [.str x] => pure (.str x)
  | _ => stuck
section
variable {K : PySem.W.Frag}
end
section
variable {X : Cx} {W : WX} {g : DSt} {a b : Expr} {ma mb : M D} {ms : List (M D)} {pos p p2 p3 p4 : Pos}
def fmtD : D → M Str
  | .int i => if i.natAbs.log2 < 1920 then pure (Str.ofString (toString i)) else stuck
  | .str x => if x.length ≤ sizeLine then pure x else stuck
  | _ => stuck
def joinF : Str → List (M Str) → M D
  | acc, [] => pure (.str acc)
  | acc, m :: ms => B m fun y => if (acc ++ y).length ≤ sizeLine then joinF (acc ++ y) ms else stuck
end
@[simp] theorem strA_int' (i : Int) : strA [.int i] = if i.natAbs.log2 < 1920 then pure (.str (Str.ofString (toString i))) else stuck := Eq.trans rfl rfl
@[simp] theorem strA_str (x : Str) : strA [.str x] = pure (.str x) := Eq.trans rfl rfl
@[simp] theorem fmtD_int (i : Int) : fmtD (.int i) = if i.natAbs.log2 < 1920 then pure (Str.ofString (toString i)) else stuck := Eq.trans rfl rfl
@[simp] theorem fmtD_str (x : Str) : fmtD (.str x) = if x.length ≤ sizeLine then pure x else stuck := Eq.trans rfl rfl
@[simp] theorem joinF_nil (acc : Str) : joinF acc [] = pure (.str acc) := Eq.trans rfl rfl
@[simp] theorem joinF_pure (acc x : Str) (ms : List (M Str)) : joinF acc (pure x :: ms) = if (acc ++ x).length ≤ sizeLine then joinF (acc ++ x) ms else stuck := Eq.trans rfl rfl
end RM

namespace RM
open PySem PySem.Spec PyProof.Rows L2
variable [PgW]
section
variable {K : PySem.W.Frag}
end
section
variable {X : Cx} {W : WX} {g : DSt} {a b : Expr} {ma mb : M D} {pos : Pos}
end
end RM

namespace RM
open PySem PySem.Spec PyProof.Rows L2
variable [PgW]
section
variable {X : Cx} {W : Wf} {a b : Expr} {ma mb : DSt → M D} {pos : Pos}
end
section
variable {α : Type} {X : Cx} {W : Wf} {g : DSt} {I : IC α} {a b : Expr} {rest : List Stmt} {pos : Pos} {ma mb : M D}
end
end RM

namespace RM
open PySem PySem.Spec PyProof.Rows L2
variable [PgW]
open Classical in
section
variable {X : Cx} {V : Wf} {k : Nat} {T : MT}
end
end RM

namespace RM
open PySem PySem.Spec PyProof.Rows L2
variable [PgW]
section
variable {X : Cx} {W : WX} {g : DSt} {a b : Expr} {ma mb : M D} {p1 p2 pos pos' : Pos}
end
end RM

namespace GT
open PySem PySem.SeqAt
open AutoSeq1 (wpAny_loadPart')
open MeetsSeq MeetsSeq2 MeetsSeq3 SeqRoads2
section
variable {prg : Program} {wd : World} {Ar : Around} {Re : Result → Shared → Prop}
end
end GT
namespace RM
open PySem PySem.Spec PyProof.Rows L2
variable [PgW]
def sameF : D → D → Bool
  | .non, .non => true
  | .bl a, .bl b => a == b
  | .int a, .int b => a == b
  | .str a, .str b => a == b
  | _, _ => false
mutual
def difD : D → D → Bool
  | .tup xs, e => match e with
    | .tup ys => difL xs ys
    | e => flatD e
  | .ins _ ns fs, e => match e with
    | .ins _ ns' fs' => decide (ns = ns') && difL fs fs'
    | e => flatD e
  | d, e => if flatD d then (if flatD e then !sameF d e else true) else flatD e
def difL : List D → List D → Bool
  | [], [] => false
  | x :: xs, y :: ys => difD x y || difL xs ys
  | _, _ => true
end
section
variable {X : Cx} {pins : List (Addr × Obj)} {σ : L2.St} {H G : Hp} {s : Shared} {p : List (List Addr)}
theorem flat_not {d : D} {a : Addr} (h : Den X.K p G d (.ref a)) : flatD d = false := by
  cases d <;> first | rfl | (cases (show V.ref a = _ from h); done)
theorem not_flat {d : D} {v : V} (h : Den X.K p G d v) (f : flatD d = false) : ∃ a, v = .ref a := by
  cases d with
  | non => cases f
  | bl => cases f
  | int => cases f
  | str => cases f
  | tup => obtain ⟨a, _, rfl, _⟩ := h; exact ⟨a, rfl⟩
  | lst => obtain ⟨a, _, rfl, _⟩ := h; exact ⟨a, rfl⟩
  | ins => obtain ⟨a, _, _, rfl, _⟩ := h; exact ⟨a, rfl⟩
  | mref => obtain ⟨a, _, _, rfl⟩ := h; exact ⟨a, rfl⟩
  | dic => obtain ⟨a, _, _, rfl, _⟩ := h; exact ⟨a, rfl⟩
  | scr => obtain ⟨a, rfl, _⟩ := h; exact ⟨a, rfl⟩
  | xcp => obtain ⟨a, _, _, rfl, _⟩ := h; exact ⟨a, rfl⟩
  | dct => obtain ⟨a, _, _, rfl, _⟩ := h; exact ⟨a, rfl⟩
theorem same_flat {d e : D} {v : V} (h : Den X.K p G d v) (k : Den X.K p G e v) (f : flatD d = true) : flatD e = true ∧ sameF d e = true := by
  cases fe : flatD e with
  | false =>
    obtain ⟨a, rfl⟩ := not_flat k fe
    rw [flat_not h] at f
    cases f
  | true =>
    refine ⟨rfl, ?_⟩
    cases d <;> first | (cases f; done) | skip
    all_goals
      cases e <;> first | (cases fe; done) | skip
    all_goals
      have h1 : v = _ := h
      have k1 : v = _ := k
      rw [h1] at k1
      first | (cases k1; done) | (cases k1; first | rfl | exact beq_self_eq_true _)
theorem zip_inj {α β : Type} : ∀ {as as' : List α} {bs bs' : List β}, bs.length = as.length → bs'.length = as'.length → as.zip bs = as'.zip bs' → bs = bs'
  | [], [], [], [], _, _, _ => rfl
  | [], a' :: as', bs, b' :: bs', _, _, h => by simp at h
  | a :: as, [], b :: bs, bs', _, _, h => by simp at h
  | a :: as, a' :: as', b :: bs, b' :: bs', h1, h2, h => by
    simp only [List.zip_cons_cons, List.cons.injEq, Prod.mk.injEq] at h
    rw [h.1.2, zip_inj (by simpa using h1) (by simpa using h2) h.2]
  | [], _, _ :: _, _, h, _, _ => by simp at h
  | _ :: _, _, [], _, h, _, _ => by simp at h
  | _, [], _, _ :: _, _, h, _ => by simp at h
  | _, _ :: _, _, [], _, h, _ => by simp at h
mutual
theorem dif_den (I : Inv X pins σ H s) (hs : Same G H) : ∀ {d e : D} {v : V}, Den X.K p G d v → Den X.K p G e v → difD d e = true → False
  | .tup xs, e, v, h, k, q => by
    obtain ⟨a, vs, rfl, ha, dl⟩ := id h
    rcases (show (∃ ys, e = .tup ys) ∨ flatD e = true by cases e <;> first | exact .inl ⟨_, rfl⟩ | exact .inr q) with ⟨ys, rfl⟩ | f
    case inr => rw [flat_not k] at f; cases f
    obtain ⟨b, us, eb, hb, el⟩ := id k
    cases eb
    have e := I.tuple_inj (SqT.mono hs ha) (SqT.mono hs hb)
    subst e
    exact difL_den I hs dl el q
  | .ins c ns fs, e, v, h, k, q => by
    obtain ⟨a, dx, vs, rfl, ha, hn, dl⟩ := id h
    rcases (show (∃ c' ns' fs', e = .ins c' ns' fs') ∨ flatD e = true by cases e <;> first | exact .inl ⟨_, _, _, rfl⟩ | exact .inr q) with ⟨c', ns', fs', rfl⟩ | f
    case inr => rw [flat_not k] at f; cases f
    obtain ⟨b, dx', us, eb, hb, hn', el⟩ := id k
    cases eb
    have q : (decide (ns = ns') && difL fs fs') = true := q
    rw [Bool.and_eq_true] at q
    rw [ha] at hb
    have e : ns.zip vs = ns'.zip us := by injection hb with hb; injection hb
    have e := zip_inj hn hn' e
    subst e
    exact difL_den I hs dl el q.2
  | .non, e, v, h, k, q => by
    have z := same_flat h k rfl
    have q : (if flatD e then !sameF .non e else true) = true := q
    rw [if_pos z.1, z.2] at q; cases q
  | .bl b, e, v, h, k, q => by
    have z := same_flat h k rfl
    have q : (if flatD e then !sameF (.bl b) e else true) = true := q
    rw [if_pos z.1, z.2] at q; cases q
  | .int b, e, v, h, k, q => by
    have z := same_flat h k rfl
    have q : (if flatD e then !sameF (.int b) e else true) = true := q
    rw [if_pos z.1, z.2] at q; cases q
  | .str b, e, v, h, k, q => by
    have z := same_flat h k rfl
    have q : (if flatD e then !sameF (.str b) e else true) = true := q
    rw [if_pos z.1, z.2] at q; cases q
  | .lst xs, e, v, h, k, q => by
    obtain ⟨a, rfl⟩ := not_flat h rfl
    have f := flat_not k
    have q : flatD e = true := q
    rw [f] at q; cases q
  | .mref i, e, v, h, k, q => by
    obtain ⟨a, rfl⟩ := not_flat h rfl
    have f := flat_not k
    have q : flatD e = true := q
    rw [f] at q; cases q
  | .dic ks xs, e, v, h, k, q => by
    obtain ⟨a, rfl⟩ := not_flat h rfl
    have f := flat_not k
    have q : flatD e = true := q
    rw [f] at q; cases q
  | .scr ns, e, v, h, k, q => by
    obtain ⟨a, rfl⟩ := not_flat h rfl
    have f := flat_not k
    have q : flatD e = true := q
    rw [f] at q; cases q
  | .xcp c ns fs, e, v, h, k, q => by
    obtain ⟨a, rfl⟩ := not_flat h rfl
    have f := flat_not k
    have q : flatD e = true := q
    rw [f] at q; cases q
  | .dct ks xs, e, v, h, k, q => by
    obtain ⟨a, rfl⟩ := not_flat h rfl
    have f := flat_not k
    have q : flatD e = true := q
    rw [f] at q; cases q
theorem difL_den (I : Inv X pins σ H s) (hs : Same G H) : ∀ {xs ys : List D} {vs : List V}, DenL X.K p G xs vs → DenL X.K p G ys vs → difL xs ys = true → False
  | [], [], _, _, _, q => by cases q
  | [], y :: ys, vs, h, ⟨v, r, e, _, _⟩, q => by
    cases (show vs = [] from h)
    cases e
  | x :: xs, [], vs, ⟨v, r, e, _, _⟩, k, q => by
    cases (show vs = [] from k)
    cases e
  | x :: xs, y :: ys, vs, ⟨v, r, e, h1, h2⟩, ⟨v', r', e', k1, k2⟩, q => by
    rw [e] at e'
    cases e'
    have q : (difD x y || difL xs ys) = true := q
    rcases Bool.or_eq_true _ _ ▸ q with q | q
    · exact dif_den I hs h1 k1 q
    · exact difL_den I hs h2 k2 q
end
end
end RM

namespace RM
open PySem PySem.Spec PyProof.Rows L2
variable [PgW]
def PairB (T : MT) (x y : D) (b : Bool) : Prop := ∃ c ns fs ns' fs' h, x = .ins c ns fs ∧ y = .ins c ns' fs' ∧ T.lookup c = some h ∧ (∀ S, h x y S = .ok (.bl b) S) ∧ (b = false → difD x y = true)
def EqR (T : MT) : List D → List D → Bool → Prop
  | [], [], r => r = true
  | x :: xs, y :: ys, r => (PairB T x y true ∧ EqR T xs ys r) ∨ (PairB T x y false ∧ r = false)
  | _, _, r => r = false
theorem PairB.one {T : MT} {x y : D} (h : PairB T x y true) (k : PairB T x y false) : False := by
  obtain ⟨c, ns, fs, ns', fs', m, rfl, rfl, l, e, _⟩ := h
  obtain ⟨c2, ns2, fs2, ns2', fs2', m2, ex, ey, l2, e2, _⟩ := k
  cases ex
  rw [l] at l2
  cases l2
  have := (e []).symm.trans (e2 [])
  cases this
theorem EqR.one {T : MT} : ∀ {xs ys : List D} {r q : Bool}, EqR T xs ys r → EqR T xs ys q → r = q
  | [], [], r, q, h, k => (show r = true from h).trans (show q = true from k).symm
  | [], _ :: _, r, q, h, k => (show r = false from h).trans (show q = false from k).symm
  | _ :: _, [], r, q, h, k => (show r = false from h).trans (show q = false from k).symm
  | x :: xs, y :: ys, r, q, h, k => by
    rcases (show (PairB T x y true ∧ EqR T xs ys r) ∨ (PairB T x y false ∧ r = false) from h) with ⟨a, h⟩ | ⟨a, h⟩
    · rcases (show (PairB T x y true ∧ EqR T xs ys q) ∨ (PairB T x y false ∧ q = false) from k) with ⟨b, k⟩ | ⟨b, k⟩
      · exact h.one k
      · exact (a.one b).elim
    · rcases (show (PairB T x y true ∧ EqR T xs ys q) ∨ (PairB T x y false ∧ q = false) from k) with ⟨b, k⟩ | ⟨b, k⟩
      · exact (b.one a).elim
      · exact h.trans k.symm
open Classical in
section
variable {X : Cx} {V : Wf} {k : Nat} {T : MT}
end
end RM

namespace RM
open PySem PySem.Spec PyProof.Rows L2
variable [PgW]
section
variable {X : Cx} {W : WX} {g : DSt} {a b : Expr} {ma mb : M D} {p1 p2 pos pos' : Pos}
end
end RM

namespace RM
open PySem PySem.Spec PyProof.Rows L2
variable [PgW]
def seqOf : D → M (List D)
  | .tup xs => pure xs
  | .lst xs => pure xs
  | _ => stuck
@[simp] theorem seqOf_tup (xs : List D) : seqOf (.tup xs) = pure xs := Eq.trans rfl rfl
@[simp] theorem seqOf_lst (xs : List D) : seqOf (.lst xs) = pure xs := Eq.trans rfl rfl
def argsS {β : Type} : List (Bool × M D) → (List D → M β) → M β
  | [], k => k []
  | (false, m) :: r, k => B m fun x => argsS r fun xs => k (x :: xs)
  | (true, m) :: r, k => B m fun x => B (seqOf x) fun zs => argsS r fun xs => k (zs ++ xs)
@[simp] theorem argsS_nil {β : Type} (k : List D → M β) : argsS [] k = k [] := Eq.trans rfl rfl
@[simp] theorem argsS_one {β : Type} (m : M D) (r : List (Bool × M D)) (k : List D → M β) : argsS ((false, m) :: r) k = B m fun x => argsS r fun xs => k (x :: xs) := Eq.trans rfl rfl
@[simp] theorem argsS_star {β : Type} (m : M D) (r : List (Bool × M D)) (k : List D → M β) : argsS ((true, m) :: r) k = B m fun x => B (seqOf x) fun zs => argsS r fun xs => k (zs ++ xs) := Eq.trans rfl rfl
def runS (as : List (Bool × M D)) : M (List D) := argsS as pure
section
variable {X : Cx} {W : WX} {g : DSt} {a : Expr} {es : List Expr} {ma : M D} {as : List (Bool × M D)} {pos : Pos}
abbrev XAs (X : Cx) (W : WX) (g : DSt) (es : List Expr) (as : List (Bool × M D)) : Prop := PA X es (tXA X.K W g (runS as))
theorem XAs.da (h : XAs X W g es as) : DA X W es (AtG g (runS as)) := PA.imp h fun σ H Q ⟨t, p, G, S, ow, r, q⟩ => by
  by_cases e : t = g
  · subst e
    rw [AtG_self] at q
    exact ⟨p, G, S, ow, r, q⟩
  · rw [AtG_ne _ e] at q
    exact q.elim
end
end RM

namespace RM
open PySem PySem.Spec PyProof.Rows L2
variable [PgW]
section
variable {X : Cx} {W : Wf} {e : Expr} {ma : DSt → M D} {pos apos cpos : Pos}
end
section
variable {α : Type} {X : Cx} {W : Wf} {g : DSt} {I : IC α} {e : Expr} {rest : List Stmt} {pos apos cpos : Pos} {me : M D}
end
end RM

namespace ST
open PySem PyProof.Rows SrtO
section
variable {prg : Program} {wd : World} {Ar : Around} {Er : Value → Shared → Prop} {s : Shared} {t : Addr} {us : List Value}
abbrev got (h : Heap) (us : List Value) : Heap := (h.push (seqObj "list" #[] 0)).update h.objs.size (Obj.mapSeq (· ++ us.toArray))
end
end ST
namespace RM
open PySem PySem.Spec PyProof.Rows L2
variable [PgW]
section
variable {X : Cx}
variable {W : WX} {g : DSt} {a : Expr} {ma : M D} {p pos : Pos}
end
section
variable {X : Cx} {W : WX} {g : DSt} {a : Expr} {ma : M D} {p1 p2 pos pos' : Pos}
end
end RM

namespace RM
open PySem PySem.Spec PyProof.Rows L2
variable [PgW]
structure LamD where
  params : Arguments
  body : Expr
  scope : Scope
def lamO (q : Str) (cells : List (Str × Addr)) (L : LamD) (c' : Addr) (pm ctv : Value) : Obj := PySem.W.kla_obj "<lambda>" (q ++ "<lambda>") L.params L.body L.scope (cloFrom cells L.scope.names []) pm c' ctv
def FnAt (q : Str) (cells : List (Str × Addr)) (L : LamD) (f c' : Addr) (G : Hp) : Prop := (∃ pm ctv, G f = some (.frz (lamO q cells L c' pm ctv) (.own f))) ∧ G c' = some (LamX.CodeO c' (q ++ "<lambda>"))
theorem FnAt.mono {q : Str} {cells : List (Str × Addr)} {L : LamD} {f c' : Addr} {G G' : Hp} (h : FnAt q cells L f c' G) (e : Same G G') : FnAt q cells L f c' G' := by
  obtain ⟨⟨pm, ctv, h1⟩, h2⟩ := h
  exact ⟨⟨pm, ctv, e _ _ h1⟩, e _ _ h2⟩
def FnsAt (q : Str) (cells : List (Str × Addr)) : List LamD → List V → Hp → Prop
  | [], vs, _ => vs = []
  | L :: Ls, vs, G => ∃ f c' r, vs = V.ref f :: r ∧ FnAt q cells L f c' G ∧ FnsAt q cells Ls r G
theorem FnsAt.mono {q : Str} {cells : List (Str × Addr)} {G G' : Hp} (e : Same G G') : ∀ {Ls : List LamD} {vs : List V}, FnsAt q cells Ls vs G → FnsAt q cells Ls vs G'
  | [], _, h => h
  | _ :: _, _, ⟨f, c', r, h1, h2, h3⟩ => ⟨f, c', r, h1, h2.mono e, FnsAt.mono e h3⟩
theorem FnsAt.len {q : Str} {cells : List (Str × Addr)} {G : Hp} : ∀ {Ls : List LamD} {vs : List V}, FnsAt q cells Ls vs G → vs.length = Ls.length
  | [], _, h => by
    rw [show _ = [] from h]; rfl
  | _ :: _, _, ⟨f, c', r, h1, h2, h3⟩ => by rw [h1, List.length_cons, List.length_cons, FnsAt.len h3]
theorem FnsAt.snoc {q : Str} {cells : List (Str × Addr)} {G : Hp} {L : LamD} {f c' : Addr} (h : FnAt q cells L f c' G) : ∀ {Ls : List LamD} {vs : List V}, FnsAt q cells Ls vs G → FnsAt q cells (Ls ++ [L]) (vs ++ [.ref f]) G
  | [], _, e => by
    rw [show _ = [] from e]; exact ⟨f, c', [], rfl, h, rfl⟩
  | _ :: _, _, ⟨f1, c1, r, h1, h2, h3⟩ => ⟨f1, c1, r ++ [.ref f], by rw [h1]; rfl, h2, FnsAt.snoc h h3⟩
theorem FnsAt.get {q : Str} {cells : List (Str × Addr)} {G : Hp} : ∀ {Ls : List LamD} {vs : List V} {k : Nat} {L : LamD}, FnsAt q cells Ls vs G → Ls[k]? = some L → ∃ f c', vs[k]? = some (.ref f) ∧ FnAt q cells L f c' G
  | [], _, _, _, _, e => by simp at e
  | _ :: _, _, 0, L, ⟨f, c', r, h1, h2, h3⟩, e => by
    simp at e; subst e
    exact ⟨f, c', by rw [h1]; rfl, h2⟩
  | _ :: _, _, k + 1, L, ⟨f, c', r, h1, h2, h3⟩, e => by
    obtain ⟨f2, c2, e1, e2⟩ := FnsAt.get (k := k) h3 (by simpa using e)
    exact ⟨f2, c2, by rw [h1]; simpa using e1, e2⟩
section
variable {X : Cx} {pins : List (Addr × Obj)} {σ : L2.St} {H : Hp} {s : Shared}
theorem _root_.L2.Inv.known {a : Addr} {o : Obj} (I : Inv X pins σ H s) (he : s.heap.get? a = some o) (na : H a = none) (nL : a ≠ X.env.locals) (nc : ∀ x c, X.env.cells.lookup x = some c → c ≠ a)
    (np : ∀ p ∈ X.pn ++ pins, p.1 ≠ a) (n0 : X.s_0.heap.get? a = none) : Inv X pins σ (upd H a (.frz o (.own a))) s := by
  have far : ∀ b u, H b = some u → upd H a (.frz o (.own a)) b = some u := fun b u q => by rw [upd_ne (ne_of_none q na)]; exact q
  refine ⟨I.ok, I.os, I.bare, ⟨I.base.keep, I.base.slot, fun b u q n hx => ?_, I.base.there, fun b xs q => far _ _ (I.base.tups b xs q), fun b u v q => far _ _ (I.base.frzs b u v q), fun b ps q => ?_⟩, I.loc, I.cell, ?_, fun x c e => ?_, fun p hp => ?_, HOk.laidN I.hok (fun _ _ q => q) na ⟨he, ⟨o, he⟩⟩, I.len⟩
  · rw [upd_ne (fun z => by rw [z, n0] at q; cases q)]
    exact I.base.free b u q n hx
  · obtain ⟨more, q2⟩ := I.base.tbls b ps q
    exact ⟨more, far _ _ q2⟩
  · rw [upd_ne nL.symm]; exact I.free
  · rw [upd_ne (nc x c e)]; exact I.freeC x c e
  · obtain ⟨p1, p2, p3⟩ := I.pin p hp
    exact ⟨p1, by rw [upd_ne (np p hp)]; exact p2, p3⟩
end
section
variable {X : Cx} {params : Arguments} {body : Expr} {scope : Scope} {pos : Pos} {c P : Addr}
end
section
variable {α : Type} {X : Cx} {W : Wf} {g : DSt} {I : IC α} {rest : List Stmt} {m : M α} {params : Arguments} {body : Expr} {scope : Scope} {j : Nat} {fnm q : Str} {lpos pos2 pos : Pos}
end
end RM

namespace RM
open PySem PySem.Spec PyProof.Rows L2
variable [PgW]
structure Mk (X : Cx) (pins : List (Addr × Obj)) (σ : L2.St) (s : Shared) (H : Hp) (fp : List Addr) : Prop where
  inv : Inv X pins σ H s
  far : ∀ b ∈ fp, (b ∈ X.ex ∨ X.s_0.heap.objs.size ≤ b) ∧ b ≠ X.env.locals ∧ (∀ x c, X.env.cells.lookup x = some c → c ≠ b) ∧ ∀ p ∈ X.pn ++ pins, p.1 ≠ b
section
variable {X : Cx} {pins : List (Addr × Obj)} {σ : L2.St} {s : Shared} {H : Hp} {fp : List Addr}
theorem Mk.now (M : Mk X pins σ s H fp) {cenv : Env} {scope : Scope} {pins' : List (Addr × Obj)} {σ' : L2.St} {H' : Hp} {s' : Shared} (I : Inv (X.blk s H scope cenv fp) pins' σ' H' s') : Inv X pins σ H' s' := M.inv.call' (ch := fp) I.os I.base I.hok I.bare M.far
theorem Mk.of {H0 : Hp} (I : Inv X pins σ H s) (f : ∀ b ∈ fp, FpOk X pins H0 b) : Mk X pins σ s H fp := ⟨I, fun b hb => ⟨(f b hb).2.2.2.1, (f b hb).2.1, (f b hb).2.2.2.2.1, (f b hb).2.2.2.2.2⟩⟩
end
section
variable {X : Cx} {elt : Expr} {scope : Scope} {x y : Str} {ix w : Nat} {px py : Pos} {te : Nat → L2.St → TE}
end
end RM

namespace RM
open PySem PySem.Spec PyProof.Rows L2
variable [PgW]
def FnR (X : Cx) (gm : DSt) (σm : L2.St) (L : LamD) (f c' : Addr) : List (List Addr) → Hp → Prop := fun p G => (∀ H : Hp, SlotsR X.K p G H gm σm []) ∧ FnAt X.env.qual X.env.cells L f c' G
def ElsX (X : Cx) (g : DSt) (w : Nat) (elt : Expr) (scope : Scope) : List LamD → List (M D) → Prop
  | [], [] => True
  | L :: Ls, m :: ms => (∀ (pins : List (Addr × Obj)) (σ : L2.St) (s : Shared) (H : Hp) (C : Addr) (cl : List (Str × Addr)) (fp : List Addr) (f c' : Addr), Mk X pins σ s H fp →
      XE (X.blk s H scope (compEnvC scope cl C X.env) fp) W0 (g.set w (some (.lam (.ref f) (FnR X (valsOnly g) σ L f c')))) elt m) ∧ ElsX X g w elt scope Ls ms
  | _, _ => False
theorem ElsX.len {X : Cx} {g : DSt} {w : Nat} {elt : Expr} {scope : Scope} : ∀ {Ls : List LamD} {ms : List (M D)}, ElsX X g w elt scope Ls ms → Ls.length = ms.length
  | [], [], _ => rfl
  | _ :: _, _ :: _, h => by rw [List.length_cons, List.length_cons, ElsX.len h.2]
  | [], _ :: _, h => h.elim
  | _ :: _, [], h => h.elim
theorem ElsX.get {X : Cx} {g : DSt} {w : Nat} {elt : Expr} {scope : Scope} : ∀ {Ls : List LamD} {ms : List (M D)} {k : Nat} {L : LamD} {m : M D}, ElsX X g w elt scope Ls ms → Ls[k]? = some L → ms[k]? = some m →
    ∀ (pins : List (Addr × Obj)) (σ : L2.St) (s : Shared) (H : Hp) (C : Addr) (cl : List (Str × Addr)) (fp : List Addr) (f c' : Addr), Mk X pins σ s H fp →
      XE (X.blk s H scope (compEnvC scope cl C X.env) fp) W0 (g.set w (some (.lam (.ref f) (FnR X (valsOnly g) σ L f c')))) elt m
  | [], [], _, _, _, _, e, _ => by simp at e
  | _ :: _, _ :: _, 0, L, m, h, e1, e2 => by
    simp at e1 e2
    subst e1 e2
    exact h.1
  | _ :: _, _ :: _, k + 1, L, m, h, e1, e2 => ElsX.get (k := k) h.2 (by simpa using e1) (by simpa using e2)
  | [], _ :: _, _, _, _, h, _, _ => h.elim
  | _ :: _, [], _, _, _, h, _, _ => h.elim
section
variable {X : Cx} {W : Wf} {g : DSt} {elt : Expr} {scope : Scope} {ix w : Nat} {a : Addr} {vs : List V} {Ls : List LamD} {ms : List (M D)} {x y : Str} {px py pos spos : Pos}
end
end RM

namespace RM
open PySem PySem.Spec PyProof.Rows L2
variable [PgW]
section
variable {prog : Program} {w : World} {A : Around} {E : Value → Shared → Prop} {s : Shared}
end
section
variable {X : Cx}
end
section
variable {X : Cx} {W : WX} {g : DSt} {a b : Expr} {ma mb : M D} {pos p2 p3 p4 apos cpos : Pos}
end
end RM

namespace RM
open PySem PySem.Spec PyProof.Rows L2
variable [PgW]
section
variable {X : Cx}
end
section
variable {X : Cx} {W : WX} {g : DSt} {a b : Expr} {ma mb : M D} {pos p2 p3 p4 apos cpos : Pos}
end
end RM

namespace GT
open PySem PySem.SeqAt
open AutoSeq1 (wpAny_loadPart')
open MeetsSeq MeetsSeq2 MeetsSeq3 SeqRoads2
section
variable {prg : Program} {wd : World} {Ar : Around} {Re : Result → Shared → Prop}
end
end GT
namespace RM
open PySem PySem.Spec PyProof.Rows L2
variable [PgW]
open Classical in
section
variable {X : Cx} {V : Wf} {k : Nat} {T : MT}
end
end RM

namespace RM
open PySem PySem.Spec PyProof.Rows L2
variable [PgW]
def addI : D → D → M D
  | .int i, .int j => pure (.int (i + j))
  | _, _ => stuck
@[simp] theorem addI_int (i j : Int) : addI (.int i) (.int j) = pure (.int (i + j)) := Eq.trans rfl rfl
section
variable {X : Cx} {W : Wf} {e : Expr} {ma : DSt → M D} {pos : Pos}
end
section
variable {X : Cx} {W : Wf} {g : DSt} {α : Type} {I : IC α} {rest : List Stmt} {e : Expr} {mb : M D} {pos : Pos}
end
end RM

namespace RM
open PySem PySem.Spec PyProof.Rows L2
variable [PgW]
theorem Ext.up {p : List (List Addr)} {G H : Hp} {a : Addr} {o : HO} (h : H a = Option.none) : Ext p G H p G (upd H a o) := by
  refine ⟨Same.refl _, fun _ hg _ => hg, fun b ob hb _ => ?_, fun b hb => ?_, [], by simp, by simp⟩
  · have : b ≠ a := by rintro rfl; rw [h] at hb; cases hb
    rw [upd_ne this]; exact hb
  · have : b ≠ a := by rintro rfl; exact hb h
    rw [upd_ne this]; exact hb
theorem RelF.upd {K : PySem.W.Frag} {n : Snap} {p : List (List Addr)} {G H : Hp} {S : Sto} {t : DSt} {σ : L2.St} {ow : List Addr} {a : Addr} {o : HO} (r : RelF K n p G S H t σ ow) (h : H a = Option.none) : RelF K n p G S (L2.upd H a o) t σ ow :=
  r.step (Ext.up h) (r.rs.rel.own o (fun hp => r.rs.rel.dom hp h) (r.rs.rel.gfree h))
section
variable {W : Wf}
end
section
variable {X : Cx} {W : Wf} {pos : Pos}
end
section
variable {α τ : Type} {X : Cx} {W : Wf} {g : DSt} {I : IC α} {tg e b : Expr} {T : Tgt} {rest : List Stmt} {pos : Pos} {me mb : M D} {ml : M (List D)} {m : M α}
end
end RM

namespace RM
open PySem PySem.Spec PyProof.Rows L2
variable [PgW]
def intB : List D → M D
  | [.int i] => pure (.int i)
  | [.bl k] => pure (.int (if k then 1 else 0))
  | _ => stuck
@[simp] theorem intB_int (i : Int) : intB [.int i] = pure (.int i) := Eq.trans rfl rfl
@[simp] theorem intB_bl (k : Bool) : intB [.bl k] = pure (.int (if k then 1 else 0)) := Eq.trans rfl rfl
section
variable {K : PySem.W.Frag}
end
section
variable {X : Cx} {W : WX} {g : DSt} {a : Expr} {ms : List (M D)} {pos p : Pos}
end
end RM

namespace RM
open PySem PySem.Spec PyProof.Rows L2
variable [PgW]
section
variable {X : Cx} {pins : List (Addr × Obj)} {σ : L2.St} {H : Hp} {s : Shared}
end
end RM

namespace RM
open PySem PySem.Spec PyProof.Rows L2
variable [PgW]
section
variable {K : PySem.W.Frag} {p : List (List Addr)} {G H : Hp}
end
section
variable {X : Cx} {W : WX} {g : DSt} {a : Expr} {ma : M D} {p pos : Pos}
end
end RM

namespace RM
open PySem PySem.Spec PyProof.Rows L2
variable [PgW]
def xv : Value → Str
  | .str x _ => x
  | _ => ⟨#[]⟩
section
variable {X : Cx}
end
section
variable {X : Cx} {W : WX} {g : DSt} {a : Expr} {ma : M D} {p pos : Pos}
end
end RM

namespace RM
open PySem PySem.Spec PyProof.Rows L2
variable [PgW]
section
variable {K : PySem.W.Frag} {p : List (List Addr)} {G H : Hp} {S : Sto} {t : DSt} {σ : L2.St} {ow : List Addr}
end
end RM

namespace RM
open PySem PySem.Spec PyProof.Rows L2
variable [PgW]
section
variable {α : Type} {X : Cx} {V : WX} {W : Wf} {g : DSt} {I : IC α} {rest : List Stmt} {elt iter tg iter1 tg1 : Expr} {ifs ifs1 : List Expr} {scope : Scope} {own : List (Str × Nat)} {vs1 : List Nat} {T T1 : Tgt} {mi : M (List D)} {mt : D → M Bool} {mi1 : D → M (List D)} {mt1 : D → D → M Bool} {me : D → D → M D} {pos : Pos}
end
end RM

namespace GD
open PySem PySem.SeqAt
open AutoSeq1 (wpAny_loadPart')
open MeetsSeq MeetsSeq2 MeetsSeq3 SeqRoads2
section
variable {A : Around} {s : Shared} {l b : Addr} {items : Array Value} {ob : Obj}
end
end GD
namespace RM
open PySem PySem.Spec PyProof.Rows L2
variable [PgW]
section
variable {X : Cx} {W : Wf}
end
end RM

namespace RM
open PySem PySem.Spec PyProof.Rows L2 PySem.SeqAt PySem.W
variable [PgW]
section
variable {X : Cx} {pins : List (Addr × Obj)} {σ : L2.St} {H : Hp} {s : Shared}
end
def TI (h : Heap) (v : Value) (ns : List Int) : Prop := ∃ (t : Addr) (o : Obj) (xs : Array Value) (n : Nat), v = .ref t ∧ h.get? t = some o ∧ o.cls = .type "tuple" ∧ o.data = .seq xs n ∧ Vals (ns.map V.int) xs.toList
section
variable {prog : Program} {w : World} {A : Around} {E : Value → Shared → Prop} {s : Shared}
end
end RM

namespace RM
open PySem PySem.Spec PyProof.Rows L2
variable [PgW]
abbrev KD := List (List Key × D)
def KvX (K : PySem.W.Frag) (p : List (List Addr)) (G : Hp) : KD → XD → Prop
  | [], xs => xs = []
  | (k, d) :: r, xs => ∃ b v s, xs = (k, b, v) :: s ∧ SqT K G b (k.map kV) ∧ (∃ u, RelV u v ∧ Den K p G d u) ∧ KvX K p G r s
section
variable {K : PySem.W.Frag} {p q : List (List Addr)} {G G' : Hp}
theorem KvX.mono (hp : ∃ r, q = p ++ r) (e : Same G G') : ∀ {kv : KD} {xs : XD}, KvX K p G kv xs → KvX K q G' kv xs
  | [], _, h => h
  | (_, _) :: _, _, ⟨b, v, s, h1, h2, ⟨u, h3, h4⟩, h5⟩ => ⟨b, v, s, h1, SqT.mono e h2, ⟨u, h3, h4.mono hp e⟩, KvX.mono hp e h5⟩
theorem KvX.keys : ∀ {kv : KD} {xs : XD}, KvX K p G kv xs → KeysX K G xs
  | [], xs, h => by rw [show xs = [] from h]; intro x hx; cases hx
  | (k, d) :: r, _, ⟨b, v, s, h1, h2, _, h5⟩ => by
    subst h1
    intro x hx
    rcases List.mem_cons.mp hx with rfl | hx
    · exact h2
    · exact KvX.keys h5 x hx
theorem KvX.fst : ∀ {kv : KD} {xs : XD}, KvX K p G kv xs → xs.map (·.1) = kv.map (·.1)
  | [], xs, h => by rw [show xs = [] from h]; rfl
  | (k, d) :: r, _, ⟨b, v, s, h1, _, _, h5⟩ => by
    subst h1
    show k :: s.map (·.1) = k :: r.map (·.1)
    rw [KvX.fst h5]
theorem KvX.len {kv : KD} {xs : XD} (h : KvX K p G kv xs) : xs.length = kv.length := by
  have := congrArg List.length h.fst
  simpa using this
end
def getKD (kv : KD) (k : List Key) : Option D := (kv.find? fun x => decide (x.1 = k)).map (·.2)
def putKD (kv : KD) (k : List Key) (d : D) : KD := if (getKD kv k).isSome = true then kv.map (fun x => if x.1 = k then (x.1, d) else x) else kv ++ [(k, d)]
section
variable {K : PySem.W.Frag} {p : List (List Addr)} {G : Hp}
theorem KvX.at : ∀ {kv : KD} {xs : XD}, KvX K p G kv xs → ∀ k : List Key, (getKD kv k = none ∧ atKey xs k = none) ∨ ∃ d b v u, getKD kv k = some d ∧ atKey xs k = some (b, v) ∧ RelV u v ∧ Den K p G d u
  | [], xs, h, k => by rw [show xs = [] from h]; exact .inl ⟨rfl, rfl⟩
  | (k0, d) :: r, _, ⟨b, v, s, h1, h2, ⟨u, h3, h4⟩, h5⟩, k => by
    subst h1
    by_cases e : k0 = k
    · exact .inr ⟨d, b, v, u, by simp [getKD, e], by simp [atKey, e], h3, h4⟩
    · have ih := KvX.at h5 k
      have e1 : getKD ((k0, d) :: r) k = getKD r k := by simp [getKD, e]
      have e2 : atKey ((k0, b, v) :: s) k = atKey s k := by simp [atKey, e]
      rw [e1, e2]
      exact ih
theorem KvX.repl {k : List Key} {d : D} {u : V} {v : Value} (ru : RelV u v) (du : Den K p G d u) : ∀ {kv : KD} {xs : XD}, KvX K p G kv xs → KvX K p G (kv.map fun x => if x.1 = k then (x.1, d) else x) (xs.map (putAt k v))
  | [], xs, h => by rw [show xs = [] from h]; exact rfl
  | (k0, d0) :: r, _, ⟨b, v0, s, h1, h2, h3, h5⟩ => by
    subst h1
    have ih := KvX.repl ru du h5 (k := k)
    by_cases e : k0 = k
    · rw [List.map_cons, List.map_cons, if_pos e]
      exact ⟨b, v, _, by unfold putAt; rw [if_pos e], h2, ⟨u, ru, du⟩, ih⟩
    · rw [List.map_cons, List.map_cons, if_neg e]
      exact ⟨b, v0, _, by unfold putAt; rw [if_neg e], h2, h3, ih⟩
theorem KvX.snoc {k : List Key} {d : D} {u : V} {v : Value} {b : Addr} (hb : SqT K G b (k.map kV)) (ru : RelV u v) (du : Den K p G d u) : ∀ {kv : KD} {xs : XD}, KvX K p G kv xs → KvX K p G (kv ++ [(k, d)]) (xs ++ [(k, b, v)])
  | [], xs, h => by rw [show xs = [] from h]; exact ⟨b, v, [], rfl, hb, ⟨u, ru, du⟩, rfl⟩
  | (k0, d0) :: r, _, ⟨b0, v0, s, h1, h2, h3, h5⟩ => by
    subst h1
    exact ⟨b0, v0, _, rfl, h2, h3, KvX.snoc hb ru du h5⟩
theorem KvX.put {k : List Key} {d : D} {u : V} {v : Value} {b : Addr} {kv : KD} {xs : XD} (h : KvX K p G kv xs) (hb : SqT K G b (k.map kV)) (ru : RelV u v) (du : Den K p G d u) : KvX K p G (putKD kv k d) (storedH xs k b v) := by
  unfold putKD storedH
  rcases h.at k with ⟨e1, e2⟩ | ⟨d', b', v', u', e1, e2, _⟩
  · rw [e1, e2, if_neg (by simp), if_neg (by simp)]
    exact h.snoc hb ru du
  · rw [e1, e2]
    simp only [Option.isSome_some, if_true]
    exact h.repl ru du
end
section
variable {X : Cx} {pins : List (Addr × Obj)} {σ : L2.St} {H : Hp} {s : Shared} {a b : Addr} {A : Around} {E : Value → Shared → Prop} {xs : XD}
end
section
variable {α : Type} {X : Cx} {W : Wf} {g : DSt} {I : IC α} {rest : List Stmt} {m : M α} {e b : Expr} {me mb : M D} {pos : Pos}
end
end RM

namespace RM
open PySem PySem.Spec PyProof.Rows L2 PySem.W
variable [PgW]
section
variable {prog : Program} {w : World} {A : Around} {s : Shared}
end
section
variable {X : Cx} {pins : List (Addr × Obj)} {σ : L2.St} {H : Hp} {s : Shared}
end
end RM

namespace RM
open PySem PySem.Spec PyProof.Rows L2 PySem.W
variable [PgW]
def tI (ns : List Int) : D := .tup (ns.map D.int)
section
variable {K : PySem.W.Frag} {p : List (List Addr)} {G H : Hp}
end
section
variable {X : Cx} {W : WX} {g : DSt} {a : Expr} {ma : M D} {p pos : Pos}
end
end RM

namespace RM
open PySem PySem.Spec PyProof.Rows L2 PySem.W
variable [PgW]
section
variable {X : Cx} {pins : List (Addr × Obj)} {σ : L2.St} {H : Hp} {s : Shared}
end
section
variable {X : Cx} {W : WX} {g : DSt} {e : Expr} {ma : M D} {p p2 kp pos : Pos}
end
end RM

namespace RM
open PySem PySem.Spec PyProof.Rows L2 PySem.W
variable [PgW]
section
variable {prog : Program} {w : World} {A : Around} {s : Shared} {E : Value → Shared → Prop}
end
section
variable {X : Cx} {pins : List (Addr × Obj)} {σ : L2.St} {H : Hp} {s : Shared} {params : Arguments} {body : Expr} {scope : Scope} {pos : Pos} {c P : Addr}
end
end RM

namespace RM
open PySem PySem.Spec PyProof.Rows L2 PySem.W
variable [PgW]
section
variable {X : Cx} {W : WX} {g : DSt} {e : Expr} {ma : M D} {p kp pos lpos : Pos} {j : Nat} {fnm q x : Str} {params : Arguments} {scope : Scope} {p1 p2 p3 p4 p5 : Pos} {i : Nat}
end
end RM

namespace RM
open PySem PySem.Spec PyProof.Rows L2
variable [PgW]
def lendF (m : M (List D)) : M (List D) := B (noE m) fun ds => if noLstL ds then pure ds else stuck
theorem lendF_eq (m : M (List D)) (S : Sto) : lendF m S = checked noLstL (m S) := by
  show (noE m S).andThen _ = _
  unfold noE
  cases e : m S with
  | ok d S1 =>
    show (if noLstL d = true then pure d else stuck : M (List D)) S1 = if noLstL d = true then .ok d S1 else .stuck
    split <;> rfl
  | exc e S1 => rfl
  | stuck => rfl
section
variable {K : PySem.W.Frag} {p : List (List Addr)} {G H : Hp}
end
section
variable {X : Cx} {g : DSt} {e : Expr} {me : M (List D)}
@[simp] theorem lendF_pure (ds : List D) : lendF (pure ds) = if noLstL ds then pure ds else stuck := Eq.trans rfl rfl
@[simp] theorem lendF_B {α : Type} (m : M α) (f : α → M (List D)) (d : Dep f) : lendF (B m f d) = B (noE m) (fun x => lendF (f x)) := by
  funext S
  rw [lendF_eq]
  show checked _ ((m S).andThen f) = ((noE m S).andThen fun x => lendF (f x))
  unfold noE
  cases e : m S with
  | ok x S1 =>
    show checked noLstL (f x S1) = lendF (f x) S1
    rw [lendF_eq]
  | exc z S1 => rfl
  | stuck => rfl
end
end RM

namespace RM
open PySem PySem.Spec PyProof.Rows L2
variable [PgW]
section
variable {α : Type} {X : Cx} {W : Wf} {g : DSt} {I : IC α} {rest : List Stmt} {T : Tgt} {tg : Expr} {pos : Pos}
end
end RM

namespace RM
open PySem PySem.Spec PyProof.Rows L2
variable [PgW]
def valD : List Key → List D → Key → Option D
  | k :: ks, x :: xs, j => if k = j then some x else valD ks xs j
  | _, _, _ => none
section
variable {X : Cx} {W : WX} {g : DSt} {a b e : Expr} {ma mb me : M D}
end
section
variable {X : Cx} {W : WX} {g : DSt} {a : Expr} {es : List Expr} {kw : List Keyword} {ms mk : List (M D)} {pos p : Pos} {k : Nat} {f : Addr} {fd : FuncData} {ps ks : List Str} {gf : List D → M (List D)} {dvs : List V} {ds : List Value} {dds : List D} {is : List Nat} {n : Nat} {x : Str}
end
end RM

namespace RM
open PySem PySem.Spec PyProof.Rows L2
variable [PgW]
section
variable {K : PySem.W.Frag} {p : List (List Addr)} {G : Hp}
end
section
variable {X : Cx} {W : WX} {g : DSt} {e i : Expr} {me mi : M D} {tg : Expr} {apos cpos pos p : Pos}
def keyOf : D → Option Key
  | .int i => some (.inl i)
  | .str x => some (.inr x)
  | _ => none
end
end RM

namespace RM
open PySem PySem.Spec PyProof.Rows L2
variable [PgW]
section
variable {prog : Program} {w : World} {A : Around} {E : Value → Shared → Prop} {s : Shared} {T : String} {r d : Addr} {n : Nat} {P : Nat → Value → Prop} {OK : Heap → Prop}
end
section
variable {X : Cx}
end
section
variable {X : Cx} {W : WX} {g : DSt} {e : Expr} {me : M D} {apos cpos pos p : Pos}
end
end RM

namespace RM
open PySem PySem.Spec PyProof.Rows L2
variable [PgW]
abbrev KV1 := List (Key × D)
def hasA (acc : KV1) (k : Key) : Bool := acc.any fun x => decide (x.1 = k)
def putA (acc : KV1) (k : Key) (d : D) : KV1 := if hasA acc k then acc.map fun x => if x.1 = k then (x.1, d) else x else acc ++ [(k, d)]
def KvR (K : PySem.W.Frag) (p : List (List Addr)) (G : Hp) : KV1 → List (Key × V) → Prop
  | [], kvs => kvs = []
  | (k, d) :: r, kvs => ∃ v s, kvs = (k, v) :: s ∧ Den K p G d v ∧ KvR K p G r s
section
variable {K : PySem.W.Frag} {p q : List (List Addr)} {G G' : Hp}
theorem KvR.mono (hp : ∃ r, q = p ++ r) (e : Same G G') : ∀ {acc : KV1} {kvs : List (Key × V)}, KvR K p G acc kvs → KvR K q G' acc kvs
  | [], _, h => h
  | (_, _) :: _, _, ⟨v, s, h1, h2, h3⟩ => ⟨v, s, h1, h2.mono hp e, KvR.mono hp e h3⟩
theorem KvR.len : ∀ {acc : KV1} {kvs : List (Key × V)}, KvR K p G acc kvs → kvs.length = acc.length
  | [], _, h => by rw [show _ = [] from h]; rfl
  | (_, _) :: _, _, ⟨v, s, h1, h2, h3⟩ => by rw [h1, List.length_cons, List.length_cons, KvR.len h3]
theorem KvR.fst : ∀ {acc : KV1} {kvs : List (Key × V)}, KvR K p G acc kvs → kvs.map Prod.fst = acc.map Prod.fst
  | [], _, h => by rw [show _ = [] from h]; rfl
  | (k, _) :: _, _, ⟨v, s, h1, h2, h3⟩ => by rw [h1, List.map_cons, List.map_cons, KvR.fst h3]
theorem KvR.zip : ∀ {ks : List Key} {xs : List D} {vs : List V}, xs.length = ks.length → DenL K p G xs vs → KvR K p G (ks.zip xs) (ks.zip vs)
  | [], [], vs, _, h => by rw [show vs = [] from h]; exact rfl
  | [], _ :: _, _, h, _ => by simp at h
  | k :: ks, [], _, h, _ => by simp at h
  | k :: ks, x :: xs, _, h, ⟨v, r, e, h1, h2⟩ => by
    subst e
    exact ⟨v, ks.zip r, rfl, h1, KvR.zip (by simpa using h) h2⟩
theorem KvR.has (k : Key) : ∀ {acc : KV1} {kvs : List (Key × V)}, KvR K p G acc kvs → (kvs.any fun kv => decide (kv.1 = k)) = hasA acc k
  | [], _, h => by rw [show _ = [] from h]; rfl
  | (k0, _) :: r, _, ⟨v, s, h1, h2, h3⟩ => by
    rw [h1]
    show (decide (k0 = k) || _) = (decide (k0 = k) || _)
    rw [KvR.has k h3]; rfl
theorem KvR.repl {k : Key} {d : D} {v : V} (dn : Den K p G d v) : ∀ {acc : KV1} {kvs : List (Key × V)}, KvR K p G acc kvs → KvR K p G (acc.map fun x => if x.1 = k then (x.1, d) else x) (kvs.map fun x => if x.1 = k then (x.1, v) else x)
  | [], _, h => by rw [show _ = [] from h]; exact rfl
  | (k0, d0) :: r, _, ⟨v0, s, h1, h2, h3⟩ => by
    rw [h1, List.map_cons, List.map_cons]
    by_cases e : k0 = k
    · rw [if_pos e, if_pos e]; exact ⟨v, _, rfl, dn, KvR.repl dn h3⟩
    · rw [if_neg e, if_neg e]; exact ⟨v0, _, rfl, h2, KvR.repl dn h3⟩
theorem KvR.snoc {k : Key} {d : D} {v : V} (dn : Den K p G d v) : ∀ {acc : KV1} {kvs : List (Key × V)}, KvR K p G acc kvs → KvR K p G (acc ++ [(k, d)]) (kvs ++ [(k, v)])
  | [], _, h => by rw [show _ = [] from h]; exact ⟨v, [], rfl, dn, rfl⟩
  | (k0, d0) :: r, _, ⟨v0, s, h1, h2, h3⟩ => by rw [h1]; exact ⟨v0, _, rfl, h2, KvR.snoc dn h3⟩
theorem KvR.put {k : Key} {d : D} {v : V} {acc : KV1} {kvs : List (Key × V)} (h : KvR K p G acc kvs) (dn : Den K p G d v) : KvR K p G (putA acc k d) (putK kvs k v) := by
  have e := h.has k
  unfold putA putK
  rw [e]
  cases hasA acc k with
  | true => exact h.repl dn
  | false => exact h.snoc dn
end
section
variable {X : Cx} {W : WX} {g : DSt} {kx vx tg iter : Expr} {ifs : List Expr} {scope : Scope} {own : List (Str × Nat)} {pos : Pos} {T : Tgt} {mi : M (List D)} {mt : D → M Bool} {mk mv : D → M D}
end
end RM

namespace PySem
open PySem PySem.Spec PyProof.Rows L2
section
variable {prog : Program} {w : World} {K : Type} [DecidableEq K] {knd : KeyKind prog w K} {A : Around} {E : Value → Shared → Prop} {s : Shared}
end
end PySem

namespace PySem
open PySem PySem.Spec PyProof.Rows L2
section
variable {prog : Program} {w : World} {A : Around} {E : Value → Shared → Prop} {s : Shared}
end
end PySem

namespace RM
open PySem PySem.Spec PyProof.Rows L2
variable [PgW]
end RM

namespace RM
open PySem PySem.Spec PyProof.Rows L2
variable [PgW]
section
variable {X : Cx} {W : WX} {g : DSt} {d k v : Expr} {md mk mv : M D} {pos : Pos}
end
end RM

namespace DTI
open PySem PySem.W PySem.Calls PyProof.Rows PyProof.V PySem.Spec
open DT
def intOf : Option Value → Int
  | some (.int i _) => i
  | _ => 0
def keyI (h : Heap) (v : Value) : Int := intOf (seqAt0 h (refOf (some v)))
def PairI (h : Heap) (v : Value) (k : Int) (u : Value) : Prop := ∃ (a : Addr) (t : Tok), v = .ref a ∧ IsTup h a #[.int k t, u]
theorem PairI.key {h : Heap} {v : Value} {k : Int} {u : Value} (x : PairI h v k u) : keyI h v = k := by
  obtain ⟨a, t, rfl, h1⟩ := x
  show intOf (seqAt0 h a) = k
  rw [seqAt0_of h1]
  rfl
section
variable {prog : Program} {w : World} {A : Around} {E : Value → Shared → Prop} {s : Shared}
end
end DTI
namespace RM
open PySem PySem.Spec PyProof.Rows L2
variable [PgW]
abbrev entI (e : Int × V) : Key × V := (Sum.inl e.1, e.2)
section
variable {X : Cx}
end
end RM

namespace RM
open PySem PySem.Spec PyProof.Rows L2
variable [PgW]
def getA (kv : KV1) (k : Key) : Option D := (kv.find? fun x => decide (x.1 = k)).map (·.2)
def dropA (kv : KV1) (k : Key) : KV1 := kv.filter fun x => decide (x.1 ≠ k)
section
variable {K : PySem.W.Frag} {p : List (List Addr)} {G : Hp}
theorem KvR.get (k : Key) : ∀ {kv : KV1} {kvs : List (Key × V)}, KvR K p G kv kvs → (getA kv k = none ∧ valV kvs k = none) ∨ ∃ d v, getA kv k = some d ∧ valV kvs k = some v ∧ Den K p G d v
  | [], _, h => by rw [show _ = [] from h]; exact .inl ⟨rfl, rfl⟩
  | (k0, d) :: r, _, ⟨v, s, h1, h2, h3⟩ => by
    rw [h1]
    by_cases e : k0 = k
    · exact .inr ⟨d, v, by simp [getA, e], by rw [valV_pos (p := (k0, v)) e], h2⟩
    · have e1 : getA ((k0, d) :: r) k = getA r k := by simp [getA, e]
      rw [e1, valV_neg (p := (k0, v)) e]
      exact KvR.get k h3
theorem KvR.drop (k : Key) : ∀ {kv : KV1} {kvs : List (Key × V)}, KvR K p G kv kvs → KvR K p G (dropA kv k) (dropK kvs k)
  | [], _, h => by rw [show _ = [] from h]; exact rfl
  | (k0, d) :: r, _, ⟨v, s, h1, h2, h3⟩ => by
    rw [h1]
    have ih := KvR.drop k h3
    by_cases e : k0 = k
    · have e1 : dropA ((k0, d) :: r) k = dropA r k := by simp [dropA, e]
      have e2 : dropK ((k0, v) :: s) k = dropK s k := by simp [dropK, e]
      rw [e1, e2]; exact ih
    · have e1 : dropA ((k0, d) :: r) k = (k0, d) :: dropA r k := by simp [dropA, e]
      have e2 : dropK ((k0, v) :: s) k = (k0, v) :: dropK s k := by simp [dropK, e]
      rw [e1, e2]; exact ⟨v, _, rfl, h2, ih⟩
end
section
variable {X : Cx} {W : WX} {a : Expr} {es : List Expr} {ms : DSt → M (List DV)} {pd : Pos}
end
section
variable {α : Type} {X : Cx} {W : Wf} {g : DSt} {I : IC α} {rest : List Stmt} {m : M α} {e b : Expr} {me mb : M D} {pos : Pos}
end
def intsKV : KV1 → Option (List (Int × D))
  | [] => some []
  | (.inl i, d) :: r => (intsKV r).map ((i, d) :: ·)
  | _ :: _ => none
section
variable {K : PySem.W.Frag} {p : List (List Addr)} {G : Hp}
theorem KvR.ints : ∀ {kv : KV1} {kvs : List (Key × V)} {xs : List (Int × D)}, KvR K p G kv kvs → intsKV kv = some xs → ∃ zz : List (Int × V × D), kvs = (zz.map fun z => (z.1, z.2.1)).map entI ∧ xs = zz.map (fun z => (z.1, z.2.2)) ∧ ∀ z ∈ zz, Den K p G z.2.2 z.2.1
  | [], _, _, h, e => by
    rw [show _ = [] from h]
    cases e
    exact ⟨[], rfl, rfl, fun _ hz => by cases hz⟩
  | (.inl i, d) :: r, _, xs, ⟨v, s, h1, h2, h3⟩, e => by
    have e : (intsKV r).map ((i, d) :: ·) = some xs := e
    obtain ⟨ys, e1, rfl⟩ := Option.map_eq_some_iff.mp e
    obtain ⟨zz, q1, q2, q3⟩ := KvR.ints h3 e1
    refine ⟨(i, v, d) :: zz, by rw [h1, q1]; rfl, by rw [q2]; rfl, fun z hz => ?_⟩
    rcases List.mem_cons.mp hz with rfl | hz
    · exact h2
    · exact q3 z hz
  | (.inr _, _) :: _, _, _, _, e => by cases e
end
section
variable {X : Cx} {W : WX} {g : DSt} {e : Expr} {me : M D} {p p2 pos apos cpos : Pos}
end
end RM

namespace RM
open PySem PySem.Spec PyProof.Rows L2
variable [PgW]
def EqLs (R : D → D → Bool → Prop) : List D → List D → Bool → Prop
  | [], [], r => r = true
  | x :: xs, y :: ys, r => (R x y true ∧ EqLs R xs ys r) ∨ (R x y false ∧ r = false)
  | _, _, r => r = false
theorem EqLs.len {R : D → D → Bool → Prop} {xs ys : List D} {b : Bool} : ∀ {n : Nat}, n = min xs.length ys.length → EqLs R (xs.drop n) (ys.drop n) b → b = (xs.length == ys.length) := by
  intro n en h
  rcases Nat.lt_trichotomy xs.length ys.length with z | z | z
  · rw [en, Nat.min_eq_left (Nat.le_of_lt z), List.drop_length, List.drop_eq_getElem_cons z] at h
    rw [show b = false from h]
    exact (beq_eq_false_iff_ne.mpr (by omega)).symm
  · rw [en, z, Nat.min_self, List.drop_length, ← z, List.drop_length] at h
    rw [show b = true from h, z]
    exact (beq_self_eq_true _).symm
  · rw [en, Nat.min_eq_right (Nat.le_of_lt z), List.drop_length, List.drop_eq_getElem_cons z] at h
    rw [show b = false from h]
    exact (beq_eq_false_iff_ne.mpr (by omega)).symm
section
variable {X : Cx} {k : Nat} {T : MT}
open Classical in
variable {V : Wf}
end
end RM

namespace RM
open PySem PySem.Spec PyProof.Rows L2
variable [PgW]
section
variable {X : Cx}
end
section
variable {α : Type} {X : Cx} {W : Wf} {g : DSt} {I : IC α} {rest : List Stmt} {tg : Expr} {T : Tgt} {pos : Pos}
end
end RM

namespace GT
open PySem PySem.SeqAt
open AutoSeq1 (wpAny_loadPart')
open MeetsSeq MeetsSeq2 MeetsSeq3 SeqRoads2
section
variable {prg : Program} {wd : World} {Ar : Around} {Re : Result → Shared → Prop}
end
end GT
namespace RM
open PySem PySem.Spec PyProof.Rows L2
variable [PgW]
section
variable {X : Cx} {k : Nat} {T : MT}
variable {V : Wf}
end
end RM

namespace RM
open PySem PySem.Spec PyProof.Rows L2
variable [PgW]
section
variable {X : Cx} {W : WX} {g : DSt} {k v : Expr} {mk mv : M D} {pos : Pos}
end
end RM

namespace PySem
section
variable {prog : Program} {w : World} {A : Around} {E : Value → Shared → Prop} {s : Shared}
end
end PySem
namespace RM
open PySem PySem.Spec PyProof.Rows L2
variable [PgW]
section
variable {X : Cx} {W : WX} {g : DSt} {a b : Expr} {ma mb : M D} {pos : Pos}
end
def NK (K : PySem.W.Frag) (H : Hp) (v : V) : Prop := (∃ k : Key, v = kV k) ∨ ∃ (c : Addr) (ks : List Key), v = .ref c ∧ SqT K H c (ks.map kV)
theorem NK.mono {K : PySem.W.Frag} {H H' : Hp} {v : V} (e : Same H H') (h : NK K H v) : NK K H' v := h.imp id fun ⟨c, ks, h1, h2⟩ => ⟨c, ks, h1, SqT.mono e h2⟩
section
variable {X : Cx} {W : WX} {g : DSt} {k v : Expr} {mk mv : M D} {pos : Pos}
end
end RM

namespace RM
open PySem PySem.Spec PyProof.Rows L2
variable [PgW]
section
variable {X : Cx} {V : Wf}
end
end RM

namespace RM
open PySem PySem.Spec PyProof.Rows L2
variable [PgW]
section
variable {X : Cx}
end
section
variable {X : Cx} {V : WX} {W : Wf} {g : DSt} {elt iter tg : Expr} {ifs : List Expr} {scope : Scope} {own : List (Str × Nat)} {T : Tgt} {mi : M (List D)} {mt : D → M Bool} {me : D → M D} {pos : Pos}
end
end RM

namespace RM
open PySem PySem.Spec PyProof.Rows L2
variable [PgW]
structure Knows (Y : Cx) (cl : List (Str × Addr)) (fr : List Str) (ws : List (Option V)) : Prop where
  now : ∀ {pins : List (Addr × Obj)} {σ : L2.St} {H : Hp} {s : Shared}, Inv Y pins σ H s → NdefX.CellsAt cl fr ws s.heap H
theorem Knows.base {Y : Cx} {cl : List (Str × Addr)} {fr : List Str} {ws : List (Option V)} (C : NdefX.CellsAt cl fr ws Y.s_0.heap Y.H_0) (hx : Y.ex = []) : Knows Y cl fr ws := by
  refine ⟨fun {pins σ H s} I => ?_⟩
  have kp : ∀ y c, cl.lookup y = some c → ∀ v, Y.s_0.heap.IsCell c v → s.heap.IsCell c v := fun y c e v ⟨o, ho, hd⟩ => by
    obtain ⟨sl, q⟩ := I.base.any ho (C.all y c e).1 (by rw [hx]; simp)
    exact ⟨_, q, hd⟩
  refine ⟨C.len, fun y c e => ?_, C.inj, fun i y e => ?_⟩
  · obtain ⟨n, v, z⟩ := C.all y c e
    refine ⟨?_, v, kp y c e v z⟩
    obtain ⟨o, ho, _⟩ := z
    exact I.base.free c o ho n (by rw [hx]; simp)
  · obtain ⟨c, hc, hv⟩ := C.has i y e
    refine ⟨c, hc, fun v ev => ?_⟩
    obtain ⟨u, r, z⟩ := hv v ev
    exact ⟨u, r, kp y c hc _ z⟩
theorem Knows.blk {Z : Cx} {cl : List (Str × Addr)} {fr : List Str} {ws : List (Option V)} (k : Knows Z cl fr ws) {pins : List (Addr × Obj)} {σ : L2.St} {s : Shared} {H : Hp} {fp : List Addr} (M : RM.Mk Z pins σ s H fp) {bs : Scope} {cenv : Env} : Knows (Z.blk s H bs cenv fp) cl fr ws := ⟨fun I => k.now (M.now I)⟩
def FnP (q : Str) (cells : List (Str × Addr)) (L : LamD) (f c' : Addr) (K : PySem.W.Frag) (gw : DSt) (ws : List (Option V)) : List (List Addr) → Hp → Prop := fun p G => (∀ H : Hp, SlotsR K p G H gw ws []) ∧ FnAt q cells L f c' G
theorem slots_args {K : PySem.W.Frag} {p : List (List Addr)} {G H : Hp} {gw : DSt} {ws : List (Option V)} (h : SlotsR K p G H gw ws []) : ∀ {ds : List D} {vs : List V}, DenL K p G ds vs → SlotsR K p G H (ds.map (fun d => some (.val d)) ++ gw) (vs.map some ++ ws) []
  | [], _, e => by
    rw [show _ = [] from e]; exact h
  | d :: ds, _, ⟨v, r, e, h1, h2⟩ => by
    rw [e]
    exact ⟨some v, r.map some ++ ws, [], [], rfl, rfl, ⟨rfl, v, rfl, h1⟩, slots_args h h2⟩
def nfOf (q : Str) (cells : List (Str × Addr)) (L : LamD) (c' : Addr) : NdefX.NF := ⟨"<lambda>", q ++ "<lambda>", L.params, [], L.scope, cloFrom cells L.scope.names [], c'⟩
abbrev lamY (Y : Cx) (N : List Str) (q : Str) (cells : List (Str × Addr)) (L : LamD) (f c' : Addr) (A : Around) (outer : List Env) (s : Shared) (H : Hp) : Cx := NdefX.ncx (L2.CX Y.prog Y.w) Y.prog Y.w Y.K Y.mg Y.base N (nfOf q cells L c') f A outer s H fun _ _ _ => False
section
variable {Y : Cx} {W : WX} {g : DSt} {a : Str} {e : Expr} {es : List Expr} {ms : List (M D)} {q : Str} {cells : List (Str × Addr)} {L : LamD} {f c' : Addr} {gw : DSt} {ws : List (Option V)} {N ps fr : List Str} {k : Nat} {fit : List D → M D} {p1 pos : Pos}
theorem xe_act (i : Nat) (kn : Knows Y (cloFrom cells L.scope.names []) fr ws) (hg : g[i]? = some (some (.lam (.ref f) (FnP q cells L f c' Y.K gw ws)))) (hN : Y.N[i]? = some a) (hv : Vis Y.env.scope a) (hr : Room (k + 1) Y.A) (hG : Y.A.guards = some []) (S : NdefX.NScope N ps fr L.scope) (hl : N.length = ps.length + fr.length)
    (hbind : ∀ (pm cv ctv : Value) (us : List Value), us.length = ps.length → bindArgs (PySem.W.kla_fn "<lambda>" (q ++ "<lambda>") L.params L.body L.scope (cloFrom cells L.scope.names []) pm cv ctv) ⟨us, []⟩ = pure (ps.zip us))
    (hlen : ∀ (ds : List D) (S : Sto), ds.length ≠ ps.length → fit ds S = .stuck)
    (hbody : ∀ (A : Around) (outer : List Env) (s : Shared) (H : Hp) (ds : List D), ds.length = ps.length → BodyX (lamY Y N q cells L f c' A outer s H) k (fun _ _ _ => False) → XE (lamY Y N q cells L f c' A outer s H) (fun _ _ _ _ => False) (ds.map (fun d => some (.val d)) ++ gw) L.body (fit ds))
    (ha : XA Y W g (e :: es) ms) (hd : (a == ("__debug__" : Str)) = false := by decide) (hcd : (a == ("__classdict__" : Str)) = false := by decide)
    (he : starEach (e :: es) Y.env = (false, eval e Y.env) :: starEach es Y.env := by rfl) (hpl : (backTo pos (starEach es Y.env)).any (·.1) = false := by rfl) :
    XE Y W g (.Call (.Name a p1) (e :: es) [] pos) (argsB ms fun ds => noE (fit ds)) := by
  refine ⟨fun pins s σ H Q I ⟨p, G, S0, ow, r, h⟩ => ?_⟩
  obtain ⟨eσ, hsl, ⟨pm, ctv, hf⟩, hc⟩ := r.sl.getL hg
  refine wpAny_Call_Name_kw (thn ((pe_var (pos := p1) hN hv hd hcd).run pins s σ H (fun v H1 => v = .ref f ∧ H1 = H) I ⟨_, eσ, rfl, rfl⟩) fun u s1 ⟨v, H1, I1, r1, ev, eH⟩ => ?_)
  subst ev
  rw [eH] at I1
  obtain rfl : u = Value.ref f := r1
  have ob : ∀ {σ2 : L2.St} {pins2 : List (Addr × Obj)} {s2 : Shared} {H2 : Hp}, Inv Y pins2 σ2 H2 s2 → H2 f = some (.frz (lamO q cells L c' pm ctv) (.own f)) → s2.heap.get? f = some (lamO q cells L c' pm ctv) := fun I2 e => (I2.hok f _ e).1
  rw [argsB_eq] at h
  refine PySem.W.callWith_F (first := []) ⟨_, _, _, _, ob I1 (r.rel.sub _ _ hf)⟩ (thn (ha.run pos pins s1 σ H (fun vs H2 => ∃ ds p2 G2 S2, DenL Y.K p2 G2 ds vs ∧ Rel0 Y.K p2 S2 G2 H2 ∧ Ext p G H p2 G2 H2 ∧ okR (Den Y.K) Y.K p2 G2 H2 (fun _ _ _ => False) (fit ds S2) Q) I1
    ⟨p, G, S0, ow, r, okR.seq (R1 := DenL Y.K) h fun ds S2 vs p2 G2 H2 e1 dn r2 x2 h2 => ⟨ds, p2, G2, S2, dn, r2, x2, okR.noE h2⟩⟩) fun us s2 ⟨vs, H2, I2, rv, ds, p2, G2, S2, dn, r2, x2, h2⟩ => ⟨⟨_, _, _, _, ob I2 (r2.sub _ _ (x2.g _ _ hf))⟩, ?_⟩) he hpl
  show wpAny _ _ (call (.ref f) us) _ _ _
  by_cases hn : ds.length = ps.length
  · have C := kn.now I2
    have lv := dn.length
    have lu := rv.length
    obtain ⟨⟨oc, xs, t, hoc, hdc, hvc⟩, _, _⟩ := I2.hok c' _ (r2.sub _ _ (x2.g _ _ hc))
    have rc : codeAny (model Y.prog Y.w) Y.A (.call (.ref f) ⟨us, []⟩) (CR (L2.CX Y.prog Y.w) Y.stack Y.prog Y.w H2 s2 Q fun _ _ _ => False) s2 := by
      refine PySem.W.kla_callFunE hr.depth (ob I2 (r2.sub _ _ (x2.g _ _ hf))) rfl S.co S.gen rfl ⟨c', oc, xs, t, rfl, hoc, hdc, hvc⟩ ?_
      rw [hbind _ _ _ us (by omega)]
      refine wpAny_pure (wpAny_newFunctionEnv S.nocell (fun ⟨n, _⟩ hy => S.par n (List.of_mem_zip hy).1) (fun h₁ hns hsb => ⟨I2.nolimit.fresh _ hsb, ?_⟩) S.kind)
      show codeAny _ _ (.expr L.body (NdefX.envF (nfOf q cells L c') f s2.heap.objs.size)) _ _
      have kp : ∀ b o, s2.heap.get? b = some o → h₁.get? b = some o := fun b o e => hsb.extBut b o (Nat.ne_of_lt (Heap.lt_size e)) (Heap.get?_push_of_some _ e)
      have J := NdefX.inv_startN (CX := L2.CX Y.prog Y.w) (E := fun _ _ _ => False) (F := nfOf q cells L c') (f := f) (N := N) (tk := s2.toks + (ps.zip us).length) S hr.hd I2.env0 (by omega : vs.length = ps.length) rv C hns kp
      have es : NdefX.startF N vs ws = vs.map some ++ ws := by
        have := C.len
        unfold NdefX.startF
        rw [show N.length - vs.length - ws.length = 0 by omega]
        simp
      rw [es] at J
      refine PySem.W.kla_codeExpr (wpAny_mono ((hbody Y.A Y.stack s2 H2 ds hn ⟨hr.deeper _, hG, takes_of rfl rfl rfl rfl, passes_of rfl, rfl⟩).run [] _ _ H2 Q J ⟨p2, G2, S2, [], ⟨r2, slots_args ((hsl H2).mono x2.pp x2.g (fun _ z => by cases z)) dn, by rw [List.append_nil]; exact r2.nd, fun _ z => by cases z⟩, h2⟩) (fun v s' hq => ?_) fun e s' hq => hq)
      obtain ⟨w', H', J', rv, q⟩ := hq
      exact ⟨w', H', J'.os, J'.bare, J'.base, J'.hok, rv, q⟩
    refine wpAny_call (codeAny_mono rc fun rr s' hq => ?_)
    match rr, hq with
    | .error e, hq =>
      obtain ⟨_, _, _, _, _, _, _, _, _, _, _, _, z⟩ := hq
      exact z.elim
    | .ok (.ret u), hq => exact I2.after hq
    | .ok .next, hq => exact False.elim hq
    | .ok .brk, hq => exact False.elim hq
    | .ok .cont, hq => exact False.elim hq
  · rw [hlen ds S2 hn] at h2
    exact h2.elim
structure CallsF (Z : Cx) (i : Nat) (a : Str) (v : V) (R : List (List Addr) → Hp → Prop) (fit : List D → M D) : Prop where
  run : ∀ (Y : Cx), (Y = Z ∨ ∃ pins σ s H bs cenv fp, RM.Mk Z pins σ s H fp ∧ Y = Z.blk s H bs cenv fp) → ∀ {W : WX} {t : DSt} {e : Expr} {es : List Expr} {ms : List (M D)} {p1 pos : Pos}, t[i]? = some (some (.lam v R)) → Vis Y.env.scope a → XA Y W t (e :: es) ms →
    starEach (e :: es) Y.env = (false, eval e Y.env) :: starEach es Y.env → (backTo pos (starEach es Y.env)).any (·.1) = false → XE Y W t (.Call (.Name a p1) (e :: es) [] pos) (argsB ms fun ds => noE (fit ds))
theorem CallsF.blk {Z : Cx} {i : Nat} {a : Str} {v : V} {R : List (List Addr) → Hp → Prop} {fit : List D → M D} (cf : CallsF Z i a v R fit) {pins : List (Addr × Obj)} {σ : L2.St} {s : Shared} {H : Hp} {bs : Scope} {cenv : Env} {fp : List Addr} (MK : RM.Mk Z pins σ s H fp) {W : WX} {t : DSt} {e : Expr} {es : List Expr} {ms : List (M D)} {p1 pos : Pos}
    (ht : t[i]? = some (some (.lam v R)) := by rfl) (hv : Vis cenv.scope a := by first | exact Or.inl rfl | exact Or.inr (Or.inl rfl) | exact Or.inr (Or.inr rfl)) (ha : XA (Z.blk s H bs cenv fp) W t (e :: es) ms)
    (he : starEach (e :: es) cenv = (false, eval e cenv) :: starEach es cenv := by rfl) (hpl : (backTo pos (starEach es cenv)).any (·.1) = false := by rfl) : XE (Z.blk s H bs cenv fp) W t (.Call (.Name a p1) (e :: es) [] pos) (argsB ms fun ds => noE (fit ds)) :=
  cf.run _ (.inr ⟨pins, σ, s, H, bs, cenv, fp, MK, rfl⟩) ht hv ha he hpl
theorem CallsF.here {Z : Cx} {i : Nat} {a : Str} {v : V} {R : List (List Addr) → Hp → Prop} {fit : List D → M D} (cf : CallsF Z i a v R fit) {W : WX} {t : DSt} {e : Expr} {es : List Expr} {ms : List (M D)} {p1 pos : Pos}
    (ht : t[i]? = some (some (.lam v R)) := by rfl) (hv : Vis Z.env.scope a := by first | exact Or.inl rfl | exact Or.inr (Or.inl rfl) | exact Or.inr (Or.inr rfl)) (ha : XA Z W t (e :: es) ms)
    (he : starEach (e :: es) Z.env = (false, eval e Z.env) :: starEach es Z.env := by rfl) (hpl : (backTo pos (starEach es Z.env)).any (·.1) = false := by rfl) : XE Z W t (.Call (.Name a p1) (e :: es) [] pos) (argsB ms fun ds => noE (fit ds)) :=
  cf.run _ (.inl rfl) ht hv ha he hpl
theorem callsF_of {Z : Cx} (i : Nat) (kn : Knows Z (cloFrom cells L.scope.names []) fr ws) (hN : Z.N[i]? = some a) (hr : Room (k + 1) Z.A) (hG : Z.A.guards = some []) (S : NdefX.NScope N ps fr L.scope) (hl : N.length = ps.length + fr.length)
    (hbind : ∀ (pm cv ctv : Value) (us : List Value), us.length = ps.length → bindArgs (PySem.W.kla_fn "<lambda>" (q ++ "<lambda>") L.params L.body L.scope (cloFrom cells L.scope.names []) pm cv ctv) ⟨us, []⟩ = pure (ps.zip us))
    (hlen : ∀ (ds : List D) (S : Sto), ds.length ≠ ps.length → fit ds S = .stuck)
    (hbody : ∀ (A : Around) (outer : List Env) (s : Shared) (H : Hp) (ds : List D), ds.length = ps.length → BodyX (lamY Z N q cells L f c' A outer s H) k (fun _ _ _ => False) → XE (lamY Z N q cells L f c' A outer s H) (fun _ _ _ _ => False) (ds.map (fun d => some (.val d)) ++ gw) L.body (fit ds))
    (hd : (a == ("__debug__" : Str)) = false) (hcd : (a == ("__classdict__" : Str)) = false) : CallsF Z i a (.ref f) (FnP q cells L f c' Z.K gw ws) fit := by
  refine ⟨?_⟩
  intro Y hY W t e es ms p1 pos ht hv ha he hpl
  rcases hY with rfl | ⟨pins, σ, s, H, bs, cenv, fp, M, rfl⟩
  · exact xe_act i kn ht hN hv hr hG S hl hbind hlen hbody ha hd hcd he hpl
  · exact xe_act (Y := Z.blk s H bs cenv fp) i (kn.blk M) ht hN hv hr hG S hl hbind hlen hbody ha hd hcd he hpl
end
end RM

namespace RM
open PySem PySem.Spec PyProof.Rows L2
variable [PgW]
abbrev calY (X : Cx) (Ng : List Str) (ql : Str) (sg : Scope) (gA : Addr) (cdv : Value) (s : Shared) (H : Hp) : Cx := cxOf (L2.CX X.prog X.w) X.prog X.w X.K X.mg X.base Ng ql sg gA cdv X.A X.stack s H fun _ _ _ => False
section
variable {X : Cx} {W : WX} {g : DSt} {x nm ql : Str} {gA : Addr} {fd : FuncData} {psg : List Str} {pg : Arguments} {bg : List Stmt} {sg : Scope} {dvs : List V} {kws : List (Str × V)} {Ng : List Str} {k j : Nat} {fnm q : Str} {params : Arguments} {body : Expr} {scope : Scope}
end
end RM

namespace RM
open PySem PySem.Spec PyProof.Rows L2
variable [PgW]
theorem XS.cast {α : Type} {X : Cx} {W : Wf} {g g' : DSt} {I : IC α} {ss : List Stmt} {m : M α} (h : g = g') (d : XS X W g' I ss m) : XS X W g I ss m := by
  subst h; exact d
end RM

namespace RM
open PySem PySem.Spec PyProof.Rows L2
variable [PgW]
structure FnS (Y : Cx) (k : Nat) (N ps fr : List Str) (q : Str) (cells : List (Str × Addr)) (L : LamD) (f c' : Addr) (gw : DSt) (fit : List D → M D) : Prop where
  S : NdefX.NScope N ps fr L.scope
  hl : N.length = ps.length + fr.length
  bind : ∀ (pm cv ctv : Value) (us : List Value), us.length = ps.length → bindArgs (PySem.W.kla_fn "<lambda>" (q ++ "<lambda>") L.params L.body L.scope (cloFrom cells L.scope.names []) pm cv ctv) ⟨us, []⟩ = pure (ps.zip us)
  len : ∀ (ds : List D) (S : Sto), ds.length ≠ ps.length → fit ds S = .stuck
  body : ∀ (A : Around) (outer : List Env) (s : Shared) (H : Hp) (ds : List D), ds.length = ps.length → BodyX (lamY Y N q cells L f c' A outer s H) k (fun _ _ _ => False) → XE (lamY Y N q cells L f c' A outer s H) (fun _ _ _ _ => False) (ds.map (fun d => some (.val d)) ++ gw) L.body (fit ds)
def FnV (Z : Cx) (k : Nat) (v : V) (R : List (List Addr) → Hp → Prop) (fit : List D → M D) : Prop :=
  ∃ (N ps fr : List Str) (q : Str) (cells : List (Str × Addr)) (L : LamD) (f c' : Addr) (gw : DSt) (ws : List (Option V)), v = .ref f ∧ R = FnP q cells L f c' Z.K gw ws ∧ Knows Z (cloFrom cells L.scope.names []) fr ws ∧ FnS Z k N ps fr q cells L f c' gw fit
theorem FnP.mono {q : Str} {cells : List (Str × Addr)} {L : LamD} {f c' : Addr} {K : PySem.W.Frag} {gw : DSt} {ws : List (Option V)} {p p' : List (List Addr)} {G G' : Hp} (h : FnP q cells L f c' K gw ws p G) (hp : ∃ r, p' = p ++ r) (e : Same G G') : FnP q cells L f c' K gw ws p' G' :=
  ⟨fun H => (h.1 H).mono hp e (fun _ z => by cases z), h.2.mono e⟩
section
variable {X Z : Cx} {W : WX} {g : DSt} {v : V} {R : List (List Addr) → Hp → Prop} {fit : List D → M D} {k i : Nat} {a : Str}
theorem FnV.calls (h : FnV Z k v R fit) (i : Nat) (hN : Z.N[i]? = some a) (hr : Room (k + 1) Z.A) (hG : Z.A.guards = some []) (hd : (a == ("__debug__" : Str)) = false) (hcd : (a == ("__classdict__" : Str)) = false) : CallsF Z i a v R fit := by
  obtain ⟨N, ps, fr, q, cells, L, f, c', gw, ws, rfl, rfl, kn, S⟩ := h
  exact callsF_of i kn hN hr hG S.S S.hl S.bind S.len S.body hd hcd
theorem FnV.mono (h : FnV Z k v R fit) {p p' : List (List Addr)} {G G' : Hp} (r : R p G) (hp : ∃ r, p' = p ++ r) (e : Same G G') : R p' G' := by
  obtain ⟨N, ps, fr, q, cells, L, f, c', gw, ws, rfl, rfl, kn, S⟩ := h
  exact FnP.mono r hp e
inductive AK where
  | d (m : M D)
  | f (k : Nat) (fit : List D → M D)
  | l (j : Nat) (fnm q : Str) (k : Nat) (fit : List D → M D)
inductive Got (X : Cx) (σ : L2.St) (p : List (List Addr)) (G : Hp) : List AK → List D → DSt → List V → Prop where
  | nil : Got X σ p G [] [] [] []
  | d {m : M D} {d : D} {v : V} {ks : List AK} {ds : List D} {t : DSt} {vs : List V} (dn : Den X.K p G d v) (r : Got X σ p G ks ds t vs) : Got X σ p G (.d m :: ks) (d :: ds) (some (.val d) :: t) (v :: vs)
  | f {k : Nat} {fit : List D → M D} {v : V} {R : List (List Addr) → Hp → Prop} {ks : List AK} {ds : List D} {t : DSt} {vs : List V} (hR : ∀ p' G', (∃ r, p' = p ++ r) → Same G G' → R p' G')
      (hf : ∀ (pins : List (Addr × Obj)) (H : Hp) (s : Shared), Inv X pins σ H s → ∀ (Ng : List Str) (ql : Str) (sg : Scope) (gA : Addr) (cdv : Value), FnV (calY X Ng ql sg gA cdv s H) k v R fit) (r : Got X σ p G ks ds t vs) : Got X σ p G (.f k fit :: ks) ds (some (.lam v R) :: t) (v :: vs)
  | l {j : Nat} {fnm q : Str} {k : Nat} {fit : List D → M D} {v : V} {R : List (List Addr) → Hp → Prop} {ks : List AK} {ds : List D} {t : DSt} {vs : List V} (hR : ∀ p' G', (∃ r, p' = p ++ r) → Same G G' → R p' G')
      (hf : ∀ (pins : List (Addr × Obj)) (H : Hp) (s : Shared), Inv X pins σ H s → ∀ (Ng : List Str) (ql : Str) (sg : Scope) (gA : Addr) (cdv : Value), FnV (calY X Ng ql sg gA cdv s H) k v R fit) (r : Got X σ p G ks ds t vs) : Got X σ p G (.l j fnm q k fit :: ks) ds (some (.lam v R) :: t) (v :: vs)
theorem Got.sl {σ : L2.St} {p : List (List Addr)} {G : Hp} {ks : List AK} {ds : List D} {t : DSt} {vs : List V} (h : Got X σ p G ks ds t vs) (H : Hp) : SlotsR X.K p G H t (vs.map some) [] ∧ vs.length = ks.length := by
  induction h with
  | nil => exact ⟨⟨rfl, rfl⟩, rfl⟩
  | d dn r ih => exact ⟨⟨_, _, [], [], rfl, rfl, ⟨rfl, _, rfl, dn⟩, ih.1⟩, by simp [ih.2]⟩
  | f hR hf r ih => exact ⟨⟨_, _, [], [], rfl, rfl, ⟨rfl, rfl, hR⟩, ih.1⟩, by simp [ih.2]⟩
  | l hR hf r ih => exact ⟨⟨_, _, [], [], rfl, rfl, ⟨rfl, rfl, hR⟩, ih.1⟩, by simp [ih.2]⟩
variable {e : Expr} {es : List Expr} {m : M D} {ks : List AK}
theorem okR.map {α β δ : Type} {R : List (List Addr) → Hp → α → β → Prop} {R1 : List (List Addr) → Hp → α → δ → Prop} {K : PySem.W.Frag} {p : List (List Addr)} {G H : Hp} {Wx : Value → Option Addr → Hp → Prop} {r : Res α} {Q : β → Hp → Prop} {Q1 : δ → Hp → Prop} (h : okR R K p G H Wx r Q)
    (k : ∀ d S' v p' G' H', r = .ok d S' → R1 p' G' d v → Rel0 K p' S' G' H' → Ext p G H p' G' H' → (∀ u, R p' G' d u → Q u H') → Q1 v H') : okR R1 K p G H Wx r Q1 := by
  cases r with
  | ok d S' => exact fun v p' G' H' a b c => k d S' v p' G' H' rfl a b c fun u q => h u p' G' H' q b c
  | exc x S' => exact h
  | stuck => exact h
variable {nm ql x : Str} {gA : Addr} {fd : FuncData} {psg : List Str} {pg : Arguments} {bg : List Stmt} {sg : Scope} {dvs : List V} {kws : List (Str × V)} {Ng : List Str} {j : Nat} {fnm q : Str} {params : Arguments} {body : Expr} {scope : Scope}
end
end RM

namespace RM
open PySem PySem.Spec PyProof.Rows L2
variable [PgW]
section
variable {α : Type} {X : Cx} {W : Wf} {g : DSt} {I : IC α} {rest : List Stmt} {m : M α} {params : Arguments} {body : Expr} {scope : Scope} {j : Nat} {fnm q : Str} {lpos pos : Pos}
end
section
variable {X : Cx} {W : WX} {g : DSt} {fit : List D → M D} {k : Nat} {a : Str} {es : List Expr} {ks : List AK} {params : Arguments} {body : Expr} {scope : Scope} {f c' : Addr}
end
section
variable {Y : Cx} {W : WX} {g : DSt} {a : Str} {q : Str} {cells : List (Str × Addr)} {L : LamD} {f c' : Addr} {gw : DSt} {ws : List (Option V)} {N fr : List Str} {k : Nat} {fit : List D → M D} {p1 pos : Pos}
end
end RM

namespace RM
open PySem PySem.Spec PyProof.Rows L2
variable [PgW]
section
variable {X : Cx}
end
section
variable {α : Type} {X : Cx} {W : Wf} {g : DSt} {I : IC α} {rest : List Stmt} {tg : Expr} {T : Tgt} {pos : Pos}
end
end RM

namespace RM
open PySem PySem.Spec PyProof.Rows L2
variable [PgW]
section
variable {X : Cx} {V : Wf} {k : Nat} {T : MT} {g : DSt} {a b : Expr} {ma mb : M D} {pos : Pos}
end
def ItT (l it : Addr) : HO := .ext fun h => h.IsTupleIter it l 0
section
variable {prog : Program} {w : World} {A : Around} {E : Value → Shared → Prop} {s : Shared} {l : Addr} {items : Array Value}
end
structure FnIt (P : Program) (w : World) (K : PySem.W.Frag) (mg : Str → Option Value) (base : Heap) (k : Nat) (f : Addr) (fd : FuncData) (ps : List Str) (g : D → M D) : Prop where
  one : ps.length = 1
  go : ∀ (A : Around) (fr : List Env) (s : Shared) (H : Hp) (ar : Args) (u : Value) (v : L2.V) (d : D) (p : List (List Addr)) (G : Hp) (S : Sto) (Q : VK), A.guards = some [] → Room k A →
    Env0 P w K mg base A fr s H → BindsTo s fd ar (ps.zip [u]) → RelV v u → Den K p G d v → Rel0 K p S G H →
    okR (Den K) K p G H (fun _ _ _ => False) (g d S) (fun x H' => ∃ l zs, x = L2.V.ref l ∧ SqT K H' l zs ∧ ∀ it, H' it = none → s.heap.objs.size ≤ it → Q (.ref it) (upd H' it (ItT l it))) →
    codeAny (model P w) A (.call (.ref f) ar) (CR (L2.CX P w) fr P w H s Q fun _ _ _ => False) s
theorem FnIt.up {P : Program} {w : World} {K : PySem.W.Frag} {mg : Str → Option Value} {base : Heap} {j k : Nat} {f : Addr} {fd : FuncData} {ps : List Str} {g : D → M D} (F : FnIt P w K mg base j f fd ps g) (h : j ≤ k) : FnIt P w K mg base k f fd ps g :=
  ⟨F.one, fun A fr s H ar u v d p G S Q hg r => F.go A fr s H ar u v d p G S Q hg (r.mono h)⟩
section
variable {P : Program} {w : World} {K : PySem.W.Frag} {mg : Str → Option Value} {base : Heap} {x qual : Str} {params : Arguments} {scope : Scope} {dvs : List L2.V} {kws : List (Str × L2.V)} {f : Addr} {fd : FuncData}
end
section
variable {X : Cx} {W : WX} {gs : DSt} {e tg : Expr} {me : M D} {c : Str} {f : Addr} {fd : FuncData} {ps : List Str} {g : D → M D} {k : Nat}
end
end RM

namespace RM
open PySem PySem.Spec PyProof.Rows L2
variable [PgW]
def keyPy : Key → PyData
  | .inl i => .int i
  | .inr x => .str x
mutual
def toPyR : D → Option PyData
  | .non => some .none
  | .bl b => some (.bool b)
  | .int i => some (.int i)
  | .str x => some (.str x)
  | .tup xs => (toPyRL xs).map .tuple
  | .lst xs => (toPyRL xs).map .list
  | .dic ks vs => match toPyRL vs with
    | some ys => if ks.length = vs.length then some (.dict ((ks.map keyPy).zip ys)) else none
    | none => none
  | .ins _ _ _ => none
  | .mref _ => none
  | .scr _ => none
  | .xcp _ _ _ => none
  | .dct _ _ => none
def toPyRL : List D → Option (List PyData)
  | [] => some []
  | x :: xs => match toPyR x, toPyRL xs with
    | some y, some ys => some (y :: ys)
    | _, _ => none
end
def reprR : List D → M D
  | [d] => match toPyR d with
    | some x => if x.showable = true ∧ x.depth ≤ 64 ∧ x.shown.length ≤ sizeLine then pure (.str x.shown) else stuck
    | none => stuck
  | _ => stuck
theorem toPyRL_len : ∀ {xs : List D} {ys : List PyData}, toPyRL xs = some ys → ys.length = xs.length
  | [], ys, e => by cases e; rfl
  | x :: xs, ys, e => by
    have e' : (match toPyR x, toPyRL xs with
      | some y, some ys => some (y :: ys)
      | _, _ => none) = some ys := e
    cases q1 : toPyR x with
    | none => rw [q1] at e'; cases e'
    | some z =>
      cases q2 : toPyRL xs with
      | none => rw [q1, q2] at e'; cases e'
      | some zs =>
        rw [q1, q2] at e'
        cases e'
        rw [List.length_cons, List.length_cons, toPyRL_len q2]
theorem map_fst_zip2 {α β : Type} : ∀ {as : List α} {bs : List β}, bs.length = as.length → (as.zip bs).map (·.1) = as
  | [], bs, _ => by simp
  | a :: as, [], h => by simp at h
  | a :: as, b :: bs, h => by rw [List.zip_cons_cons, List.map_cons, map_fst_zip2 (by simpa using h)]
theorem map_snd_zip2 {α β : Type} : ∀ {as : List α} {bs : List β}, bs.length = as.length → (as.zip bs).map (·.2) = bs
  | [], [], _ => rfl
  | [], _ :: _, h => by simp at h
  | a :: as, [], h => by simp at h
  | a :: as, b :: bs, h => by rw [List.zip_cons_cons, List.map_cons, map_snd_zip2 (by simpa using h)]
theorem pairs_reads {P : Program} {w : World} {h : Heap} : ∀ {ks : List Key} {vs : List L2.V} {qs : List (Key × Value)} {es : List DictEntry}, vs.length = ks.length → KV (ks.zip vs) qs → Pairs (mixKind P w) es qs → ReadsAll h (es.map (·.key)) (ks.map keyPy) [] ∧ Vals vs (es.map (·.val))
  | [], [], qs, es, _, kv, hp => by
    cases kv
    cases hp
    exact ⟨.nil, .nil⟩
  | [], _ :: _, _, _, hl, _, _ => by simp at hl
  | k :: ks, [], _, _, hl, _, _ => by simp at hl
  | k :: ks, v :: vs, qs, es, hl, kv, hp => by
    cases kv with
    | cons h1 t1 =>
      cases hp with
      | @cons en _ es2 _ h2 h3 t2 =>
        obtain ⟨i1, i2⟩ := pairs_reads (by simpa using hl) t1 t2
        obtain ⟨j1, j2⟩ := h1
        have rd : Reads h en.key (keyPy k) [] := by
          rcases keyIs_shape h2 with ⟨i, t, e1, e2⟩ | ⟨x, t, e1, e2⟩
          · rw [e2, (show k = Sum.inl i from j1.trans e1)]
            exact Reads.int i t
          · rw [e2, (show k = Sum.inr x from j1.trans e1)]
            exact Reads.str x t
        refine ⟨by simpa using ReadsAll.cons rd i1, ?_⟩
        refine .cons ?_ i2
        show L2.RelV v en.val
        rw [h3]
        exact j2
section
variable {X : Cx} {pins : List (Addr × Obj)} {σ : L2.St} {G H : Hp} {s : Shared} {p : List (List Addr)}
mutual
theorem den_readsR (I : Inv X pins σ H s) (sub : Same G H) (hb : H sysModules = none) : ∀ {d : D} {v : L2.V} {u : Value} {x : PyData}, Den X.K p G d v → toPyR d = some x → RelV v u → ∃ as, Reads s.heap u x as ∧ sysModules ∉ as
  | .non, v, u, x, dn, e, r => by
    cases e
    cases (show v = _ from dn)
    cases r
    exact ⟨_, Reads.none, by simp⟩
  | .bl b, v, u, x, dn, e, r => by
    cases e
    cases (show v = _ from dn)
    cases r
    exact ⟨_, Reads.bool b, by simp⟩
  | .int i, v, u, x, dn, e, r => by
    cases e
    cases (show v = _ from dn)
    obtain ⟨t, rfl⟩ := r
    exact ⟨_, Reads.int i t, by simp⟩
  | .str y, v, u, x, dn, e, r => by
    cases e
    cases (show v = _ from dn)
    obtain ⟨t, rfl⟩ := r
    exact ⟨_, Reads.str y t, by simp⟩
  | .tup xs, v, u, x, dn, e, r => by
    obtain ⟨ys, e1, rfl⟩ := Option.map_eq_some_iff.mp (show (toPyRL xs).map PyData.tuple = some x from e)
    obtain ⟨a, vs, rfl, ha, hv⟩ := dn
    cases r
    obtain ⟨its, rv, ⟨o, ho, hc, n, hd⟩, _⟩ := I.tuple (SqT.mono sub ha)
    obtain ⟨as, hr, hn⟩ := den_readsRL I sub hb hv e1 rv
    exact ⟨_, Reads.tuple ho hc hd hr, hn⟩
  | .lst xs, v, u, x, dn, e, r => by
    obtain ⟨ys, e1, rfl⟩ := Option.map_eq_some_iff.mp (show (toPyRL xs).map PyData.list = some x from e)
    obtain ⟨a, vs, rfl, ha, hv⟩ := dn
    cases r
    have ha := sub _ _ ha
    obtain ⟨its, rv, ⟨o, n, ho, hc, _, hd⟩, _⟩ := I.list (.inl (.inl ha))
    obtain ⟨as, hr, hn⟩ := den_readsRL I sub hb hv e1 rv
    refine ⟨_, Reads.list ho hc hd hr, fun z => ?_⟩
    rcases List.mem_cons.mp z with z | z
    · rw [← z, hb] at ha; cases ha
    · exact hn z
  | .dic ks xs, v, u, x, dn, e, r => by
    cases q : toPyRL xs with
    | none =>
      have e' : (match toPyRL xs with
        | some ys => if ks.length = xs.length then some (PyData.dict ((ks.map keyPy).zip ys)) else none
        | none => none) = some x := e
      rw [q] at e'; cases e'
    | some ys =>
      have e' : (match toPyRL xs with
        | some ys => if ks.length = xs.length then some (PyData.dict ((ks.map keyPy).zip ys)) else none
        | none => none) = some x := e
      rw [q] at e'
      dsimp only at e'
      by_cases hl2 : ks.length = xs.length
      · rw [if_pos hl2] at e'
        cases e'
        obtain ⟨a, o1, vs, rfl, ha, hl, hv⟩ := dn
        cases r
        have ha := sub _ _ ha
        obtain ⟨_, hm, qs, kv, o, es, ep, ho, hx, hd, _, hp, _⟩ := dk_rd I.hok (.inr ⟨_, ha⟩)
        obtain ⟨k1, k2⟩ := pairs_reads (ks := ks) (vs := vs) hl kv hp
        obtain ⟨bs, h2, n2⟩ := den_readsRL I sub hb hv q k2
        have hy : ys.length = ks.length := by rw [hl2]; exact toPyRL_len q
        refine ⟨_, Reads.dict (kvs := (ks.map keyPy).zip ys) ho hx.1 hd (by rw [map_fst_zip2 (by rw [List.length_map, hy])]; exact k1) (by rw [map_snd_zip2 (by rw [List.length_map, hy])]; exact h2), fun z => ?_⟩
        simp at z
        rcases z with z | z
        · rw [← z] at hm
          simp at hm
        · exact n2 z
      · rw [if_neg hl2] at e'; cases e'
  | .ins _ _ _, _, _, _, _, e, _ => by cases e
  | .mref _, _, _, _, _, e, _ => by cases e
  | .scr _, _, _, _, _, e, _ => by cases e
  | .xcp _ _ _, _, _, _, _, e, _ => by cases e
  | .dct _ _, _, _, _, _, e, _ => by cases e
theorem den_readsRL (I : Inv X pins σ H s) (sub : Same G H) (hb : H sysModules = none) : ∀ {ds : List D} {vs : List L2.V} {us : List Value} {xs : List PyData}, DenL X.K p G ds vs → toPyRL ds = some xs → Vals vs us → ∃ as, ReadsAll s.heap us xs as ∧ sysModules ∉ as
  | [], vs, us, xs, dn, e, r => by
    cases e
    cases dn
    cases r
    exact ⟨_, ReadsAll.nil, by simp⟩
  | d :: ds, vs, us, xs, dn, e, r => by
    have e' : (match toPyR d, toPyRL ds with
      | some y, some ys => some (y :: ys)
      | _, _ => none) = some xs := e
    cases q1 : toPyR d with
    | none => rw [q1] at e'; cases e'
    | some z =>
      cases q2 : toPyRL ds with
      | none => rw [q1, q2] at e'; cases e'
      | some zs =>
        rw [q1, q2] at e'
        cases e'
        obtain ⟨w, ws, rfl, d1, d2⟩ := dn
        cases r with
        | cons r1 r2 =>
          obtain ⟨as, h1, n1⟩ := den_readsR I sub hb d1 q1 r1
          obtain ⟨bs, h2, n2⟩ := den_readsRL I sub hb d2 q2 r2
          exact ⟨_, ReadsAll.cons h1 h2, by simp [n1, n2]⟩
end
end
theorem call_reprR {X : Cx} {V : Wf} (hG : X.A.guards = some []) (hu : X.A.units + 66 < cLine) (hsm : ∃ o, X.base.get? sysModules = some o) : CallR X (.builtin "repr") (rA X.K V reprR) := by
  intro pins s σ H xs us Q I r ⟨ds, p, G, S, dn, r0, h⟩
  obtain ⟨ob, hob⟩ := hsm
  have hb : H sysModules = none := (I.bs _ _ hob).2
  unfold reprR at h
  split at h
  · rename_i d
    obtain ⟨v, rfl, dv⟩ := denL1 dn
    obtain ⟨u, rfl, rv⟩ := vals1 r
    cases e : toPyR d with
    | none => rw [e] at h; exact h.elim
    | some x =>
      rw [e] at h
      dsimp only at h
      by_cases hz : x.showable = true ∧ x.depth ≤ 64 ∧ x.shown.length ≤ sizeLine
      · rw [if_pos hz] at h
        obtain ⟨h1, h2, h3⟩ := hz
        have q : Q (.str x.shown) H := okR.fin (v := L2.V.str _) h rfl r0
        obtain ⟨as, rd, hn⟩ := den_readsR I r0.sub hb dv e rv
        have fin : ∀ {a : Addr}, Reads s.heap (.ref a) x as → wpAny (model X.prog X.w) X.A (call (.builtin "repr") [.ref a]) (EP X pins σ Q) X.xe s := fun {a} rd =>
          repr_of_reads' rd h1 (fun _ => hn) hG (by omega) (fun _ _ e => e) (fun h' u tk k => ⟨.str x.shown, H, I.kept k, ⟨_, rfl⟩, q⟩) h3
        cases d with
        | non =>
          cases e
          cases (show v = _ from dv)
          cases rv
          exact PySem.P.repr_of_none ⟨.str _, H, I.tok _, ⟨_, rfl⟩, q⟩
        | bl b =>
          cases e
          cases (show v = _ from dv)
          cases rv
          exact PySem.P.repr_of_bool ⟨.str _, H, I.tok _, ⟨_, rfl⟩, q⟩
        | int i =>
          cases e
          cases (show v = _ from dv)
          obtain ⟨t, rfl⟩ := rv
          exact PySem.P.repr_of_int (of_decide_eq_true h1) ⟨.str _, H, I.tok _, ⟨_, rfl⟩, q⟩
        | str y =>
          cases e
          cases (show v = _ from dv)
          obtain ⟨t, rfl⟩ := rv
          exact PySem.P.repr_of_str ⟨.str _, H, I.tok _, ⟨_, rfl⟩, q⟩ h3
        | tup ys =>
          obtain ⟨a, vs, rfl, _⟩ := dv
          cases rv
          exact fin rd
        | lst ys =>
          obtain ⟨a, vs, rfl, _⟩ := dv
          cases rv
          exact fin rd
        | dic ks ys =>
          obtain ⟨a, _, vs, rfl, _⟩ := dv
          cases rv
          exact fin rd
        | ins => cases e
        | mref => cases e
        | scr => cases e
        | xcp => cases e
        | dct => cases e
      · rw [if_neg hz] at h; exact h.elim
  · exact h.elim
end RM

namespace PySem
namespace HandSPX
open Builtin Builtin.ObjectAttr
section
variable {M : Model} {A : Around} {E : Value → Shared → Prop} {h : Heap} {g : Array GenState} {d : Drawn} {t : Nat} {os : OsState}
variable {nm q : Str} {C N : Addr} {bs bm bmB : List Value} {hdct : Bool} {sn : List Str} {sub : List Value} {ab : Bool} {col : Option Bool} {dd : Option Addr} {k0 k1 k2 k3 k5 : Option Value} {B newId initId : String} {kw : List (Str × Value)}
theorem xk_check (F : ExcBaseFacts B newId initId bmB) (hT : ∀ X : String, bm.contains (.type X) = bmB.contains (.type X)) {Q : Unit → Shared → Prop}
    (hC : h.get? C = some (excClassObj nm q C N bs bm hdct sn sub ab col dd k0 k1 k2 k3 k5 newId)) (hq : Q () ⟨h, g, d, t, os⟩) : wpAny M A (checkBuiltinCall newId ⟨[.ref C], kw⟩) Q E ⟨h, g, d, t, os⟩ := by
  have hcont : (Value.ref C :: bm).contains (.type B) = true := by rw [List.contains_cons, hT, F.hasB, Bool.or_true]
  have hstar := F.noStar
  simp only [checkBuiltinCall, F.newKind, F.newSplit, F.newRow]
  repeat (first | refine wpAny_loadPart_at hC ?_ | (refine wpAny_isSubtype_exc hC ?_; rw [hcont]) | refine wpAny_staticBase_exc hC ?_ | refine wpAny_madeBy_exc hC ?_ | simp only [bne_self_eq_false, Bool.false_eq_true, if_false] | wp_step)
  exact hq
end
section
variable {prog : Program} {w : World} {A : Around} {E : Value → Shared → Prop} {R : Result → Shared → Prop} {h : Heap} {g : Array GenState} {d : Drawn} {t : Nat} {os : OsState}
variable {nm q : Str} {C N : Addr} {bs bm bmB : List Value} {hdct : Bool} {sn : List Str} {sub : List Value} {ab : Bool} {col : Option Bool} {dd : Option Addr} {k0 k1 k2 k3 k5 : Option Value} {B newId initId : String} {kw : List (Str × Value)}
theorem xk_new (F : ExcBaseFacts B newId initId bmB) (hT : ∀ X : String, bm.contains (.type X) = bmB.contains (.type X))
    (hC : h.get? C = some (excClassObj nm q C N bs bm hdct sn sub ab col dd k0 k1 k2 k3 k5 newId))
    (hq : R (.ok (.ret (.ref (h.objs.size + 1)))) ⟨(h.push { cls := .type "tuple", data := .seq ([] : List Value).toArray }).push
      { cls := .ref C, data := .fields #[.ref h.objs.size, .none, .none, .none, .bool false, .none] }, g, d, t, os⟩) :
    codeAny (model prog w) A (.builtin newId ⟨[.ref C], kw⟩) R ⟨h, g, d, t, os⟩ := by
  have hrest : ([] : List Value).length ≤ sizeLine := Nat.zero_le _
  have hends := F.ends
  have hcB : (Value.ref C :: bm).contains (.type B) = true := by rw [List.contains_cons, hT, F.hasB, Bool.or_true]
  have hcA : (Value.ref C :: bm).contains (.type "AttributeError") = false := by rw [List.contains_cons, hT, F.noAttr]; rfl
  have hcN : (Value.ref C :: bm).contains (.type "NameError") = false := by rw [List.contains_cons, hT, F.noName]; rfl
  refine codeAny_builtinAt F.entry ?_
  unfold Builtin.«BaseException.__new__»
  refine wpAt_bind ?_
  show wpAt _ _ _ (stack >>= _) _ _ _
  refine wpAt_bind (wpAt_stack fun p below => wpAt_of_wpAny ?_)
  wp_walk
  refine wpAt_of_wpAny ?_
  rw [F.owner]
  repeat (first | with_reducible refine wpAny_madeHere_exc F.canon hC ?_ | with_reducible refine wpAny_loadPart_at hC ?_ | (with_reducible refine wpAny_isSubtype_exc hC ?_; first | rw [hcB] | rw [hcA] | rw [hcN]) | wp_step)
  show R _ _
  rw [Heap.size_push]
  exact hq
theorem xk_type (F : ExcBaseFacts B newId initId bmB) (hT : ∀ X : String, bm.contains (.type X) = bmB.contains (.type X)) {fI : Addr} {Q : Fin → Shared → Prop}
    (hC : h.get? C = some (excClassObj nm q C N bs bm hdct sn sub ab col dd k0 k1 k2 k3 k5 newId))
    (hi : W.Looks (model prog w) h (typeLookup (.ref C) "__init__") (some (.ref fI))) (hb : ∀ self, W.Looks (model prog w) h (bindSpecial (.ref fI) self) (.ref fI, [self]))
    (hq : codeAny (model prog w) A (.call (.ref fI) ⟨[.ref (h.objs.size + 1)], kw⟩)
      (fun r s' => match r with | .ok (.ret v) => v = .none ∧ Q (.done (.ret (.ref (h.objs.size + 1)))) s' | .ok _ => False | .error e => E e s')
      ⟨(h.push (W.kdv_tup [])).push (excO C h.objs.size), g, d, t, os⟩) :
    wpAny (model prog w) A (Builtin.«type.__call__» ⟨[.ref C], kw⟩) Q E ⟨h, g, d, t, os⟩ := by
  repeat (first | with_reducible refine wpAny_loadPart_at hC ?_ | with_reducible refine wpAny_madeBy_exc hC ?_ | wp_step)
  refine codeAny_call_builtin_code (Code.quiet_builtin _ F.quiet) (xk_check F hT hC ?_)
  refine xk_new F hT hC ?_
  show wpAny _ _ _ _ _ _
  have k : ∀ b o, h.get? b = some o → ((h.push (W.kdv_tup [])).push (excO C h.objs.size)).get? b = some o := fun b o e => Heap.get?_push_of_some _ (Heap.get?_push_of_some _ e)
  have hC₁ := k _ _ hC
  have hget : ((h.push (W.kdv_tup [])).push (excO C h.objs.size)).get? (h.objs.size + 1) = some (excO C h.objs.size) := by heap_get
  have hcC : (Value.ref C :: bm).contains (.ref C) = true := by simp
  have i1 := hi.keeps k
  have b1 := (hb (.ref (h.objs.size + 1))).keeps k
  unfold isInstance
  repeat (first | with_reducible refine wpAny_loadPart_at hget ?_ | (with_reducible refine wpAny_isSubtype_exc hC₁ ?_; rw [hcC]) | wp_step)
  show wpAny _ _ (typeLookup (.ref C) _) _ _ _
  refine i1.at ?_
  refine wpAny_holding (wpAny_bind (b1.at ?_))
  refine wpAny_bind (wpAny_call (codeAny_mono hq fun r s' z => ?_))
  rcases r with e | (v | _ | _ | _) <;> first | exact z | exact z.elim | skip
  obtain ⟨rfl, z⟩ := z
  first
    | exact wpAny_pure (wpAny_pure z)
    | (wp_walk; exact z)
theorem xk_call (F : ExcBaseFacts B newId initId bmB) (hT : ∀ X : String, bm.contains (.type X) = bmB.contains (.type X)) {fI : Addr}
    (hC : h.get? C = some (excClassObj nm q C N bs bm hdct sn sub ab col dd k0 k1 k2 k3 k5 newId))
    (hi : W.Looks (model prog w) h (typeLookup (.ref C) "__init__") (some (.ref fI))) (hb : ∀ self, W.Looks (model prog w) h (bindSpecial (.ref fI) self) (.ref fI, [self]))
    (hq : codeAny (model prog w) (A.under (.builtin "type.__call__" ⟨[.ref C], kw⟩)) (.call (.ref fI) ⟨[.ref (h.objs.size + 1)], kw⟩) (W.InitBack (h.objs.size + 1) R)
      ⟨(h.push (W.kdv_tup [])).push (excO C h.objs.size), g, d, t, os⟩) :
    codeAny (model prog w) A (.call (.ref C) ⟨[], kw⟩) R ⟨h, g, d, t, os⟩ := by
  have f1 := tc_lookup
  have f2 := tc_bind (.ref C)
  have hTy : (⟨h, g, d, t, os⟩ : Shared).TypeIs (.ref C) "type" := ⟨_, hC, rfl⟩
  refine codeAny_of_tree ?_
  show wpAny _ _ (callAny (.ref C) _) _ _ _
  repeat (any_goals (first | assumption | with_reducible refine wpAny_loadPart_at hC ?_ | wp_step))
  refine ⟨rfl, ?_⟩
  refine codeAny_call_builtin_at (Code.quiet_builtin _ (by decide +kernel)) entry_typeCall (wpAny_check_type_call_sub hC (xk_type F hT hC hi hb ?_))
  refine codeAny_mono hq fun r s' z => ?_
  rcases r with e | (v | _ | _ | _) <;> exact z
end
end HandSPX
end PySem
namespace RM
open PySem PySem.Spec PyProof.Rows L2
variable [PgW]
section
variable {prog : Program} {w : World} {A : Around} {K : PySem.W.Frag} {C fI x t0 : Addr} {fl sf pr txt name qual : Str} {params : Arguments} {scope : Scope} {j : Nat} {p0 p1 p2 p3 p4 p5 p6 p7 p8 p9 : Pos} {a0 : Arg} {R : Result → Shared → Prop} {mg mb : Str → Option Value} {u : Value}
theorem sup_runA {args : Args} {h : Heap} {g : Array GenState} {d : Drawn} {t : Nat} {os : OsState} (Z : SupC prog K C fI fl name qual params (supB txt sf fl pr j p0 p1 p2 p3 p4 p5 p6 p7 p8 p9) scope) (S : SupS scope sf pr) (hp : (params.posonlyargs ++ params.args).head? = some a0) (hl : (p2.endLine == p4.line) = true) (h0 : a0.arg = sf)
    (hb : ∀ (kV doc pm : Value) (an : Option Addr) (cdv ct : Value) (cl : List (Str × Addr)), bindArgs (PySem.W.fnX name qual params (supB txt sf fl pr j p0 p1 p2 p3 p4 p5 p6 p7 p8 p9) scope cl .none kV doc pm an cdv ct) args = pure [(sf, .ref x), (pr, u)])
    (kin : K.In h) (hr : A.depth < recursionLimit) (nol : h.NoLimit) (gl : h.Ns mainGlobals mg) (bl : h.Ns builtinsNs mb) (bb : ∀ x : Str, x ≠ "__name__" → mb x = bootBuiltins x) (hsu : mg "super" = none)
    (he : h.get? x = some (PySem.HandSPX.excO C t0)) (hxK : K.lookup x = none)
    (hq : ∀ h' tk' dx t1, (∀ b o, b ≠ x → h.get? b = some o → h'.get? b = some o) → h.objs.size ≤ dx → dx ≠ x → h'.get? x = some { cls := .ref C, dict := some dx, data := .fields #[.ref t1, .none, .none, .none, .bool false, .none] } →
      h'.Ns1 dx (fun y => if y = fl then some u else none) → R (.ok (.ret .none)) ⟨h', g, d, tk', os⟩) :
    codeAny (model prog w) A (.call (.ref fI) args) R ⟨h, g, d, t, os⟩ := by
  obtain ⟨oc, od, osl, kV, doc, pm, an, cda, ct, cc, lk, hcd, ⟨ccl, cdd, vs, ccs, file, tf, lcd, hvs, hfile⟩, cl, cld, csl, lcc⟩ := Z.fn
  obtain ⟨nm, q, N, bs, bm, sn, sub, ab, col, dd, k0, k1, k2, k3, k5, hC, hbm⟩ := Z.ox.cls
  have hcl : PySem.W.clsIn K C = some { name := nm, bases := bs, mro := .ref C :: bm, ns := N, qualname := q, hasDict := true, slotNames := sn, subclasses := sub, abstract := ab, collection := col, hasDel := false } := by unfold PySem.W.clsIn; rw [hC] <;> rfl
  have xs : x < h.objs.size := Heap.lt_size he
  refine ks_codeAny_call_defAt (fd := PySem.W.fnX name qual params (supB txt sf fl pr j p0 p1 p2 p3 p4 p5 p6 p7 p8 p9) scope [("__class__", cc)] .none kV doc pm an (.ref cda) ct) (body := supB txt sf fl pr j p0 p1 p2 p3 p4 p5 p6 p7 p8 p9) (binds := [(sf, .ref x), (pr, u)]) hr (kin _ _ lk) rfl nol (PySem.W.codeRec_of kin hcd) rfl (.of_eq (hb _ _ _ _ _ _ _)) S.ce ?_ (fun h₁ hns hk₁ => ?_) S.co S.ge S.kd
  · intro y hy
    simp only [List.mem_cons, List.not_mem_nil, or_false] at hy
    rcases hy with rfl | rfl
    · exact S.lsf
    · exact S.lpr
  have kin1 : K.In h₁ := kin.keeps hk₁
  have hx1 := hk₁ _ _ he
  have I1 : PySem.W.InstAt h₁ x (PySem.HandSPX.excO C t0) C none := ⟨hx1, rfl, rfl, trivial⟩
  have vsf : (fun y => List.lookup y [(sf, Value.ref x), (pr, u)].reverse) sf = some (.ref x) := by
    show List.lookup sf [(pr, u), (sf, Value.ref x)] = _
    simp only [List.lookup, S.ne]
    simp
  have vpr : (fun y => List.lookup y [(sf, Value.ref x), (pr, u)].reverse) pr = some u := by
    show List.lookup pr [(pr, u), (sf, Value.ref x)] = _
    simp [List.lookup]
  generalize hen : callEnv (PySem.W.fnX name qual params (supB txt sf fl pr j p0 p1 p2 p3 p4 p5 p6 p7 p8 p9) scope [("__class__", cc)] .none kV doc pm an (.ref cda) ct) (Shared.mk h g d t os).heap.objs.size fI = env
  have esc : env.scope = scope := by rw [← hen]; rfl
  have hint : interactive env = false := by unfold interactive; rw [esc, S.kd]; rfl
  have hev : eval (.Call (.Attribute (.Call (.Name "super" p0) [] [] p1) "__init__" p2) [.Constant (.str txt) j p3] [] p4) env = (do
      let ov ← attributeBase (.Call (.Name "super" p0) [] [] p1) "__init__" env (eval (.Call (.Name "super" p0) [] [] p1) env)
      standAt p2.atName
      let (f, first) ← holding [ov] (getMethod ov "__init__" (do return (← importBound (.Call (.Name "super" p0) [] [] p1) env).getD true))
      callWith p4 f first (backTo p4 (starEach [.Constant (.str txt) j p3] env)) []) := by
    show (do
      let ov ← attributeBase (.Call (.Name "super" p0) [] [] p1) "__init__" env (eval (.Call (.Name "super" p0) [] [] p1) env)
      standAt p2.atName
      methodCall (.Call (.Name "super" p0) [] [] p1) "__init__" p2 p4 env ov 1 (backTo p4 (starEach [.Constant (.str txt) j p3] env)) []) = _
    congr 1
    funext ov
    congr 1
    funext _
    unfold methodCall
    have hf : methodCallForm 1 (backTo p4 (starEach [.Constant (.str txt) j p3] env)) [] = true := by rfl
    rw [hf]
    unfold methodCallPos calleeOf
    rw [hl]
    rfl
  refine ks_wpAt_execs_cons (ks_wpAt_Expr_any (ks_wpAt_MethodCall ?_ hev) hint)
  refine ks_wpAt_super_base (f := fI) (cc := cda) (ar := a0) (by rw [← hen]; exact S.su) (by rw [← hen]; exact S.cl) (by decide) (by rw [← hen]; rfl) (kin1 _ _ lk) rfl hp (by rw [← hen]; rfl) (kin1 _ _ lcd) rfl hvs hfile Z.top ?_
  subst hen
  refine PySem.W.ks_loadName_global S.kd S.su (Calls.loadGlobal_builtin (mg := mg) (mb := mb) (gl.keeps hk₁) hsu (bl.keeps hk₁) ((bb _ (by decide)).trans PyProof.Rows.Boot.«super») ⟨rfl, ?_⟩)
  refine wpAny_loadName_free S.kd S.cl rfl ⟨_, kin1 _ _ lcc, rfl⟩ ?_
  rw [h0]
  refine wpAny_loadName_local S.kd S.lsf hns vsf ?_
  refine ks_wpAny_isType_cls (kin1 _ _ hC) rfl ⟨rfl, ?_⟩
  refine ks_wpAny_call_super (kin1 _ _ hC) rfl hx1 rfl (fun c e => by cases e) (PySem.W.looks_mroIn kin1 Z.mr) (fun h2 so2 k2 => ?_)
  have kin2 : K.In h2 := kin1.keeps k2
  have hx2 := k2 _ _ hx1
  have I2 : PySem.W.InstAt h2 x (PySem.HandSPX.excO C t0) C none := ⟨hx2, rfl, rfl, trivial⟩
  have hm := Z.su
  unfold PySem.W.ks_superIn at hm
  rw [hcl] at hm
  refine PySem.W.kxs_getMethod PySem.W.kxs_ValueError so2 (PySem.W.looks_opaque kin2 Z.st) (l₀ := .ref C :: bm) ?_ rfl kin2 hm (I2.type.andThen (PySem.W.looks_subIn kin2 Z.sb)) (PySem.W.ks_ne kin2 I2 hcl) (by decide) ?_
  · exact fun A Q E s k q => wpAny_bind ((PySem.W.looks_clsIn kin2 hcl) A _ E s k (wpAny_pure q))
  refine PySem.W.kxs_callWith (i := "ValueError.__init__") (x := x) rfl ?_
  refine Calls.evalArgs_plain ?_
  refine Calls.spliced_cons (Calls.Constant_str (k := j) (pos := p3) (Calls.spliced_nil ?_))
  have hu3 : (h2.push (PySem.W.kxs_mw "ValueError.__init__" x)).get? h2.objs.size = some (PySem.W.kxs_mw "ValueError.__init__" x) := Heap.get?_push_at rfl rfl
  have k3' : ∀ b o, h2.get? b = some o → (h2.push (PySem.W.kxs_mw "ValueError.__init__" x)).get? b = some o := fun b o e => Heap.get?_push_of_some _ e
  have hx3 := k3' _ _ hx2
  have kin3 := kin2.keeps k3'
  refine ⟨hu3, ?_⟩
  generalize hh3 : h2.push (PySem.W.kxs_mw "ValueError.__init__" x) = h3 at *
  refine wpAny_call (codeAny_of_tree ?_)
  show wpAny _ _ (callAny (.ref h2.objs.size) ⟨_, []⟩) _ _ _
  simp only [callAny]
  refine wpAny_bind (wpAny_load hu3 ?_)
  simp only [PySem.W.kxs_mw, show (Value.type "method-wrapper" == Value.type "method" || Value.type "method-wrapper" == Value.type "builtin_function_or_method" || Value.type "method-wrapper" == Value.type "method-wrapper") = true by decide, if_true]
  refine PySem.W.KFB.if_so (by decide) ?_
  refine wpAny_bind (PySem.W.check_bound_init PySem.F.excBase_ValueError.toExcCallFacts (kin3 _ _ hC) hx3 rfl ?_)
  refine wpAny_bind (wpAny_pure (wpAny_pure ?_))
  refine ⟨plainId_quiet PySem.F.excBase_ValueError.init.plain _, codeAny_builtin PySem.F.excBase_ValueError.initEntry ?_⟩
  refine PySem.W.exc_init_tree (cls := .ref C) (t0 := t0) (dv := none) (c2 := .none) (c3 := .none) (b4 := .bool false) hx3 (by show 1 ≤ sizeLine; rw [sizeLine_eq]; omega) fun h5 k5' hx5 _ => ?_
  have k35 : ∀ b o, b ≠ x → h.get? b = some o → h5.get? b = some o := fun b o hb e => k5' b o hb (k3' b o (k2 b o (hk₁ b o e)))
  have kin5 : K.In h5 := fun b o e => by
    exact k35 b o (fun z => by rw [z, hxK] at e; cases e) (kin b o e)
  have hL : h5.Ns h.objs.size (fun y => List.lookup y [(sf, Value.ref x), (pr, u)].reverse) := by
    obtain ⟨oL, es, ep, e1, r⟩ := hns
    exact ⟨oL, es, ep, k5' _ _ (Nat.ne_of_gt xs) (k3' _ _ (k2 _ _ e1)), r⟩
  refine ks_wpAt_execs_cons (ks_wpAt_Assign_Attr (wpAt_of_wpAny (wpAny_Name (wpAny_loadName_local S.kd S.lpr hL vpr ?_) S.d2)))
  refine wpAny_Name (wpAny_loadName_local S.kd S.lsf hL vsf ?_) S.d1
  refine PySem.W.set_plain kin5 (ox := PySem.W.excRec (.ref C) h3.objs.size none .none .none (.bool false)) (od := none) ⟨hx5, rfl, rfl, trivial⟩ Z.ox.sa ?_
  refine PySem.HandSPX.exc_osa kin5 hx5 hcl (show PySem.HandSPX.refsVE (.ref C :: bm) = true from hbm) rfl Z.no fun h6 tk6 dx k6 s6 ne6 hx6 hn6 => ?_
  refine wpAt_of_wpAny (wpAny_execs_nil ?_)
  exact hq h6 tk6 dx h3.objs.size (fun b o hb e => k6 b o hb (k35 b o hb e)) (Nat.le_trans (by obtain ⟨oL, es, ep, e1, r⟩ := hL; exact Nat.le_of_lt (Heap.lt_size e1)) s6) ne6 hx6 hn6
end
section
variable {X : Cx} {W : WX} {g : DSt} {fI : Addr} {fl sf pr txt name qual c : Str} {params : Arguments} {scope : Scope} {j k : Nat} {p0 p1 p2 p3 p4 p5 p6 p7 p8 p9 p pos : Pos} {a0 : Arg} {e : Expr} {me : M D}
theorem supv_end {pins : List (Addr × Obj)} {σ : L2.St} {H1 : Hp} {hp1 h' : Heap} {gs : Array GenState} {dr : Drawn} {tk tk' : Nat} {os : OsState} {C dx : Addr} {t1 : Addr} {tu : Obj} {y : V} {u : Value} (I1 : Inv X pins σ H1 ⟨hp1, gs, dr, tk, os⟩) (ru : RelV y u)
    (kk : ∀ b o, hp1.get? b = some o → ((hp1.push tu).push (PySem.HandSPX.excO C hp1.objs.size)).get? b = some o) (k' : ∀ b o, b ≠ hp1.objs.size + 1 → ((hp1.push tu).push (PySem.HandSPX.excO C hp1.objs.size)).get? b = some o → h'.get? b = some o)
    (sdx : ((hp1.push tu).push (PySem.HandSPX.excO C hp1.objs.size)).objs.size ≤ dx) (ndx : dx ≠ hp1.objs.size + 1) (hx' : h'.get? (hp1.objs.size + 1) = some { cls := .ref C, dict := some dx, data := .fields #[.ref t1, .none, .none, .none, .bool false, .none] })
    (hn' : h'.Ns1 dx (fun z => if z = fl then some u else none)) :
    Inv X pins σ (upd (upd H1 dx (.xd [(fl, y)])) (hp1.objs.size + 1) (XcO (.ref C) (some dx) (hp1.objs.size + 1))) ⟨h', gs, dr, tk', os⟩ ∧ H1 dx = none ∧ H1 (hp1.objs.size + 1) = none := by
  have hsz : hp1.objs.size ≤ hp1.objs.size + 1 := Nat.le_succ _
  obtain ⟨G, g1, g2⟩ := restrict h' fun b => decide (b ≠ hp1.objs.size + 1)
  have gk : ∀ b, b ≠ hp1.objs.size + 1 → G.get? b = h'.get? b := fun b hb => g1 b (decide_eq_true hb)
  have ge : G.get? (hp1.objs.size + 1) = none := g2 _ (by simp)
  have k6 : ∀ b o, hp1.get? b = some o → G.get? b = some o := fun b o z => by
    have hb : b ≠ hp1.objs.size + 1 := Nat.ne_of_lt (Nat.lt_of_lt_of_le (Heap.lt_size z) hsz)
    rw [gk b hb]
    exact k' b o hb (kk b o z)
  have s2 : ((hp1.push tu).push (PySem.HandSPX.excO C hp1.objs.size)).objs.size = hp1.objs.size + 2 := by simp [Heap.push]
  have sd : hp1.objs.size ≤ dx := by rw [s2] at sdx; omega
  have hd0 : H1 dx = none := I1.hok.fresh sd
  have hx0 : H1 (hp1.objs.size + 1) = none := I1.hok.fresh hsz
  have J : Inv X pins σ (upd H1 dx (.xd [(fl, y)])) ⟨G, gs, dr, tk', os⟩ := I1.laid (t' := tk') (a := dx) (o := .xd [(fl, y)]) (h' := G) k6 sd ⟨_, hn'.at fun o z => (gk dx ndx).trans z, relO_put (fs := []) ru fun g => True.intro⟩
  have nn : upd H1 dx (.xd [(fl, y)]) (hp1.objs.size + 1) = none := by rw [upd_ne (Ne.symm ndx)]; exact hx0
  refine ⟨J.laidN (t' := tk') (h' := h') (fun b o z => ?_) ge nn (xcO_ok hx' ⟨rfl, rfl⟩ rfl), hd0, hx0⟩
  by_cases hba : b = hp1.objs.size + 1
  · have z' : G.get? b = some o := z
    rw [hba, ge] at z'; cases z'
  · have z' : G.get? b = some o := z
    rw [gk b hba] at z'; exact z'
theorem supv_den {K : PySem.W.Frag} {p1 : List (List Addr)} {S1 : Sto} {G1 H1 : Hp} {d : D} {y : V} {dx a : Addr} {Q : VK} {V : Exc → Hp → Prop} (dn : Den K p1 G1 d y) (r1 : Rel0 K p1 S1 G1 H1) (hd0 : H1 dx = none) (ha0 : H1 a = none) (ne : dx ≠ a)
    (h : ∀ v p2 G2 H2, Den K p2 G2 (.xcp c [fl] [d]) v → Rel0 K p2 S1 G2 H2 → Ext p1 G1 H1 p2 G2 H2 → Q v H2) : Q (.ref a) (upd (upd H1 dx (.xd [(fl, y)])) a (XcO (.ref (He.ga K c)) (some dx) a)) := by
  obtain ⟨r2, x2⟩ := r1.new (.xd [(fl, y)]) hd0
  have ha1 : upd H1 dx (.xd [(fl, y)]) a = none := by rw [upd_ne (Ne.symm ne)]; exact ha0
  obtain ⟨r3, x3⟩ := r2.new (XcO (.ref (He.ga K c)) (some dx) a) ha1
  refine h (.ref a) _ _ _ ⟨a, some dx, [y], rfl, upd_same, .inr ⟨dx, rfl, ?_⟩, rfl, ?_⟩ r3 (x2.trans x3)
  · rw [upd_ne ne, upd_same]; rfl
  · exact DenL.one ((dn.mono x2.pp x2.g).mono x3.pp x3.g)
theorem xe_mkS (Z : SupC X.prog X.K (He.ga X.K c) fI fl name qual params (supB txt sf fl pr j p0 p1 p2 p3 p4 p5 p6 p7 p8 p9) scope) (S : SupS scope sf pr) (hp : (params.posonlyargs ++ params.args).head? = some a0) (hl : (p2.endLine == p4.line) = true) (h0 : a0.arg = sf)
    (hb : ∀ (kV doc pm : Value) (an : Option Addr) (cdv ct : Value) (cl : List (Str × Addr)) (v1 v2 : Value), bindArgs (PySem.W.fnX name qual params (supB txt sf fl pr j p0 p1 p2 p3 p4 p5 p6 p7 p8 p9) scope cl .none kV doc pm an cdv ct) ⟨[v1, v2], []⟩ = pure [(sf, v1), (pr, v2)])
    (hr : Room (k + 1) X.A) (hsu : X.mg "super" = none) (hg : Gl X c) (hm : X.mg c = some (.ref (He.ga X.K c))) (he : XE X W g e me) (hdb : (c == ("__debug__" : Str)) = false := by decide) (hst : starEach [e] X.env = [(false, eval e X.env)] := by rfl) :
    XE X W g (.Call (.Name c p) [e] [] pos) (B me fun d => pure (.xcp c [fl] [d])) := by
  refine ⟨fun pins s σ H Q I ⟨q0, G0, S0, ow, r, h⟩ => ?_⟩
  obtain ⟨nm, q, N, bs, bm, sn, sub, ab, col, dd, k0, k1, k2, k3, k5, hC, hbm⟩ := Z.ox.cls
  refine wpAny_Call_Name_kw (ld_glob I hg hm ?_ hdb)
  have ha : PA X [e] (tCons (tXE X.K W g me) tNil) := pa_cons he pa_nil hst
  refine PySem.W.callWith_K (h₀ := X.base) I.ok.mod.kin Z.ox.kC (thn (ha.run pos pins s σ H (fun vs H1 => match vs with | [y] => ∀ dx a, H1 dx = none → H1 a = none → dx ≠ a → Q (.ref a) (upd (upd H1 dx (.xd [(fl, y)])) a (XcO (.ref (He.ga X.K c)) (some dx) a)) | _ => False) I
    ⟨q0, G0, S0, ow, r, okR.seq h fun d S1 v p1 G1 H1 e1 dn r1 x1 h1 dx a q1 q2 q3 => supv_den (V := fun _ _ => True) dn r1 q1 q2 q3 fun v2 p2 G2 H2 d2 r2 x2 => h1 v2 p2 G2 H2 d2 r2 x2⟩) fun us s1 ⟨vs, H1, I1, r1, q1⟩ => ⟨I1.kIn, ?_⟩) hst rfl
  cases r1 with
  | nil => exact q1.elim
  | @cons y u ys us' ru rn =>
  cases rn with
  | cons _ _ => exact q1.elim
  | nil =>
  show wpAny _ _ (call (.ref (He.ga X.K c)) [u]) _ _ _
  obtain ⟨hp1, g, dr, tk, os⟩ := s1
  have hsz : hp1.objs.size ≤ hp1.objs.size + 1 := Nat.le_succ _
  have kk : ∀ b o, hp1.get? b = some o → ((hp1.push (PySem.W.kdv_tup [u])).push (PySem.HandSPX.excO (He.ga X.K c) hp1.objs.size)).get? b = some o := fun b o e => Heap.get?_push_of_some _ (Heap.get?_push_of_some _ e)
  have hget : ((hp1.push (PySem.W.kdv_tup [u])).push (PySem.HandSPX.excO (He.ga X.K c) hp1.objs.size)).get? (hp1.objs.size + 1) = some (PySem.HandSPX.excO (He.ga X.K c) hp1.objs.size) := by heap_get
  have kin := I1.kIn
  have hxK : X.K.lookup (hp1.objs.size + 1) = none := by
    cases z : X.K.lookup (hp1.objs.size + 1) with
    | none => rfl
    | some o => exact absurd (Heap.lt_size (kin _ _ z)) (by show ¬ (hp1.objs.size + 1 < hp1.objs.size); omega)
  obtain ⟨mb, hb1, hb2⟩ := I1.mod.blt
  refine wpAny_call (PySem.HandSPX.call_own PySem.F.excBase_ValueError (fun Y => PySem.HandSPX.refsVE_contains Y bm hbm) (kin _ _ hC) (PySem.W.looks_findIn kin Z.iC) (fun self => PySem.W.bind_fn kin self Z.tI) (by show 1 ≤ sizeLine; rw [sizeLine_eq]; omega)
    (sup_run Z S hp hl h0 hb (kin.keeps kk) (hr.make (He.ga X.K c) [u] []).depth (I1.nolimit.keeps kk) ((I1.mod.glob.keeps I1.bk).keeps kk) ((hb1.keeps I1.bk).keeps kk) hb2 hsu hget hxK fun h' tk' dx t1 k' sdx ndx hx' hn' => ⟨rfl, ?_⟩))
  obtain ⟨J, z1, z2⟩ := supv_end (tk' := tk') I1 ru kk k' sdx ndx hx' hn'
  exact ⟨.ref (hp1.objs.size + 1), _, J, rfl, q1 dx _ z1 z2 ndx⟩
theorem xe_mkK {kw : List Keyword} (Z : SupC X.prog X.K (He.ga X.K c) fI fl name qual params (supB txt sf fl pr j p0 p1 p2 p3 p4 p5 p6 p7 p8 p9) scope) (S : SupS scope sf pr) (hp : (params.posonlyargs ++ params.args).head? = some a0) (hl : (p2.endLine == p4.line) = true) (h0 : a0.arg = sf)
    (hb : ∀ (kV doc pm : Value) (an : Option Addr) (cdv ct : Value) (cl : List (Str × Addr)) (v1 v2 : Value), bindArgs (PySem.W.fnX name qual params (supB txt sf fl pr j p0 p1 p2 p3 p4 p5 p6 p7 p8 p9) scope cl .none kV doc pm an cdv ct) ⟨[v1], [(pr, v2)]⟩ = pure [(sf, v1), (pr, v2)])
    (hr : Room (k + 1) X.A) (hsu : X.mg "super" = none) (hg : Gl X c) (hm : X.mg c = some (.ref (He.ga X.K c))) (ha : CW X W g [] kw pos [pr] [] [me]) (hdb : (c == ("__debug__" : Str)) = false := by decide) :
    XE X W g (.Call (.Name c p) [] kw pos) (B me fun d => pure (.xcp c [fl] [d])) := by
  refine ⟨fun pins s σ H Q I ⟨q0, G0, S0, ow, r, h⟩ => ?_⟩
  obtain ⟨nm, q, N, bs, bm, sn, sub, ab, col, dd, k0, k1, k2, k3, k5, hC, hbm⟩ := Z.ox.cls
  refine wpAny_Call_Name_kw (ld_glob I hg hm ?_ hdb)
  have h' : okR (Den X.K) X.K q0 G0 H (fun c d H' => W c d σ H') (argsB ([] ++ [me]) (fun xs => match xs with | [d] => pure (.xcp c [fl] [d]) | _ => stuck) S0) Q := by
    exact h
  refine ha (.ref (He.ga X.K c)) [] pins s σ H (fun vs zs H1 => vs = [] ∧ match zs with | [y] => ∀ dx a, H1 dx = none → H1 a = none → dx ≠ a → Q (.ref a) (upd (upd H1 dx (.xd [(fl, y)])) a (XcO (.ref (He.ga X.K c)) (some dx) a)) | _ => False) _ Z.ox.kC I
    (okKw r h' fun xs ys vs zs p2 G2 H2 S2 h1 h2 d1 d2 r2 h3 => ?_) fun us ws s2 vs zs H2 I2 rv rz ⟨l1, q2⟩ => ?_
  · obtain rfl : xs = [] := List.length_eq_zero_iff.mp h1
    obtain ⟨y1, rfl⟩ : ∃ y1, ys = [y1] := List.length_eq_one_iff.mp h2
    obtain rfl : vs = [] := d1
    obtain ⟨v, s', rfl, dv, ds⟩ := d2
    obtain rfl : s' = [] := ds
    exact ⟨rfl, fun dx a q1 q2 q3 => supv_den (V := fun _ _ => True) dv r2 q1 q2 q3 fun v2 p3 G3 H3 d3 r3 x3 => h3 v2 p3 G3 H3 d3 r3 x3⟩
  · subst l1
    cases rv
    cases rz with
    | nil => exact q2.elim
    | @cons y u ys us' ru rn =>
    cases rn with
    | cons _ _ => exact q2.elim
    | nil =>
    show wpAny _ _ (call (.ref (He.ga X.K c)) [] [(pr, u)]) _ _ _
    obtain ⟨hp1, g, dr, tk, os⟩ := s2
    have hsz : hp1.objs.size ≤ hp1.objs.size + 1 := Nat.le_succ _
    have kk : ∀ b o, hp1.get? b = some o → ((hp1.push (PySem.W.kdv_tup [])).push (PySem.HandSPX.excO (He.ga X.K c) hp1.objs.size)).get? b = some o := fun b o e => Heap.get?_push_of_some _ (Heap.get?_push_of_some _ e)
    have hget : ((hp1.push (PySem.W.kdv_tup [])).push (PySem.HandSPX.excO (He.ga X.K c) hp1.objs.size)).get? (hp1.objs.size + 1) = some (PySem.HandSPX.excO (He.ga X.K c) hp1.objs.size) := by heap_get
    have kin := I2.kIn
    have hxK : X.K.lookup (hp1.objs.size + 1) = none := by
      cases z : X.K.lookup (hp1.objs.size + 1) with
      | none => rfl
      | some o => exact absurd (Heap.lt_size (kin _ _ z)) (by show ¬ (hp1.objs.size + 1 < hp1.objs.size); omega)
    obtain ⟨mb, hb1, hb2⟩ := I2.mod.blt
    refine wpAny_call (PySem.HandSPX.xk_call PySem.F.excBase_ValueError (fun Y => PySem.HandSPX.refsVE_contains Y bm hbm) (kin _ _ hC) (PySem.W.looks_findIn kin Z.iC) (fun self => PySem.W.bind_fn kin self Z.tI)
      (sup_runA Z S hp hl h0 (fun a1 a2 a3 a4 a5 a6 a7 => hb a1 a2 a3 a4 a5 a6 a7 _ _) (kin.keeps kk) (hr.make (He.ga X.K c) [] [(pr, u)]).depth (I2.nolimit.keeps kk) ((I2.mod.glob.keeps I2.bk).keeps kk) ((hb1.keeps I2.bk).keeps kk) hb2 hsu hget hxK fun h' tk' dx t1 k' sdx ndx hx' hn' => ⟨rfl, ?_⟩))
    obtain ⟨J, z1, z2⟩ := supv_end (tk' := tk') I2 ru kk k' sdx ndx hx' hn'
    exact ⟨.ref (hp1.objs.size + 1), _, J, rfl, q2 dx _ z1 z2 ndx⟩
theorem xe_mkT {m : Str} (Z : TxtC X.K (He.ga X.K c)) (hg : Gl X c) (hm : X.mg c = some (.ref (He.ga X.K c))) (hdb : (c == ("__debug__" : Str)) = false := by decide) :
    XE X W g (.Call (.Name c p) [.Constant (.str m) j p2] [] pos) (pure (.xcp c [] [])) := by
  refine ⟨fun pins s σ H Q I ⟨q0, G0, S0, ow, r, h⟩ => ?_⟩
  refine wpAny_Call_Name_kw (ld_glob I hg hm ?_ hdb)
  have hs : starEach [Expr.Constant (.str m) j p2] X.env = [(false, eval (.Constant (.str m) j p2) X.env)] := by rfl
  refine PySem.W.callWith_K (h₀ := X.base) I.ok.mod.kin Z.kp ?_ hs (by rfl)
  rw [hs]
  refine Calls.spliced_cons (Calls.Constant_str (k := j) (pos := p2) (Calls.spliced_nil ⟨I.kIn, ?_⟩))
  show wpAny _ _ (call (.ref (He.ga X.K c)) [_]) _ _ _
  obtain ⟨bm, N, nm, qn, bs, hdct, sn, sub, ab, col, dd, k0, k1, k2, k3, k5, mN, hC, hN, hni, T⟩ := exc_obj I.kIn Z.ex
  refine wpAny_call_exc_subT PySem.F.excBase_ValueError T hC hN hni (fun h' a hm => ?_) (by show 1 ≤ sizeLine; rw [sizeLine_eq]; omega)
  have hn : H a = none := I.hok.gone hm.new
  obtain ⟨t, ht, _, _⟩ := hm.there
  obtain ⟨r2, x2⟩ := r.rel.new (XcO (.ref (He.ga X.K c)) none a) hn
  exact ⟨.ref a, _, I.laidN hm.keeps hm.new hn (xcO_ok ht ⟨rfl, rfl⟩ rfl), rfl, h (.ref a) _ _ _ ⟨a, none, [], rfl, upd_same, .inl ⟨rfl, rfl⟩, rfl, rfl⟩ r2 x2⟩
end
section
variable {X : Cx} {W : Wf} {g : DSt} {n y x : Str} {CS : Addr} {me : M D} {cs : List Str} {p1 p2 p3 p4 p5 p6 p7 p8 np pos' pos : Pos} {e : Expr}
theorem xs_tryY (i j : Nat) (he : ∀ (W' : WX) (pn : List (Addr × Obj)) (xe : Value → Shared → Prop), Takes (X.tr pn xe) W' → XE (X.tr pn xe) W' g e me) (hex : ∀ c ∈ cs, PySem.W.exmOne X.K (.ref (He.ga X.K c)) (.ref CS) = some true) (hc : Names X x (.ref CS))
    (hs : X.stack = X.env :: X.outer) (hf : X.env.frame = some X.env.locals) (hx : X.ex = []) (hN : X.N.Nodup) (hi : X.N[i]? = some n) (hln : X.env.kindOf n = some .local) (hvn : Vis X.env.scope n) (hj : X.N[j]? = some y) (hjl : X.env.scope.names.lookup y = some .local)
    (gi : g[i]? = some none) {y0 : D} (gj : g[j]? = some (some (.val y0))) (hd : (n == ("__debug__" : Str)) = false := by decide) (hcd : (n == ("__classdict__" : Str)) = false := by decide)
    (s1 : swapsWith e none p4.line X.env = pure false := by rfl)
    (s4 : swapsWithSole [.Name y p5] (.Name n p6) p7.line X.env = pure false := by rfl) (s5 : swappedStores [.Name y p5] (.Name n p6) X.env = pure none := by rfl) (s6 : (assignEach [.Name y p5] X.env).map (·.2) = [assign (.Name y p5) X.env] := by rfl) :
    XS1 X W g (IN fun r : D => g.set j (some (.val r))) (.Try [.Expr e p4] [.ExceptHandler (some (.Name x np)) (some n) [.Assign [.Name y p5] (.Name n p6) p7] pos'] [] [] pos) (tryE y0 cs me) := by
  have hij : i ≠ j := fun e => by rw [e, gj] at gi; cases gi
  have li := (List.getElem?_eq_some_iff.mp gi).1
  have lj := (List.getElem?_eq_some_iff.mp gj).1
  refine PS.imp (ps_try_keep hs hf hx hN hi hln hc
    (tb := fun W' => tDrop (tXE X.K W' g me))
    (ts := fun _ _ _ => tAsg (tVar i) (gName j))
    (fun W' pn xe tk _ => pss_one (ps_expr (he W' pn xe tk) s1))
    (fun a' oe cls d pn _ _ => pss_one (ps_asg (X := X.suite a' ((a', oe) :: pn)) (pe_var hi hvn hd hcd) (pg_name hN hj (.inl hjl) (.inr hjl)) s4 s5 s6))) fun E σ H ⟨nn, p, G, S, ow, r, q'⟩ => ?_
  refine ⟨p, G, S, ow, r.rs, ?_⟩
  unfold tryE at q'
  cases em : me S with
  | stuck => rw [em] at q'; exact q'.elim
  | ok d S' =>
    rw [em] at q'
    intro v p' G' H' dn r1 x1
    have q' := q' (.nx (g.set j (some (.val y0)))) ⟨_, rfl, Wk.refl _⟩
    refine q' p' G' H' _ ow ?_
    rw [set_same gj]; exact r.step x1 r1
  | exc x0 S' =>
    rw [em] at q'
    dsimp only at q'
    by_cases hm : x0.cls ∈ cs
    · rw [if_pos hm] at q'
      refine keep_end r li lj hij gi (g2 := g) (K' := fun _ _ _ => True) E (fun v hv p' G' H' σ' ow' rf => ?_) hm hex
      subst hv
      have q' := q' (.nx (g.set j (some (.val (.xcp x0.cls x0.ns x0.fs))))) ⟨_, rfl, Wk.refl _⟩
      exact q' p' G' H' _ ow' rf
    · rw [if_neg hm] at q'
      exact q'.elim
end
end RM

namespace LW
open PySem PySem.Spec PyProof.Rows L2 RM
variable [PgW]
def top (i : Nat) : Stmt := PySem.Challenge.pw_rowsmeet_k11_errors_made.main.body.getD i (.Pass ⟨0, 0, 0, 0⟩)
abbrev s_law_begun : Stmt := top 21
def d_law_begun : He.DefD := ⟨("_law_begun", none), "_law_begun", "_law_begun", defArgs s_law_begun, defBody s_law_begun, defScope s_law_begun, [], []⟩
abbrev s_law_draw : Stmt := top 22
def d_law_draw : He.DefD := ⟨("_law_draw", none), "_law_draw", "_law_draw", defArgs s_law_draw, defBody s_law_draw, defScope s_law_draw, [], []⟩
abbrev s_law_pick : Stmt := top 23
def d_law_pick : He.DefD := ⟨("_law_pick", none), "_law_pick", "_law_pick", defArgs s_law_pick, defBody s_law_pick, defScope s_law_pick, [], []⟩
abbrev s_law_odd : Stmt := top 24
def d_law_odd : He.DefD := ⟨("_law_odd", none), "_law_odd", "_law_odd", defArgs s_law_odd, defBody s_law_odd, defScope s_law_odd, [], []⟩
abbrev s_law_by_place : Stmt := top 27
def d_law_by_place : He.DefD := ⟨("_law_by_place", none), "_law_by_place", "_law_by_place", defArgs s_law_by_place, defBody s_law_by_place, defScope s_law_by_place, [], []⟩
abbrev s_law_kept : Stmt := top 26
def d_law_kept : He.DefD := ⟨("_law_kept", none), "_law_kept", "_law_kept", defArgs s_law_kept, defBody s_law_kept, defScope s_law_kept, [], []⟩
abbrev s_law_by_name : Stmt := top 28
def d_law_by_name : He.DefD := ⟨("_law_by_name", none), "_law_by_name", "_law_by_name", defArgs s_law_by_name, defBody s_law_by_name, defScope s_law_by_name, [], []⟩
abbrev s_law_plain : Stmt := top 29
def d_law_plain : He.DefD := ⟨("_law_plain", none), "_law_plain", "_law_plain", defArgs s_law_plain, defBody s_law_plain, defScope s_law_plain, [], []⟩
abbrev s_law_marks : Stmt := top 25
def d_law_marks : He.DefD := ⟨("_law_marks", none), "_law_marks", "_law_marks", defArgs s_law_marks, defBody s_law_marks, defScope s_law_marks, [], []⟩
abbrev s_law_thrown : Stmt := top 30
def d_law_thrown : He.DefD := ⟨("_law_thrown", none), "_law_thrown", "_law_thrown", defArgs s_law_thrown, defBody s_law_thrown, defScope s_law_thrown, [], []⟩
abbrev s_law_caught_as : Stmt := top 31
def d_law_caught_as : He.DefD := ⟨("_law_caught_as", none), "_law_caught_as", "_law_caught_as", defArgs s_law_caught_as, defBody s_law_caught_as, defScope s_law_caught_as, [], []⟩
abbrev s_law : Stmt := top 32
def d_law : He.DefD := ⟨("law", none), "law", "law", defArgs s_law, defBody s_law, defScope s_law, [], []⟩
def ts0 : List TabD := []
def ts : List TabD := ts0
def fn0 : List He.DefD := [d_law_begun, d_law_draw, d_law_pick, d_law_odd, d_law_by_place, d_law_kept, d_law_by_name, d_law_plain, d_law_marks, d_law_thrown, d_law_caught_as, d_law]
def fn : List He.DefD := fn0
def pr0 : List PrD := []
def pr : List PrD := pr0
def fa0 : List He.Fa := [.glo "BadBook", .glo "BadBox", .glo "BadDay", .glo "BadLog", .glo "BadLot", .glo "BadReceipts", .glo "BadRow", .glo "BadRows", .glo "BadRule", .glo "BadSale", .glo "BadSales", .glo "BadText", .glo "NoEntry", .glo "NoRow", .glo "NotWhole", .glo "NothingDone", .glo "PriceError", .glo "Shaky", .glo "TooMany", .glo "_law_begun", .glo "_law_by_name", .glo "_law_by_place", .glo "_law_caught_as", .glo "_law_draw", .glo "_law_kept", .glo "_law_marks", .glo "_law_odd", .glo "_law_pick", .glo "_law_plain", .glo "_law_thrown"]
def fa1 : List He.Fa := [.glo "law", .free "ValueError", .free "abs", .free "enumerate", .free "int", .free "isinstance", .free "len", .free "min", .free "range", .free "repr", .free "super"]
def fa : List He.Fa := fa0 ++ fa1
def loose0 : List Str := ["PriceError", "BadBox", "BadRow", "BadRows", "TooMany", "NoRow", "BadRule", "BadBook", "BadSale", "BadSales", "BadLot", "NotWhole", "NoEntry", "BadLog", "BadDay", "BadReceipts", "Shaky", "NothingDone", "BadText", "_law_begun", "_law_draw", "_law_pick", "_law_odd", "_law_marks", "_law_kept", "_law_by_place", "_law_by_name", "_law_plain", "_law_thrown", "_law_caught_as"]
def loose : List Str := loose0
def exL : List Str := ["BadBox", "BadRow", "BadRows", "TooMany", "NoRow", "BadSales", "NotWhole", "BadLog", "BadReceipts", "Shaky", "BadText", "BadRule", "BadBook", "BadSale", "BadLot", "NoEntry", "BadDay", "NothingDone", "PriceError"]
def exF : List (Str × Str) := [("BadBox", "part"), ("BadRow", "part"), ("BadRows", "at"), ("TooMany", "most"), ("NoRow", "at"), ("BadSales", "at"), ("NotWhole", "sale"), ("BadLog", "at"), ("BadReceipts", "at"), ("Shaky", "lot"), ("BadText", "line")]
def tfL : List (Str × Str) := []
abbrev s_BadBox_init : Stmt := inClass (top 2) 0
def sd_BadBox : SupD := ⟨"BadBox", "part", "__init__", "BadBox.__init__", defArgs s_BadBox_init, defBody s_BadBox_init, defScope s_BadBox_init⟩
theorem ss_BadBox : SupS (defScope s_BadBox_init) "self" "part" := ⟨rfl, rfl, rfl, rfl, rfl, rfl, rfl, by decide +kernel, by decide, by decide, by decide⟩
abbrev s_BadRow_init : Stmt := inClass (top 3) 0
def sd_BadRow : SupD := ⟨"BadRow", "part", "__init__", "BadRow.__init__", defArgs s_BadRow_init, defBody s_BadRow_init, defScope s_BadRow_init⟩
theorem ss_BadRow : SupS (defScope s_BadRow_init) "self" "part" := ⟨rfl, rfl, rfl, rfl, rfl, rfl, rfl, by decide +kernel, by decide, by decide, by decide⟩
abbrev s_BadRows_init : Stmt := inClass (top 4) 0
def sd_BadRows : SupD := ⟨"BadRows", "at", "__init__", "BadRows.__init__", defArgs s_BadRows_init, defBody s_BadRows_init, defScope s_BadRows_init⟩
theorem ss_BadRows : SupS (defScope s_BadRows_init) "self" "at" := ⟨rfl, rfl, rfl, rfl, rfl, rfl, rfl, by decide +kernel, by decide, by decide, by decide⟩
abbrev s_TooMany_init : Stmt := inClass (top 5) 0
def sd_TooMany : SupD := ⟨"TooMany", "most", "__init__", "TooMany.__init__", defArgs s_TooMany_init, defBody s_TooMany_init, defScope s_TooMany_init⟩
theorem ss_TooMany : SupS (defScope s_TooMany_init) "self" "most" := ⟨rfl, rfl, rfl, rfl, rfl, rfl, rfl, by decide +kernel, by decide, by decide, by decide⟩
abbrev s_NoRow_init : Stmt := inClass (top 6) 0
def sd_NoRow : SupD := ⟨"NoRow", "at", "__init__", "NoRow.__init__", defArgs s_NoRow_init, defBody s_NoRow_init, defScope s_NoRow_init⟩
theorem ss_NoRow : SupS (defScope s_NoRow_init) "self" "at" := ⟨rfl, rfl, rfl, rfl, rfl, rfl, rfl, by decide +kernel, by decide, by decide, by decide⟩
abbrev s_BadSales_init : Stmt := inClass (top 10) 0
def sd_BadSales : SupD := ⟨"BadSales", "at", "__init__", "BadSales.__init__", defArgs s_BadSales_init, defBody s_BadSales_init, defScope s_BadSales_init⟩
theorem ss_BadSales : SupS (defScope s_BadSales_init) "self" "at" := ⟨rfl, rfl, rfl, rfl, rfl, rfl, rfl, by decide +kernel, by decide, by decide, by decide⟩
abbrev s_NotWhole_init : Stmt := inClass (top 12) 0
def sd_NotWhole : SupD := ⟨"NotWhole", "sale", "__init__", "NotWhole.__init__", defArgs s_NotWhole_init, defBody s_NotWhole_init, defScope s_NotWhole_init⟩
theorem ss_NotWhole : SupS (defScope s_NotWhole_init) "self" "sale" := ⟨rfl, rfl, rfl, rfl, rfl, rfl, rfl, by decide +kernel, by decide, by decide, by decide⟩
abbrev s_BadLog_init : Stmt := inClass (top 14) 0
def sd_BadLog : SupD := ⟨"BadLog", "at", "__init__", "BadLog.__init__", defArgs s_BadLog_init, defBody s_BadLog_init, defScope s_BadLog_init⟩
theorem ss_BadLog : SupS (defScope s_BadLog_init) "self" "at" := ⟨rfl, rfl, rfl, rfl, rfl, rfl, rfl, by decide +kernel, by decide, by decide, by decide⟩
abbrev s_BadReceipts_init : Stmt := inClass (top 16) 0
def sd_BadReceipts : SupD := ⟨"BadReceipts", "at", "__init__", "BadReceipts.__init__", defArgs s_BadReceipts_init, defBody s_BadReceipts_init, defScope s_BadReceipts_init⟩
theorem ss_BadReceipts : SupS (defScope s_BadReceipts_init) "self" "at" := ⟨rfl, rfl, rfl, rfl, rfl, rfl, rfl, by decide +kernel, by decide, by decide, by decide⟩
abbrev s_Shaky_init : Stmt := inClass (top 17) 0
def sd_Shaky : SupD := ⟨"Shaky", "lot", "__init__", "Shaky.__init__", defArgs s_Shaky_init, defBody s_Shaky_init, defScope s_Shaky_init⟩
theorem ss_Shaky : SupS (defScope s_Shaky_init) "self" "lot" := ⟨rfl, rfl, rfl, rfl, rfl, rfl, rfl, by decide +kernel, by decide, by decide, by decide⟩
abbrev s_BadText_init : Stmt := inClass (top 19) 0
def sd_BadText : SupD := ⟨"BadText", "line", "__init__", "BadText.__init__", defArgs s_BadText_init, defBody s_BadText_init, defScope s_BadText_init⟩
theorem ss_BadText : SupS (defScope s_BadText_init) "self" "line" := ⟨rfl, rfl, rfl, rfl, rfl, rfl, rfl, by decide +kernel, by decide, by decide, by decide⟩
def spL : List SupD := [sd_BadBox, sd_BadRow, sd_BadRows, sd_TooMany, sd_NoRow, sd_BadSales, sd_NotWhole, sd_BadLog, sd_BadReceipts, sd_Shaky, sd_BadText]
def clsL : List Str := []
def tab : List (Str × Str) := []
def eqL : List Str := []
def chk (K : PySem.W.Frag) : Bool := (clsB K clsL) && (fldB K tab) && (excB K exL) && (xfldB K exF) && (txtB K (He.ga K "BadRule")) && (txtB K (He.ga K "BadBook")) && (txtB K (He.ga K "BadSale")) && (txtB K (He.ga K "BadLot")) && (txtB K (He.ga K "NoEntry")) && (txtB K (He.ga K "BadDay")) && (txtB K (He.ga K "NothingDone")) && (exL.all fun c => decide (PySem.W.exmOne K (.ref (He.ga K c)) (.ref (He.ga K "PriceError")) = some true)) && (nfB K clsL eqL)
abbrev R : PySem.W.OpenRow := PySem.W.OpenLaw.row PySem.Challenge.rw_rowsmeet_k11_errors_made
def hkE : HkE := ⟨fa, fn, pr, chk, ts, spL, tfL, R.prog.main.file⟩
abbrev hk : PySem.W.Hook := hkE.hook 5
def ob (s : PySem.W.SharedT) : AlE := hkE.obs 5 (HandSHeadRun.getT s)
theorem ob_eq (s : PySem.W.SharedT) : ob s = hk.obs s.abs   := hkE.obs_eq (HandSHeadRun.getT_eq s)
theorem run (w : World) : HandSHeadRun.RunEq R (PySem.W.view R.prog [32]) hk ob 12000 loose w := by
  intro os
  kernel_rfl
-- the head ends here
structure TextF (P : Program) (w : World) (K : PySem.W.Frag) (mg : Str → Option Value) : Prop where
  says : SaysX fa fn pr chk K
  cls : ClsT K clsL
  fld : FldT K tab
  g_BadBook : mg "BadBook" = some (.ref (He.ga K "BadBook"))
  g_BadBox : mg "BadBox" = some (.ref (He.ga K "BadBox"))
  g_BadDay : mg "BadDay" = some (.ref (He.ga K "BadDay"))
  g_BadLog : mg "BadLog" = some (.ref (He.ga K "BadLog"))
  g_BadLot : mg "BadLot" = some (.ref (He.ga K "BadLot"))
  g_BadReceipts : mg "BadReceipts" = some (.ref (He.ga K "BadReceipts"))
  g_BadRow : mg "BadRow" = some (.ref (He.ga K "BadRow"))
  g_BadRows : mg "BadRows" = some (.ref (He.ga K "BadRows"))
  g_BadRule : mg "BadRule" = some (.ref (He.ga K "BadRule"))
  g_BadSale : mg "BadSale" = some (.ref (He.ga K "BadSale"))
  g_BadSales : mg "BadSales" = some (.ref (He.ga K "BadSales"))
  g_BadText : mg "BadText" = some (.ref (He.ga K "BadText"))
  g_NoEntry : mg "NoEntry" = some (.ref (He.ga K "NoEntry"))
  g_NoRow : mg "NoRow" = some (.ref (He.ga K "NoRow"))
  g_NotWhole : mg "NotWhole" = some (.ref (He.ga K "NotWhole"))
  g_NothingDone : mg "NothingDone" = some (.ref (He.ga K "NothingDone"))
  g_PriceError : mg "PriceError" = some (.ref (He.ga K "PriceError"))
  g_Shaky : mg "Shaky" = some (.ref (He.ga K "Shaky"))
  g_TooMany : mg "TooMany" = some (.ref (He.ga K "TooMany"))
  g_law_begun : mg "_law_begun" = some (.ref (He.ga K "_law_begun"))
  g_law_by_name : mg "_law_by_name" = some (.ref (He.ga K "_law_by_name"))
  g_law_by_place : mg "_law_by_place" = some (.ref (He.ga K "_law_by_place"))
  g_law_caught_as : mg "_law_caught_as" = some (.ref (He.ga K "_law_caught_as"))
  g_law_draw : mg "_law_draw" = some (.ref (He.ga K "_law_draw"))
  g_law_kept : mg "_law_kept" = some (.ref (He.ga K "_law_kept"))
  g_law_marks : mg "_law_marks" = some (.ref (He.ga K "_law_marks"))
  g_law_odd : mg "_law_odd" = some (.ref (He.ga K "_law_odd"))
  g_law_pick : mg "_law_pick" = some (.ref (He.ga K "_law_pick"))
  g_law_plain : mg "_law_plain" = some (.ref (He.ga K "_law_plain"))
  g_law_thrown : mg "_law_thrown" = some (.ref (He.ga K "_law_thrown"))
  g_law : mg "law" = some (.ref (He.ga K "law"))
  n_ValueError : mg "ValueError" = none
  n_abs : mg "abs" = none
  n_enumerate : mg "enumerate" = none
  n_int : mg "int" = none
  n_isinstance : mg "isinstance" = none
  n_len : mg "len" = none
  n_min : mg "min" = none
  n_range : mg "range" = none
  n_repr : mg "repr" = none
  n_super : mg "super" = none
  ex : ExT K exL
  xf : ∀ q ∈ exF, PySem.W.findIn K (.ref (He.ga K q.1)) q.2 = some none
  tx_BadRule : TxtC K (He.ga K "BadRule")
  tx_BadBook : TxtC K (He.ga K "BadBook")
  tx_BadSale : TxtC K (He.ga K "BadSale")
  tx_BadLot : TxtC K (He.ga K "BadLot")
  tx_NoEntry : TxtC K (He.ga K "NoEntry")
  tx_BadDay : TxtC K (He.ga K "BadDay")
  tx_NothingDone : TxtC K (He.ga K "NothingDone")
  xm_PriceError : ∀ c ∈ exL, PySem.W.exmOne K (.ref (He.ga K c)) (.ref (He.ga K "PriceError")) = some true
  su_BadBox : SupC P K (He.ga K "BadBox") (He.ma K (He.ga K "BadBox") "__init__") "part" "__init__" "BadBox.__init__" (defArgs s_BadBox_init) (defBody s_BadBox_init) (defScope s_BadBox_init)
  su_BadRow : SupC P K (He.ga K "BadRow") (He.ma K (He.ga K "BadRow") "__init__") "part" "__init__" "BadRow.__init__" (defArgs s_BadRow_init) (defBody s_BadRow_init) (defScope s_BadRow_init)
  su_BadRows : SupC P K (He.ga K "BadRows") (He.ma K (He.ga K "BadRows") "__init__") "at" "__init__" "BadRows.__init__" (defArgs s_BadRows_init) (defBody s_BadRows_init) (defScope s_BadRows_init)
  su_TooMany : SupC P K (He.ga K "TooMany") (He.ma K (He.ga K "TooMany") "__init__") "most" "__init__" "TooMany.__init__" (defArgs s_TooMany_init) (defBody s_TooMany_init) (defScope s_TooMany_init)
  su_NoRow : SupC P K (He.ga K "NoRow") (He.ma K (He.ga K "NoRow") "__init__") "at" "__init__" "NoRow.__init__" (defArgs s_NoRow_init) (defBody s_NoRow_init) (defScope s_NoRow_init)
  su_BadSales : SupC P K (He.ga K "BadSales") (He.ma K (He.ga K "BadSales") "__init__") "at" "__init__" "BadSales.__init__" (defArgs s_BadSales_init) (defBody s_BadSales_init) (defScope s_BadSales_init)
  su_NotWhole : SupC P K (He.ga K "NotWhole") (He.ma K (He.ga K "NotWhole") "__init__") "sale" "__init__" "NotWhole.__init__" (defArgs s_NotWhole_init) (defBody s_NotWhole_init) (defScope s_NotWhole_init)
  su_BadLog : SupC P K (He.ga K "BadLog") (He.ma K (He.ga K "BadLog") "__init__") "at" "__init__" "BadLog.__init__" (defArgs s_BadLog_init) (defBody s_BadLog_init) (defScope s_BadLog_init)
  su_BadReceipts : SupC P K (He.ga K "BadReceipts") (He.ma K (He.ga K "BadReceipts") "__init__") "at" "__init__" "BadReceipts.__init__" (defArgs s_BadReceipts_init) (defBody s_BadReceipts_init) (defScope s_BadReceipts_init)
  su_Shaky : SupC P K (He.ga K "Shaky") (He.ma K (He.ga K "Shaky") "__init__") "lot" "__init__" "Shaky.__init__" (defArgs s_Shaky_init) (defBody s_Shaky_init) (defScope s_Shaky_init)
  su_BadText : SupC P K (He.ga K "BadText") (He.ma K (He.ga K "BadText") "__init__") "line" "__init__" "BadText.__init__" (defArgs s_BadText_init) (defBody s_BadText_init) (defScope s_BadText_init)
  nf : NfT K clsL eqL
theorem txt {P : Program} {w : World} {K : PySem.W.Frag} {h : Heap} {mg : Str → Option Value} (X : K.In h) (G : h.Ns mainGlobals mg) (ce : hkE.Says w h K) (hP : P.main.file = R.prog.main.file) (hs : (P.main.scope.names.lookup ("super" : Str)).isSome = false) : TextF P w K mg := by
  have cy : SaysY fa fn pr chk ts w K := ce.y
  have c := cy.x
  have hsp : ∀ d ∈ spL, supOk P.main.file K d = true ∧ supW K d = d.val := fun d hd => by rw [hP]; exact ce.sp d hd
  have e : chk K = true := c.c
  unfold chk at e
  simp only [Bool.and_eq_true] at e
  obtain ⟨⟨⟨⟨⟨⟨⟨⟨⟨⟨⟨⟨e0, e1⟩, e2⟩, e3⟩, e4⟩, e5⟩, e6⟩, e7⟩, e8⟩, e9⟩, e10⟩, e11⟩, e12⟩ := e
  exact ⟨c, clsB_ok e0, fldB_ok e1, He.glo_ok X G (c.d.fact 0 (f := .glo "BadBook") rfl), He.glo_ok X G (c.d.fact 1 (f := .glo "BadBox") rfl), He.glo_ok X G (c.d.fact 2 (f := .glo "BadDay") rfl), He.glo_ok X G (c.d.fact 3 (f := .glo "BadLog") rfl), He.glo_ok X G (c.d.fact 4 (f := .glo "BadLot") rfl), He.glo_ok X G (c.d.fact 5 (f := .glo "BadReceipts") rfl), He.glo_ok X G (c.d.fact 6 (f := .glo "BadRow") rfl), He.glo_ok X G (c.d.fact 7 (f := .glo "BadRows") rfl), He.glo_ok X G (c.d.fact 8 (f := .glo "BadRule") rfl), He.glo_ok X G (c.d.fact 9 (f := .glo "BadSale") rfl), He.glo_ok X G (c.d.fact 10 (f := .glo "BadSales") rfl), He.glo_ok X G (c.d.fact 11 (f := .glo "BadText") rfl), He.glo_ok X G (c.d.fact 12 (f := .glo "NoEntry") rfl), He.glo_ok X G (c.d.fact 13 (f := .glo "NoRow") rfl), He.glo_ok X G (c.d.fact 14 (f := .glo "NotWhole") rfl), He.glo_ok X G (c.d.fact 15 (f := .glo "NothingDone") rfl), He.glo_ok X G (c.d.fact 16 (f := .glo "PriceError") rfl), He.glo_ok X G (c.d.fact 17 (f := .glo "Shaky") rfl), He.glo_ok X G (c.d.fact 18 (f := .glo "TooMany") rfl), He.glo_ok X G (c.d.fact 19 (f := .glo "_law_begun") rfl), He.glo_ok X G (c.d.fact 20 (f := .glo "_law_by_name") rfl), He.glo_ok X G (c.d.fact 21 (f := .glo "_law_by_place") rfl), He.glo_ok X G (c.d.fact 22 (f := .glo "_law_caught_as") rfl), He.glo_ok X G (c.d.fact 23 (f := .glo "_law_draw") rfl), He.glo_ok X G (c.d.fact 24 (f := .glo "_law_kept") rfl), He.glo_ok X G (c.d.fact 25 (f := .glo "_law_marks") rfl), He.glo_ok X G (c.d.fact 26 (f := .glo "_law_odd") rfl), He.glo_ok X G (c.d.fact 27 (f := .glo "_law_pick") rfl), He.glo_ok X G (c.d.fact 28 (f := .glo "_law_plain") rfl), He.glo_ok X G (c.d.fact 29 (f := .glo "_law_thrown") rfl), He.glo_ok X G (c.d.fact 30 (f := .glo "law") rfl), He.free_ok X G (c.d.fact 31 (f := .free "ValueError") rfl), He.free_ok X G (c.d.fact 32 (f := .free "abs") rfl), He.free_ok X G (c.d.fact 33 (f := .free "enumerate") rfl), He.free_ok X G (c.d.fact 34 (f := .free "int") rfl), He.free_ok X G (c.d.fact 35 (f := .free "isinstance") rfl), He.free_ok X G (c.d.fact 36 (f := .free "len") rfl), He.free_ok X G (c.d.fact 37 (f := .free "min") rfl), He.free_ok X G (c.d.fact 38 (f := .free "range") rfl), He.free_ok X G (c.d.fact 39 (f := .free "repr") rfl), He.free_ok X G (c.d.fact 40 (f := .free "super") rfl), excB_ok e2, xfldB_ok e3, txtB_ok e4, txtB_ok e5, txtB_ok e6, txtB_ok e7, txtB_ok e8, txtB_ok e9, txtB_ok e10, fun c hc => of_decide_eq_true (List.all_eq_true.mp e11 c hc), supOk_ok (d := sd_BadBox) (hsp sd_BadBox (List.mem_of_getElem? (i := 0) rfl)).1 (hsp sd_BadBox (List.mem_of_getElem? (i := 0) rfl)).2 hs, supOk_ok (d := sd_BadRow) (hsp sd_BadRow (List.mem_of_getElem? (i := 1) rfl)).1 (hsp sd_BadRow (List.mem_of_getElem? (i := 1) rfl)).2 hs, supOk_ok (d := sd_BadRows) (hsp sd_BadRows (List.mem_of_getElem? (i := 2) rfl)).1 (hsp sd_BadRows (List.mem_of_getElem? (i := 2) rfl)).2 hs, supOk_ok (d := sd_TooMany) (hsp sd_TooMany (List.mem_of_getElem? (i := 3) rfl)).1 (hsp sd_TooMany (List.mem_of_getElem? (i := 3) rfl)).2 hs, supOk_ok (d := sd_NoRow) (hsp sd_NoRow (List.mem_of_getElem? (i := 4) rfl)).1 (hsp sd_NoRow (List.mem_of_getElem? (i := 4) rfl)).2 hs, supOk_ok (d := sd_BadSales) (hsp sd_BadSales (List.mem_of_getElem? (i := 5) rfl)).1 (hsp sd_BadSales (List.mem_of_getElem? (i := 5) rfl)).2 hs, supOk_ok (d := sd_NotWhole) (hsp sd_NotWhole (List.mem_of_getElem? (i := 6) rfl)).1 (hsp sd_NotWhole (List.mem_of_getElem? (i := 6) rfl)).2 hs, supOk_ok (d := sd_BadLog) (hsp sd_BadLog (List.mem_of_getElem? (i := 7) rfl)).1 (hsp sd_BadLog (List.mem_of_getElem? (i := 7) rfl)).2 hs, supOk_ok (d := sd_BadReceipts) (hsp sd_BadReceipts (List.mem_of_getElem? (i := 8) rfl)).1 (hsp sd_BadReceipts (List.mem_of_getElem? (i := 8) rfl)).2 hs, supOk_ok (d := sd_Shaky) (hsp sd_Shaky (List.mem_of_getElem? (i := 9) rfl)).1 (hsp sd_Shaky (List.mem_of_getElem? (i := 9) rfl)).2 hs, supOk_ok (d := sd_BadText) (hsp sd_BadText (List.mem_of_getElem? (i := 10) rfl)).1 (hsp sd_BadText (List.mem_of_getElem? (i := 10) rfl)).2 hs, nfB_ok e12⟩
def f_law_pick (state : D) (several : D) : M D := (B (pure several) fun t1 => B (callB [(pure state), (argsB [(pure several)] lenD)] drawM []) fun t2 => idxD t1 t2)
def f_law_odd (state : D) : M D := (B (argsB [(pure D.non), (pure (.bl true)), (pure (.bl false)), (B (pure (.int 1)) negD), (pure (.int 0)), (pure (.int 1)), (pure (.int 7)), (B (B (pure (.int 10)) fun t1 => B (pure (.int 9)) fun t2 => powD t1 t2) fun t3 => B (pure (.int 99)) fun t4 => subD t3 t4), (B (B (pure (.int 10)) fun t5 => B (pure (.int 9)) fun t6 => powD t5 t6) negD), (pure (.str "")), (pure (.str "a")), (pure (.str "A")), (pure (.str "abcdefghi")), (pure (.str "a b")), (pure (.str "days"))] lstD) fun several => (B (B (pure several) fun t7 => B (argsB [(argsB [] tupD), (argsB [] lstD), (pure (.dic [] [])), (argsB [(pure (.str "a"))] tupD), (argsB [(pure (.str "a"))] lstD), (argsB [(pure (.int 0)), (pure (.int 0))] tupD), (argsB [(pure (.int 0)), (pure D.non)] lstD), (argsB [(pure (.int 0)), (pure D.non)] tupD), (argsB [(pure (.int 0))] tupD), (argsB [(argsB [] tupD)] tupD), (argsB [(pure (.int 0))] (dicD [.inr "a"])), (argsB [(pure (.int 1)), (pure (.int 0))] tupD)] lstD) fun t8 => addD t7 t8) fun several_1 => (callB [(pure state), (B (pure several_1) fun t9 => B (argsB [(argsB [(pure (.int 0)), (pure (.int 1)), (pure (.int 2))] tupD), (argsB [(pure (.int 1)), (pure (.int 0))] lstD)] lstD) fun t10 => addD t9 t10)] (l2 f_law_pick) [])))
def f_law_by_place (item : D) : M D := (B (argsB [(B (pure item) fun t1 => pure (.xcp "BadBox" ["part"] [t1])), (B (pure item) fun t2 => pure (.xcp "BadRow" ["part"] [t2])), (B (pure item) fun t3 => pure (.xcp "BadRows" ["at"] [t3])), (B (pure item) fun t4 => pure (.xcp "TooMany" ["most"] [t4])), (B (pure item) fun t5 => pure (.xcp "NoRow" ["at"] [t5])), (B (pure item) fun t6 => pure (.xcp "BadSales" ["at"] [t6])), (B (pure item) fun t7 => pure (.xcp "NotWhole" ["sale"] [t7]))] lstD) fun found => (B (pure found) fun t12 => B (argsB [(B (pure item) fun t8 => pure (.xcp "BadLog" ["at"] [t8])), (B (pure item) fun t9 => pure (.xcp "BadReceipts" ["at"] [t9])), (B (pure item) fun t10 => pure (.xcp "Shaky" ["lot"] [t10])), (B (pure item) fun t11 => pure (.xcp "BadText" ["line"] [t11]))] lstD) fun t13 => addD t12 t13))
def f_law_kept (errors : D) : M D := (B (argsB [(B (B (pure errors) fun t1 => B (pure (.int 0)) fun t2 => idxD t1 t2) (fldE exL exF "part")), (B (B (pure errors) fun t3 => B (pure (.int 1)) fun t4 => idxD t3 t4) (fldE exL exF "part")), (B (B (pure errors) fun t5 => B (pure (.int 2)) fun t6 => idxD t5 t6) (fldE exL exF "at")), (B (B (pure errors) fun t7 => B (pure (.int 3)) fun t8 => idxD t7 t8) (fldE exL exF "most")), (B (B (pure errors) fun t9 => B (pure (.int 4)) fun t10 => idxD t9 t10) (fldE exL exF "at")), (B (B (pure errors) fun t11 => B (pure (.int 5)) fun t12 => idxD t11 t12) (fldE exL exF "at"))] lstD) fun found => (B (pure found) fun t23 => B (argsB [(B (B (pure errors) fun t13 => B (pure (.int 6)) fun t14 => idxD t13 t14) (fldE exL exF "sale")), (B (B (pure errors) fun t15 => B (pure (.int 7)) fun t16 => idxD t15 t16) (fldE exL exF "at")), (B (B (pure errors) fun t17 => B (pure (.int 8)) fun t18 => idxD t17 t18) (fldE exL exF "at")), (B (B (pure errors) fun t19 => B (pure (.int 9)) fun t20 => idxD t19 t20) (fldE exL exF "lot")), (B (B (pure errors) fun t21 => B (pure (.int 10)) fun t22 => idxD t21 t22) (fldE exL exF "line"))] lstD) fun t24 => addD t23 t24))
def f_law_by_name (item : D) : M D := (B (argsB [(B (pure item) fun t1 => pure (.xcp "BadBox" ["part"] [t1])), (B (pure item) fun t2 => pure (.xcp "BadRow" ["part"] [t2])), (B (pure item) fun t3 => pure (.xcp "BadRows" ["at"] [t3])), (B (pure item) fun t4 => pure (.xcp "TooMany" ["most"] [t4])), (B (pure item) fun t5 => pure (.xcp "NoRow" ["at"] [t5]))] lstD) fun found => (B (B (pure found) fun t10 => B (argsB [(B (pure item) fun t6 => pure (.xcp "BadSales" ["at"] [t6])), (B (pure item) fun t7 => pure (.xcp "NotWhole" ["sale"] [t7])), (B (pure item) fun t8 => pure (.xcp "BadLog" ["at"] [t8])), (B (pure item) fun t9 => pure (.xcp "BadReceipts" ["at"] [t9]))] lstD) fun t11 => addD t10 t11) fun found_1 => (B (pure found_1) fun t14 => B (argsB [(B (pure item) fun t12 => pure (.xcp "Shaky" ["lot"] [t12])), (B (pure item) fun t13 => pure (.xcp "BadText" ["line"] [t13]))] lstD) fun t15 => addD t14 t15)))
def f_law_plain : M D := (B (argsB [(pure (.xcp "BadRule" [] [])), (pure (.xcp "BadBook" [] [])), (pure (.xcp "BadSale" [] [])), (pure (.xcp "BadLot" [] []))] lstD) fun found => (B (pure found) fun t1 => B (argsB [(pure (.xcp "NoEntry" [] [])), (pure (.xcp "BadDay" [] [])), (pure (.xcp "NothingDone" [] []))] lstD) fun t2 => addD t1 t2))
def f_law_marks (caught : D) : M D := (B (argsB [(B (pure caught) (isiE exL (.o "BadBox"))), (B (pure caught) (isiE exL (.o "BadRow"))), (B (pure caught) (isiE exL (.o "BadRows")))] lstD) fun found => (B (B (pure found) fun t1 => B (argsB [(B (pure caught) (isiE exL (.o "TooMany"))), (B (pure caught) (isiE exL (.o "NoRow"))), (B (pure caught) (isiE exL (.o "BadSales")))] lstD) fun t2 => addD t1 t2) fun found_1 => (B (B (pure found_1) fun t3 => B (argsB [(B (pure caught) (isiE exL (.o "NotWhole"))), (B (pure caught) (isiE exL (.o "BadLog"))), (B (pure caught) (isiE exL (.o "BadReceipts")))] lstD) fun t4 => addD t3 t4) fun found_2 => (B (B (pure found_2) fun t5 => B (argsB [(B (pure caught) (isiE exL (.o "Shaky"))), (B (pure caught) (isiE exL (.o "BadText"))), (B (pure caught) (isiE exL (.o "BadRule")))] lstD) fun t6 => addD t5 t6) fun found_3 => (B (B (pure found_3) fun t7 => B (argsB [(B (pure caught) (isiE exL (.o "BadBook"))), (B (pure caught) (isiE exL (.o "BadSale"))), (B (pure caught) (isiE exL (.o "BadLot")))] lstD) fun t8 => addD t7 t8) fun found_4 => (B (pure found_4) fun t9 => B (argsB [(B (pure caught) (isiE exL (.o "NoEntry"))), (B (pure caught) (isiE exL (.o "BadDay"))), (B (pure caught) (isiE exL (.o "NothingDone")))] lstD) fun t10 => addD t9 t10))))))
def f_law_thrown (spot : D) (item : D) : M D := (ifM (tst (B (pure spot) fun t1 => B (pure (.int 0)) fun t2 => eqD t1 t2)) (B (pure item) fun t3 => raise ⟨"BadBox", ["part"], [t3]⟩) (ifM (tst (B (pure spot) fun t4 => B (pure (.int 1)) fun t5 => eqD t4 t5)) (B (pure item) fun t6 => raise ⟨"TooMany", ["most"], [t6]⟩) (ifM (tst (B (pure spot) fun t7 => B (pure (.int 2)) fun t8 => eqD t7 t8)) (B (pure item) fun t9 => raise ⟨"Shaky", ["lot"], [t9]⟩) (ifM (tst (B (pure spot) fun t10 => B (pure (.int 3)) fun t11 => eqD t10 t11)) (B (pure item) fun t12 => raise ⟨"BadText", ["line"], [t12]⟩) (ifM (tst (B (pure spot) fun t13 => B (pure (.int 4)) fun t14 => eqD t13 t14)) (raise ⟨"BadRule", [], []⟩) (raise ⟨"NothingDone", [], []⟩))))))
def f_law_caught_as (spot : D) (item : D) : M D := (B (pure D.non) fun caught => (B (tryE caught exL (callB [(pure spot), (pure item)] (l2 f_law_thrown) [])) fun got => (pure got)))
def f_law_b1 (t21 : D) (y_1 : Unit) : M (D ⊕ (Unit)) := (tp2 fun spot caught => (ifM (tst (B (callB [(pure caught)] (l1 f_law_marks) []) fun t19 => B (B (B (B (pure (.int 18)) fun t14 => rangeD [t14]) fun t17 => lc (fun place => (pure true)) (fun place => (B (pure place) fun t15 => B (pure spot) fun t16 => eqD t15 t16)) t17) fun t18 => pure (.lst t18)) fun t20 => neD t19 t20)) (B (pure (.bl false)) fun d => pure (.inl d)) (ifM (tOr (tNot (tst (B (pure caught) (isiE exL (.o "PriceError"))))) (tNot (tst (B (pure caught) (isiE exL (.b "ValueError")))))) (B (pure (.bl false)) fun d => pure (.inl d)) (pure (.inr ()))))) t21
def f_law_b2 (item : D) (t30 : D) (y_3 : Unit) : M (D ⊕ (Unit)) := (tp2 fun spot_1 place_1 => (ifM (tst (B (callB [(callB [(pure spot_1), (pure item)] (l2 f_law_caught_as) [])] (l1 f_law_marks) []) fun t28 => B (B (B (B (pure (.int 18)) fun t23 => rangeD [t23]) fun t26 => lc (fun one => (pure true)) (fun one => (B (pure one) fun t24 => B (pure place_1) fun t25 => eqD t24 t25)) t26) fun t27 => pure (.lst t27)) fun t29 => neD t28 t29)) (B (pure (.bl false)) fun d => pure (.inl d)) (pure (.inr ())))) t30
def f_law_b3 (state : D) (turn : D) (y : Unit) : M (D ⊕ (Unit)) := (B (callB [(pure state)] (l1 f_law_odd) []) fun item => (B (callB [(pure item)] (l1 f_law_by_place) []) fun errors => (ifM (tOr (tst (B (argsB [(callB [(pure errors)] (l1 f_law_kept) [])] reprR) fun t10 => B (argsB [(B (argsB [(pure item)] lstD) fun t8 => B (pure (.int 11)) fun t9 => mulD t8 t9)] reprR) fun t11 => neD t10 t11)) (tst (B (argsB [(callB [(callB [(pure item)] (l1 f_law_by_name) [])] (l1 f_law_kept) [])] reprR) fun t6 => B (argsB [(B (argsB [(pure item)] lstD) fun t4 => B (pure (.int 11)) fun t5 => mulD t4 t5)] reprR) fun t7 => neD t6 t7))) (B (pure (.bl false)) fun d => pure (.inl d)) (B (B (pure errors) fun t12 => B ((l0 f_law_plain) []) fun t13 => addD t12 t13) fun errors_1 => (B (B (B (pure errors_1) enumD) fun t22 => loopS f_law_b1 t22 ()) (orRet Sum.inl fun y_2 => (B (B (B (argsB [(pure (.int 0)), (pure (.int 3)), (pure (.int 9)), (pure (.int 10)), (pure (.int 11)), (pure (.int 17))] lstD) enumD) fun t31 => loopS (f_law_b2 item) t31 ()) (orRet Sum.inl fun y_4 => (pure (.inr ()))))))))))
def f_law (script : D) : M D := (B (callB [(pure script)] begunD []) fun state => (B (B (B (B (pure (.int 3)) fun t1 => B (argsB [(argsB [(pure script)] lenD), (pure (.int 20))] minD) fun t2 => addD t1 t2) fun t3 => rangeD [t3]) fun t32 => loopS (f_law_b3 state) t32 ()) (orRet (fun d => d) fun y_5 => (pure (.bl true)))))
variable {P : Program} {w : World} {K : PySem.W.Frag} {mg : Str → Option Value} {base : Heap}
theorem sc_law_begun : FnScope ["_law_script", "_law_cells", "_law_cell"] ["_law_script"] (defScope s_law_begun) := ⟨rfl, rfl, rfl, by decide +kernel, rfl, by decide +kernel, by decide +kernel⟩
abbrev FP_law_begun (K : PySem.W.Frag) (fd : FuncData) : Prop := FunD K "_law_begun" "_law_begun" (defArgs s_law_begun) (defBody s_law_begun) (defScope s_law_begun) ([]) [] (He.ga K "_law_begun") fd
theorem ok_law_begun (T : TextF P w K mg) (TB : TabsB base mg K tfL) : ∃ fd, FP_law_begun K fd ∧ Own P w K mg base 1 (He.ga K "_law_begun") fd ["_law_script"] begunD := by
  obtain ⟨fd, F⟩ := T.says.d.def_ 0 (d := d_law_begun) rfl
  have F : FP_law_begun K fd := F
  refine ⟨fd, F, fnG_of F sc_law_begun (fun vs H Q E h => spD.len vs H Q _ h) (fun cdv A fr s H vs Q E hG hr h => ⟨tBegun K, ?_, begun_read rfl vs H Q E h⟩), F.kp⟩
  exact pss_cons (ps_setLc (own := [("_law_cell", 2)]) rfl sc_law_begun.nd rfl rfl (sw_true rfl rfl rfl (by decide +kernel)) (pi_list (pv 0)) (blkOk_by (by first | decide +kernel | kernel_rfl)) (fun _ _ _ _ _ => pg_name sc_law_begun.nd rfl (by first | exact .inl rfl | exact .inr rfl)) (fun _ _ _ _ _ => pts_nil) (fun _ _ _ _ _ => pe_callB call_abs rfl T.n_abs (by decide +kernel) (pa_cons (pv 2) pa_nil)))
    (pss_one (ps_ret (pe_disp (pps_cons pe_str (pe_lc (own := [("_law_cell", 2)]) rfl sc_law_begun.nd (pi_list (pv 1)) (blkOk_by (by first | decide +kernel | kernel_rfl)) (fun _ _ _ _ _ => pg_name sc_law_begun.nd rfl (by first | exact .inl rfl | exact .inr rfl)) (fun _ _ _ _ _ => pts_one (pt_cmpR op_ge (pv 2) (pe_op op_pow pe_int pe_int) (nomark _))) (fun _ _ _ _ _ => pe_op op_sub (pv 2) (pe_op op_pow pe_int pe_int))) (pps_cons pe_str (pv 1) (pps_cons pe_str pe_int (pps_cons pe_str pe_int pps_nil)))) rfl rfl (by intro h; cases h) (by decide))))
theorem sc_law_draw : FnScope ["_law_state", "_law_size", "_law_found", "_law_turn", "_law_cell", "_law_mixed"] ["_law_state", "_law_size"] (defScope s_law_draw) := ⟨rfl, rfl, rfl, by decide +kernel, rfl, by decide +kernel, by decide +kernel⟩
abbrev FP_law_draw (K : PySem.W.Frag) (fd : FuncData) : Prop := FunD K "_law_draw" "_law_draw" (defArgs s_law_draw) (defBody s_law_draw) (defScope s_law_draw) ([]) [] (He.ga K "_law_draw") fd
theorem ok_law_draw (T : TextF P w K mg) (TB : TabsB base mg K tfL) : ∃ fd, FP_law_draw K fd ∧ Own P w K mg base 1 (He.ga K "_law_draw") fd ["_law_state", "_law_size"] drawM := by
  obtain ⟨fd, F⟩ := T.says.d.def_ 1 (d := d_law_draw) rfl
  have F : FP_law_draw K fd := F
  refine ⟨fd, F, fnD_of F sc_law_draw (fun cdv A fr s H E B => ?_) rfl, F.kp⟩
  exact ds_cons (ds_while 1100 B.po (DW.dt (dw_and (dt_eq B.room.units (de_rest 0 (units1 B.room)) de_int) (dw_and1 (dt_large 0 B.room.units)))) (ds_one (ds_popL 0 (units1 B.room))))
    (ds_cons (ds_if (dt_gt (de_rest 0 (units1 B.room)) de_int) (ds_cons (ds_set 2 sc_law_draw.nd rfl (.inl rfl) (de_mod (de_int_ rfl T.n_int (da_cons (de_rest 0 (units1 B.room)) da_nil)) (de_var 1))) (ds_cons (ds_rest 0 (units1 B.room) (de_fdiv (de_rest 0 (units1 B.room)) (de_var 1))) (ds_one (ds_ret (de_var 2))))) ds_nil)
    (ds_cons (ds_set 3 sc_law_draw.nd rfl (.inl rfl) (de_add (de_turn 0 (units1 B.room)) de_int))
    (ds_cons (ds_turn 0 (units1 B.room) (de_var 3))
    (ds_cons (ds_set 4 sc_law_draw.nd rfl (.inl rfl) (de_if (dt_cells 0 B.room.units) (de_cell 0 (units1 B.room) (de_mod (de_int_ rfl T.n_int (da_cons (de_var 3) da_nil)) (de_lenCells 0 (units1 B.room) rfl T.n_len)) (fun _ _ => rfl)) de_int))
    (ds_cons (ds_set 5 sc_law_draw.nd rfl (.inl rfl) (de_mod (de_int_ rfl T.n_int (da_cons (de_pow (de_add (de_add (de_mod (de_int_ rfl T.n_int (da_cons (de_var 4) da_nil)) de_int) (de_mul de_int (de_var 3))) de_int) de_int) da_nil)) de_int))
    (ds_one (ds_ret (de_mod (de_int_ rfl T.n_int (da_cons (de_fdiv (de_mod (de_int_ rfl T.n_int (da_cons (de_pow (de_add (de_var 5) (de_mul de_int (de_var 3))) de_int) da_nil)) de_int) de_int) da_nil)) (de_var 1)))))))))
theorem sc_law_pick : FnScope ["_law_state", "_law_several"] ["_law_state", "_law_several"] (defScope s_law_pick) := ⟨rfl, rfl, rfl, by decide +kernel, rfl, by decide +kernel, by decide +kernel⟩
abbrev FP_law_pick (K : PySem.W.Frag) (fd : FuncData) : Prop := FunD K "_law_pick" "_law_pick" (defArgs s_law_pick) (defBody s_law_pick) (defScope s_law_pick) ([]) [] (He.ga K "_law_pick") fd
theorem ok_law_pick (T : TextF P w K mg) (TB : TabsB base mg K tfL) : ∃ fd, FP_law_pick K fd ∧ Own P w K mg base 2 (He.ga K "_law_pick") fd ["_law_state", "_law_several"] (l2 f_law_pick) := by
  obtain ⟨fd, F⟩ := T.says.d.def_ 2 (d := d_law_pick) rfl
  have F : FP_law_pick K fd := F
  obtain ⟨fd_law_draw, F_law_draw, O_law_draw⟩ := ok_law_draw (P := P) (w := w) (base := base) T TB
  have b_law_draw : Binds K fd_law_draw ["_law_state", "_law_size"] [] := F_law_draw.bindsN fun _ _ _ _ _ _ us hl => match us, hl with | [_, _], _ => rfl
  refine ⟨fd, F, fnX_of (k := 1) (gf := (l2 f_law_pick)) F sc_law_pick (fun cdv A fr s H E B ds hl => ?_), F.kp⟩
  match ds, hl with | [state, several], _ => exact (by exact xs_retB (by exact xe_idx (by exact xe_var 1) (by exact xe_call (x := "_law_draw") (ps := ["_law_state", "_law_size"]) (gf := drawM) (dds := []) (by exact O_law_draw.fn) (by exact B.room.mono (by decide)) (by exact B.gd) (by exact B.tk) (by rfl) (by exact T.g_law_draw) (by exact O_law_draw.kp) (by exact b_law_draw) (by exact .nil) (by exact fun _ _ => DenL.nil) (by exact xa_cons (by exact xe_var 0) (by exact xa_cons (by exact xe_len (by rfl) (by exact T.n_len) (by exact xa_cons (by exact xe_var 1) xa_nil)) xa_nil))) (by exact fun _ _ => rfl)))
theorem sc_law_odd : FnScope ["_law_state", "_law_several"] ["_law_state"] (defScope s_law_odd) := ⟨rfl, rfl, rfl, by decide +kernel, rfl, by decide +kernel, by decide +kernel⟩
abbrev FP_law_odd (K : PySem.W.Frag) (fd : FuncData) : Prop := FunD K "_law_odd" "_law_odd" (defArgs s_law_odd) (defBody s_law_odd) (defScope s_law_odd) ([]) [] (He.ga K "_law_odd") fd
theorem ok_law_odd (T : TextF P w K mg) (TB : TabsB base mg K tfL) : ∃ fd, FP_law_odd K fd ∧ Own P w K mg base 3 (He.ga K "_law_odd") fd ["_law_state"] (l1 f_law_odd) := by
  obtain ⟨fd, F⟩ := T.says.d.def_ 3 (d := d_law_odd) rfl
  have F : FP_law_odd K fd := F
  obtain ⟨fd_law_pick, F_law_pick, O_law_pick⟩ := ok_law_pick (P := P) (w := w) (base := base) T TB
  have b_law_pick : Binds K fd_law_pick ["_law_state", "_law_several"] [] := F_law_pick.bindsN fun _ _ _ _ _ _ us hl => match us, hl with | [_, _], _ => rfl
  refine ⟨fd, F, fnX_of (k := 2) (gf := (l1 f_law_odd)) F sc_law_odd (fun cdv A fr s H E B ds hl => ?_), F.kp⟩
  match ds, hl with | [state], _ => exact (by exact xs_set 1 (by exact sc_law_odd.nd) (by rfl) (by first | exact .inl rfl | exact .inr rfl) (by exact xe_lst (by exact xa_cons (by exact xe_non) (by exact xa_cons (by exact xe_bl) (by exact xa_cons (by exact xe_bl) (by exact xa_cons (by exact xe_neg (by exact xe_int)) (by exact xa_cons (by exact xe_int) (by exact xa_cons (by exact xe_int) (by exact xa_cons (by exact xe_int) (by exact xa_cons (by exact xe_sub (by exact xe_pow (by exact xe_int) (by exact xe_int)) (by exact xe_int)) (by exact xa_cons (by exact xe_neg (by exact xe_pow (by exact xe_int) (by exact xe_int))) (by exact xa_cons (by exact xe_str) (by exact xa_cons (by exact xe_str) (by exact xa_cons (by exact xe_str) (by exact xa_cons (by exact xe_str) (by exact xa_cons (by exact xe_str) (by exact xa_cons (by exact xe_str) xa_nil)))))))))))))))) (by intro several; exact (by exact xs_set 1 (by exact sc_law_odd.nd) (by rfl) (by first | exact .inl rfl | exact .inr rfl) (by exact xe_add (by exact xe_var 1) (by exact xe_lst (by exact xa_cons (by exact xe_tup xa_nil) (by exact xa_cons (by exact xe_lst xa_nil) (by exact xa_cons (by exact xe_dict0) (by exact xa_cons (by exact xe_tup (by exact xa_cons (by exact xe_str) xa_nil)) (by exact xa_cons (by exact xe_lst (by exact xa_cons (by exact xe_str) xa_nil)) (by exact xa_cons (by exact xe_tup (by exact xa_cons (by exact xe_int) (by exact xa_cons (by exact xe_int) xa_nil))) (by exact xa_cons (by exact xe_lst (by exact xa_cons (by exact xe_int) (by exact xa_cons (by exact xe_non) xa_nil))) (by exact xa_cons (by exact xe_tup (by exact xa_cons (by exact xe_int) (by exact xa_cons (by exact xe_non) xa_nil))) (by exact xa_cons (by exact xe_tup (by exact xa_cons (by exact xe_int) xa_nil)) (by exact xa_cons (by exact xe_tup (by exact xa_cons (by exact xe_tup xa_nil) xa_nil)) (by exact xa_cons (by exact xe_dict (by exact xp_cons (k := .inr "a") pe_str (by exact xe_int) xp_nil)) (by exact xa_cons (by exact xe_tup (by exact xa_cons (by exact xe_int) (by exact xa_cons (by exact xe_int) xa_nil))) xa_nil)))))))))))))) (by intro several_1; exact (by exact xs_retB (by exact xe_call (x := "_law_pick") (ps := ["_law_state", "_law_several"]) (gf := (l2 f_law_pick)) (dds := []) (by exact O_law_pick.fn) (by exact B.room.mono (by decide)) (by exact B.gd) (by exact B.tk) (by rfl) (by exact T.g_law_pick) (by exact O_law_pick.kp) (by exact b_law_pick) (by exact .nil) (by exact fun _ _ => DenL.nil) (by exact xa_cons (by exact xe_var 0) (by exact xa_cons (by exact xe_add (by exact xe_var 1) (by exact xe_lst (by exact xa_cons (by exact xe_tup (by exact xa_cons (by exact xe_int) (by exact xa_cons (by exact xe_int) (by exact xa_cons (by exact xe_int) xa_nil)))) (by exact xa_cons (by exact xe_lst (by exact xa_cons (by exact xe_int) (by exact xa_cons (by exact xe_int) xa_nil))) xa_nil)))) xa_nil))))))))
theorem sc_law_by_place : FnScope ["_law_item", "_law_found"] ["_law_item"] (defScope s_law_by_place) := ⟨rfl, rfl, rfl, by decide +kernel, rfl, by decide +kernel, by decide +kernel⟩
abbrev FP_law_by_place (K : PySem.W.Frag) (fd : FuncData) : Prop := FunD K "_law_by_place" "_law_by_place" (defArgs s_law_by_place) (defBody s_law_by_place) (defScope s_law_by_place) ([]) [] (He.ga K "_law_by_place") fd
theorem ok_law_by_place (T : TextF P w K mg) (TB : TabsB base mg K tfL) : ∃ fd, FP_law_by_place K fd ∧ Own P w K mg base 3 (He.ga K "_law_by_place") fd ["_law_item"] (l1 f_law_by_place) := by
  obtain ⟨fd, F⟩ := T.says.d.def_ 4 (d := d_law_by_place) rfl
  have F : FP_law_by_place K fd := F
  refine ⟨fd, F, fnX_of (k := 2) (gf := (l1 f_law_by_place)) F sc_law_by_place (fun cdv A fr s H E B ds hl => ?_), F.kp⟩
  match ds, hl with | [item], _ => exact (by exact xs_set 1 (by exact sc_law_by_place.nd) (by rfl) (by first | exact .inl rfl | exact .inr rfl) (by exact xe_lst (by exact xa_cons (by exact xe_mkS (k := 1) (by exact T.su_BadBox) (by exact ss_BadBox) (by rfl) (by rfl) (by rfl) (by intros; rfl) (by exact B.room.mono (by decide)) (by exact T.n_super) (by rfl) (by exact T.g_BadBox) (by exact xe_var 0)) (by exact xa_cons (by exact xe_mkS (k := 1) (by exact T.su_BadRow) (by exact ss_BadRow) (by rfl) (by rfl) (by rfl) (by intros; rfl) (by exact B.room.mono (by decide)) (by exact T.n_super) (by rfl) (by exact T.g_BadRow) (by exact xe_var 0)) (by exact xa_cons (by exact xe_mkS (k := 1) (by exact T.su_BadRows) (by exact ss_BadRows) (by rfl) (by rfl) (by rfl) (by intros; rfl) (by exact B.room.mono (by decide)) (by exact T.n_super) (by rfl) (by exact T.g_BadRows) (by exact xe_var 0)) (by exact xa_cons (by exact xe_mkS (k := 1) (by exact T.su_TooMany) (by exact ss_TooMany) (by rfl) (by rfl) (by rfl) (by intros; rfl) (by exact B.room.mono (by decide)) (by exact T.n_super) (by rfl) (by exact T.g_TooMany) (by exact xe_var 0)) (by exact xa_cons (by exact xe_mkS (k := 1) (by exact T.su_NoRow) (by exact ss_NoRow) (by rfl) (by rfl) (by rfl) (by intros; rfl) (by exact B.room.mono (by decide)) (by exact T.n_super) (by rfl) (by exact T.g_NoRow) (by exact xe_var 0)) (by exact xa_cons (by exact xe_mkS (k := 1) (by exact T.su_BadSales) (by exact ss_BadSales) (by rfl) (by rfl) (by rfl) (by intros; rfl) (by exact B.room.mono (by decide)) (by exact T.n_super) (by rfl) (by exact T.g_BadSales) (by exact xe_var 0)) (by exact xa_cons (by exact xe_mkS (k := 1) (by exact T.su_NotWhole) (by exact ss_NotWhole) (by rfl) (by rfl) (by rfl) (by intros; rfl) (by exact B.room.mono (by decide)) (by exact T.n_super) (by rfl) (by exact T.g_NotWhole) (by exact xe_var 0)) xa_nil)))))))) (by intro found; exact (by exact xs_retB (by exact xe_add (by exact xe_var 1) (by exact xe_lst (by exact xa_cons (by exact xe_mkS (k := 1) (by exact T.su_BadLog) (by exact ss_BadLog) (by rfl) (by rfl) (by rfl) (by intros; rfl) (by exact B.room.mono (by decide)) (by exact T.n_super) (by rfl) (by exact T.g_BadLog) (by exact xe_var 0)) (by exact xa_cons (by exact xe_mkS (k := 1) (by exact T.su_BadReceipts) (by exact ss_BadReceipts) (by rfl) (by rfl) (by rfl) (by intros; rfl) (by exact B.room.mono (by decide)) (by exact T.n_super) (by rfl) (by exact T.g_BadReceipts) (by exact xe_var 0)) (by exact xa_cons (by exact xe_mkS (k := 1) (by exact T.su_Shaky) (by exact ss_Shaky) (by rfl) (by rfl) (by rfl) (by intros; rfl) (by exact B.room.mono (by decide)) (by exact T.n_super) (by rfl) (by exact T.g_Shaky) (by exact xe_var 0)) (by exact xa_cons (by exact xe_mkS (k := 1) (by exact T.su_BadText) (by exact ss_BadText) (by rfl) (by rfl) (by rfl) (by intros; rfl) (by exact B.room.mono (by decide)) (by exact T.n_super) (by rfl) (by exact T.g_BadText) (by exact xe_var 0)) xa_nil)))))))))
theorem sc_law_kept : FnScope ["_law_errors", "_law_found"] ["_law_errors"] (defScope s_law_kept) := ⟨rfl, rfl, rfl, by decide +kernel, rfl, by decide +kernel, by decide +kernel⟩
abbrev FP_law_kept (K : PySem.W.Frag) (fd : FuncData) : Prop := FunD K "_law_kept" "_law_kept" (defArgs s_law_kept) (defBody s_law_kept) (defScope s_law_kept) ([]) [] (He.ga K "_law_kept") fd
theorem ok_law_kept (T : TextF P w K mg) (TB : TabsB base mg K tfL) : ∃ fd, FP_law_kept K fd ∧ Own P w K mg base 1 (He.ga K "_law_kept") fd ["_law_errors"] (l1 f_law_kept) := by
  obtain ⟨fd, F⟩ := T.says.d.def_ 5 (d := d_law_kept) rfl
  have F : FP_law_kept K fd := F
  refine ⟨fd, F, fnX_of (k := 0) (gf := (l1 f_law_kept)) F sc_law_kept (fun cdv A fr s H E B ds hl => ?_), F.kp⟩
  match ds, hl with | [errors], _ => exact (by exact xs_set 1 (by exact sc_law_kept.nd) (by rfl) (by first | exact .inl rfl | exact .inr rfl) (by exact xe_lst (by exact xa_cons (by exact xe_fldE "part" (by exact T.ex) (by exact T.xf) (by exact xe_idx (by exact xe_var 0) (by exact xe_int) (by exact fun _ _ => rfl))) (by exact xa_cons (by exact xe_fldE "part" (by exact T.ex) (by exact T.xf) (by exact xe_idx (by exact xe_var 0) (by exact xe_int) (by exact fun _ _ => rfl))) (by exact xa_cons (by exact xe_fldE "at" (by exact T.ex) (by exact T.xf) (by exact xe_idx (by exact xe_var 0) (by exact xe_int) (by exact fun _ _ => rfl))) (by exact xa_cons (by exact xe_fldE "most" (by exact T.ex) (by exact T.xf) (by exact xe_idx (by exact xe_var 0) (by exact xe_int) (by exact fun _ _ => rfl))) (by exact xa_cons (by exact xe_fldE "at" (by exact T.ex) (by exact T.xf) (by exact xe_idx (by exact xe_var 0) (by exact xe_int) (by exact fun _ _ => rfl))) (by exact xa_cons (by exact xe_fldE "at" (by exact T.ex) (by exact T.xf) (by exact xe_idx (by exact xe_var 0) (by exact xe_int) (by exact fun _ _ => rfl))) xa_nil))))))) (by intro found; exact (by exact xs_retB (by exact xe_add (by exact xe_var 1) (by exact xe_lst (by exact xa_cons (by exact xe_fldE "sale" (by exact T.ex) (by exact T.xf) (by exact xe_idx (by exact xe_var 0) (by exact xe_int) (by exact fun _ _ => rfl))) (by exact xa_cons (by exact xe_fldE "at" (by exact T.ex) (by exact T.xf) (by exact xe_idx (by exact xe_var 0) (by exact xe_int) (by exact fun _ _ => rfl))) (by exact xa_cons (by exact xe_fldE "at" (by exact T.ex) (by exact T.xf) (by exact xe_idx (by exact xe_var 0) (by exact xe_int) (by exact fun _ _ => rfl))) (by exact xa_cons (by exact xe_fldE "lot" (by exact T.ex) (by exact T.xf) (by exact xe_idx (by exact xe_var 0) (by exact xe_int) (by exact fun _ _ => rfl))) (by exact xa_cons (by exact xe_fldE "line" (by exact T.ex) (by exact T.xf) (by exact xe_idx (by exact xe_var 0) (by exact xe_int) (by exact fun _ _ => rfl))) xa_nil))))))))))
theorem sc_law_by_name : FnScope ["_law_item", "_law_found"] ["_law_item"] (defScope s_law_by_name) := ⟨rfl, rfl, rfl, by decide +kernel, rfl, by decide +kernel, by decide +kernel⟩
abbrev FP_law_by_name (K : PySem.W.Frag) (fd : FuncData) : Prop := FunD K "_law_by_name" "_law_by_name" (defArgs s_law_by_name) (defBody s_law_by_name) (defScope s_law_by_name) ([]) [] (He.ga K "_law_by_name") fd
theorem ok_law_by_name (T : TextF P w K mg) (TB : TabsB base mg K tfL) : ∃ fd, FP_law_by_name K fd ∧ Own P w K mg base 3 (He.ga K "_law_by_name") fd ["_law_item"] (l1 f_law_by_name) := by
  obtain ⟨fd, F⟩ := T.says.d.def_ 6 (d := d_law_by_name) rfl
  have F : FP_law_by_name K fd := F
  refine ⟨fd, F, fnX_of (k := 2) (gf := (l1 f_law_by_name)) F sc_law_by_name (fun cdv A fr s H E B ds hl => ?_), F.kp⟩
  match ds, hl with | [item], _ => exact (by exact xs_set 1 (by exact sc_law_by_name.nd) (by rfl) (by first | exact .inl rfl | exact .inr rfl) (by exact xe_lst (by exact xa_cons (by exact xe_mkK (k := 1) (by exact T.su_BadBox) (by exact ss_BadBox) (by rfl) (by rfl) (by rfl) (by intros; rfl) (by exact B.room.mono (by decide)) (by exact T.n_super) (by rfl) (by exact T.g_BadBox) (by exact cw_kw (ks := ["part"]) (xk_cons (by exact xe_var 0) xk_nil))) (by exact xa_cons (by exact xe_mkK (k := 1) (by exact T.su_BadRow) (by exact ss_BadRow) (by rfl) (by rfl) (by rfl) (by intros; rfl) (by exact B.room.mono (by decide)) (by exact T.n_super) (by rfl) (by exact T.g_BadRow) (by exact cw_kw (ks := ["part"]) (xk_cons (by exact xe_var 0) xk_nil))) (by exact xa_cons (by exact xe_mkK (k := 1) (by exact T.su_BadRows) (by exact ss_BadRows) (by rfl) (by rfl) (by rfl) (by intros; rfl) (by exact B.room.mono (by decide)) (by exact T.n_super) (by rfl) (by exact T.g_BadRows) (by exact cw_kw (ks := ["at"]) (xk_cons (by exact xe_var 0) xk_nil))) (by exact xa_cons (by exact xe_mkK (k := 1) (by exact T.su_TooMany) (by exact ss_TooMany) (by rfl) (by rfl) (by rfl) (by intros; rfl) (by exact B.room.mono (by decide)) (by exact T.n_super) (by rfl) (by exact T.g_TooMany) (by exact cw_kw (ks := ["most"]) (xk_cons (by exact xe_var 0) xk_nil))) (by exact xa_cons (by exact xe_mkK (k := 1) (by exact T.su_NoRow) (by exact ss_NoRow) (by rfl) (by rfl) (by rfl) (by intros; rfl) (by exact B.room.mono (by decide)) (by exact T.n_super) (by rfl) (by exact T.g_NoRow) (by exact cw_kw (ks := ["at"]) (xk_cons (by exact xe_var 0) xk_nil))) xa_nil)))))) (by intro found; exact (by exact xs_set 1 (by exact sc_law_by_name.nd) (by rfl) (by first | exact .inl rfl | exact .inr rfl) (by exact xe_add (by exact xe_var 1) (by exact xe_lst (by exact xa_cons (by exact xe_mkK (k := 1) (by exact T.su_BadSales) (by exact ss_BadSales) (by rfl) (by rfl) (by rfl) (by intros; rfl) (by exact B.room.mono (by decide)) (by exact T.n_super) (by rfl) (by exact T.g_BadSales) (by exact cw_kw (ks := ["at"]) (xk_cons (by exact xe_var 0) xk_nil))) (by exact xa_cons (by exact xe_mkK (k := 1) (by exact T.su_NotWhole) (by exact ss_NotWhole) (by rfl) (by rfl) (by rfl) (by intros; rfl) (by exact B.room.mono (by decide)) (by exact T.n_super) (by rfl) (by exact T.g_NotWhole) (by exact cw_kw (ks := ["sale"]) (xk_cons (by exact xe_var 0) xk_nil))) (by exact xa_cons (by exact xe_mkK (k := 1) (by exact T.su_BadLog) (by exact ss_BadLog) (by rfl) (by rfl) (by rfl) (by intros; rfl) (by exact B.room.mono (by decide)) (by exact T.n_super) (by rfl) (by exact T.g_BadLog) (by exact cw_kw (ks := ["at"]) (xk_cons (by exact xe_var 0) xk_nil))) (by exact xa_cons (by exact xe_mkK (k := 1) (by exact T.su_BadReceipts) (by exact ss_BadReceipts) (by rfl) (by rfl) (by rfl) (by intros; rfl) (by exact B.room.mono (by decide)) (by exact T.n_super) (by rfl) (by exact T.g_BadReceipts) (by exact cw_kw (ks := ["at"]) (xk_cons (by exact xe_var 0) xk_nil))) xa_nil)))))) (by intro found_1; exact (by exact xs_retB (by exact xe_add (by exact xe_var 1) (by exact xe_lst (by exact xa_cons (by exact xe_mkK (k := 1) (by exact T.su_Shaky) (by exact ss_Shaky) (by rfl) (by rfl) (by rfl) (by intros; rfl) (by exact B.room.mono (by decide)) (by exact T.n_super) (by rfl) (by exact T.g_Shaky) (by exact cw_kw (ks := ["lot"]) (xk_cons (by exact xe_var 0) xk_nil))) (by exact xa_cons (by exact xe_mkK (k := 1) (by exact T.su_BadText) (by exact ss_BadText) (by rfl) (by rfl) (by rfl) (by intros; rfl) (by exact B.room.mono (by decide)) (by exact T.n_super) (by rfl) (by exact T.g_BadText) (by exact cw_kw (ks := ["line"]) (xk_cons (by exact xe_var 0) xk_nil))) xa_nil)))))))))
theorem sc_law_plain : FnScope ["_law_found"] [] (defScope s_law_plain) := ⟨rfl, rfl, rfl, by decide +kernel, rfl, by decide +kernel, by decide +kernel⟩
abbrev FP_law_plain (K : PySem.W.Frag) (fd : FuncData) : Prop := FunD K "_law_plain" "_law_plain" (defArgs s_law_plain) (defBody s_law_plain) (defScope s_law_plain) ([]) [] (He.ga K "_law_plain") fd
theorem ok_law_plain (T : TextF P w K mg) (TB : TabsB base mg K tfL) : ∃ fd, FP_law_plain K fd ∧ Own P w K mg base 1 (He.ga K "_law_plain") fd [] (l0 f_law_plain) := by
  obtain ⟨fd, F⟩ := T.says.d.def_ 7 (d := d_law_plain) rfl
  have F : FP_law_plain K fd := F
  refine ⟨fd, F, fnX_of (k := 0) (gf := (l0 f_law_plain)) F sc_law_plain (fun cdv A fr s H E B ds hl => ?_), F.kp⟩
  match ds, hl with | [], _ => exact (by exact xs_set 0 (by exact sc_law_plain.nd) (by rfl) (by first | exact .inl rfl | exact .inr rfl) (by exact xe_lst (by exact xa_cons (by exact xe_mkT (by exact T.tx_BadRule) (by rfl) (by exact T.g_BadRule)) (by exact xa_cons (by exact xe_mkT (by exact T.tx_BadBook) (by rfl) (by exact T.g_BadBook)) (by exact xa_cons (by exact xe_mkT (by exact T.tx_BadSale) (by rfl) (by exact T.g_BadSale)) (by exact xa_cons (by exact xe_mkT (by exact T.tx_BadLot) (by rfl) (by exact T.g_BadLot)) xa_nil))))) (by intro found; exact (by exact xs_retB (by exact xe_add (by exact xe_var 0) (by exact xe_lst (by exact xa_cons (by exact xe_mkT (by exact T.tx_NoEntry) (by rfl) (by exact T.g_NoEntry)) (by exact xa_cons (by exact xe_mkT (by exact T.tx_BadDay) (by rfl) (by exact T.g_BadDay)) (by exact xa_cons (by exact xe_mkT (by exact T.tx_NothingDone) (by rfl) (by exact T.g_NothingDone)) xa_nil))))))))
theorem sc_law_marks : FnScope ["_law_caught", "_law_found"] ["_law_caught"] (defScope s_law_marks) := ⟨rfl, rfl, rfl, by decide +kernel, rfl, by decide +kernel, by decide +kernel⟩
abbrev FP_law_marks (K : PySem.W.Frag) (fd : FuncData) : Prop := FunD K "_law_marks" "_law_marks" (defArgs s_law_marks) (defBody s_law_marks) (defScope s_law_marks) ([]) [] (He.ga K "_law_marks") fd
theorem ok_law_marks (T : TextF P w K mg) (TB : TabsB base mg K tfL) : ∃ fd, FP_law_marks K fd ∧ Own P w K mg base 1 (He.ga K "_law_marks") fd ["_law_caught"] (l1 f_law_marks) := by
  obtain ⟨fd, F⟩ := T.says.d.def_ 8 (d := d_law_marks) rfl
  have F : FP_law_marks K fd := F
  refine ⟨fd, F, fnX_of (k := 0) (gf := (l1 f_law_marks)) F sc_law_marks (fun cdv A fr s H E B ds hl => ?_), F.kp⟩
  match ds, hl with | [caught], _ => exact (by exact xs_set 1 (by exact sc_law_marks.nd) (by rfl) (by first | exact .inl rfl | exact .inr rfl) (by exact xe_lst (by exact xa_cons (by exact xe_isiE (by exact T.ex) (.o "BadBox") (by rfl) (by exact T.n_isinstance) (by exact xe_var 0) (by exact pe_own "BadBox" (by rfl) (by exact T.g_BadBox))) (by exact xa_cons (by exact xe_isiE (by exact T.ex) (.o "BadRow") (by rfl) (by exact T.n_isinstance) (by exact xe_var 0) (by exact pe_own "BadRow" (by rfl) (by exact T.g_BadRow))) (by exact xa_cons (by exact xe_isiE (by exact T.ex) (.o "BadRows") (by rfl) (by exact T.n_isinstance) (by exact xe_var 0) (by exact pe_own "BadRows" (by rfl) (by exact T.g_BadRows))) xa_nil)))) (by intro found; exact (by exact xs_set 1 (by exact sc_law_marks.nd) (by rfl) (by first | exact .inl rfl | exact .inr rfl) (by exact xe_add (by exact xe_var 1) (by exact xe_lst (by exact xa_cons (by exact xe_isiE (by exact T.ex) (.o "TooMany") (by rfl) (by exact T.n_isinstance) (by exact xe_var 0) (by exact pe_own "TooMany" (by rfl) (by exact T.g_TooMany))) (by exact xa_cons (by exact xe_isiE (by exact T.ex) (.o "NoRow") (by rfl) (by exact T.n_isinstance) (by exact xe_var 0) (by exact pe_own "NoRow" (by rfl) (by exact T.g_NoRow))) (by exact xa_cons (by exact xe_isiE (by exact T.ex) (.o "BadSales") (by rfl) (by exact T.n_isinstance) (by exact xe_var 0) (by exact pe_own "BadSales" (by rfl) (by exact T.g_BadSales))) xa_nil))))) (by intro found_1; exact (by exact xs_set 1 (by exact sc_law_marks.nd) (by rfl) (by first | exact .inl rfl | exact .inr rfl) (by exact xe_add (by exact xe_var 1) (by exact xe_lst (by exact xa_cons (by exact xe_isiE (by exact T.ex) (.o "NotWhole") (by rfl) (by exact T.n_isinstance) (by exact xe_var 0) (by exact pe_own "NotWhole" (by rfl) (by exact T.g_NotWhole))) (by exact xa_cons (by exact xe_isiE (by exact T.ex) (.o "BadLog") (by rfl) (by exact T.n_isinstance) (by exact xe_var 0) (by exact pe_own "BadLog" (by rfl) (by exact T.g_BadLog))) (by exact xa_cons (by exact xe_isiE (by exact T.ex) (.o "BadReceipts") (by rfl) (by exact T.n_isinstance) (by exact xe_var 0) (by exact pe_own "BadReceipts" (by rfl) (by exact T.g_BadReceipts))) xa_nil))))) (by intro found_2; exact (by exact XS.cast (g' := [some (.val caught), some (.val found_2)]) (by rfl) (by exact xs_set 1 (by exact sc_law_marks.nd) (by rfl) (by first | exact .inl rfl | exact .inr rfl) (by exact xe_add (by exact xe_var 1) (by exact xe_lst (by exact xa_cons (by exact xe_isiE (by exact T.ex) (.o "Shaky") (by rfl) (by exact T.n_isinstance) (by exact xe_var 0) (by exact pe_own "Shaky" (by rfl) (by exact T.g_Shaky))) (by exact xa_cons (by exact xe_isiE (by exact T.ex) (.o "BadText") (by rfl) (by exact T.n_isinstance) (by exact xe_var 0) (by exact pe_own "BadText" (by rfl) (by exact T.g_BadText))) (by exact xa_cons (by exact xe_isiE (by exact T.ex) (.o "BadRule") (by rfl) (by exact T.n_isinstance) (by exact xe_var 0) (by exact pe_own "BadRule" (by rfl) (by exact T.g_BadRule))) xa_nil))))) (by intro found_3; exact (by exact xs_set 1 (by exact sc_law_marks.nd) (by rfl) (by first | exact .inl rfl | exact .inr rfl) (by exact xe_add (by exact xe_var 1) (by exact xe_lst (by exact xa_cons (by exact xe_isiE (by exact T.ex) (.o "BadBook") (by rfl) (by exact T.n_isinstance) (by exact xe_var 0) (by exact pe_own "BadBook" (by rfl) (by exact T.g_BadBook))) (by exact xa_cons (by exact xe_isiE (by exact T.ex) (.o "BadSale") (by rfl) (by exact T.n_isinstance) (by exact xe_var 0) (by exact pe_own "BadSale" (by rfl) (by exact T.g_BadSale))) (by exact xa_cons (by exact xe_isiE (by exact T.ex) (.o "BadLot") (by rfl) (by exact T.n_isinstance) (by exact xe_var 0) (by exact pe_own "BadLot" (by rfl) (by exact T.g_BadLot))) xa_nil))))) (by intro found_4; exact (by exact xs_retB (by exact xe_add (by exact xe_var 1) (by exact xe_lst (by exact xa_cons (by exact xe_isiE (by exact T.ex) (.o "NoEntry") (by rfl) (by exact T.n_isinstance) (by exact xe_var 0) (by exact pe_own "NoEntry" (by rfl) (by exact T.g_NoEntry))) (by exact xa_cons (by exact xe_isiE (by exact T.ex) (.o "BadDay") (by rfl) (by exact T.n_isinstance) (by exact xe_var 0) (by exact pe_own "BadDay" (by rfl) (by exact T.g_BadDay))) (by exact xa_cons (by exact xe_isiE (by exact T.ex) (.o "NothingDone") (by rfl) (by exact T.n_isinstance) (by exact xe_var 0) (by exact pe_own "NothingDone" (by rfl) (by exact T.g_NothingDone))) xa_nil)))))))))))))))))
theorem sc_law_thrown : FnScope ["_law_spot", "_law_item"] ["_law_spot", "_law_item"] (defScope s_law_thrown) := ⟨rfl, rfl, rfl, by decide +kernel, rfl, by decide +kernel, by decide +kernel⟩
abbrev FP_law_thrown (K : PySem.W.Frag) (fd : FuncData) : Prop := FunD K "_law_thrown" "_law_thrown" (defArgs s_law_thrown) (defBody s_law_thrown) (defScope s_law_thrown) ([]) [] (He.ga K "_law_thrown") fd
theorem ok_law_thrown (T : TextF P w K mg) (TB : TabsB base mg K tfL) : ∃ fd, FP_law_thrown K fd ∧ Own P w K mg base 3 (He.ga K "_law_thrown") fd ["_law_spot", "_law_item"] (l2 f_law_thrown) := by
  obtain ⟨fd, F⟩ := T.says.d.def_ 9 (d := d_law_thrown) rfl
  have F : FP_law_thrown K fd := F
  refine ⟨fd, F, fnX_of (k := 2) (gf := (l2 f_law_thrown)) F sc_law_thrown (fun cdv A fr s H E B ds hl => ?_), F.kp⟩
  match ds, hl with | [spot, item], _ => exact (by exact xs_if1 (by exact xt_eq (by exact B.room.units) (by exact xe_var 0) (by exact xe_int)) (by exact xs_raiseS (k := 1) (by exact T.su_BadBox) (by exact ss_BadBox) (by rfl) (by rfl) (by rfl) (by intros; rfl) (by exact B.room.mono (by decide)) (by exact B.calm) (by exact B.tk) (by exact T.n_super) (by rfl) (by exact T.g_BadBox) (by exact xe_var 1)) (by exact xs_if1 (by exact xt_eq (by exact B.room.units) (by exact xe_var 0) (by exact xe_int)) (by exact xs_raiseS (k := 1) (by exact T.su_TooMany) (by exact ss_TooMany) (by rfl) (by rfl) (by rfl) (by intros; rfl) (by exact B.room.mono (by decide)) (by exact B.calm) (by exact B.tk) (by exact T.n_super) (by rfl) (by exact T.g_TooMany) (by exact xe_var 1)) (by exact xs_if1 (by exact xt_eq (by exact B.room.units) (by exact xe_var 0) (by exact xe_int)) (by exact xs_raiseS (k := 1) (by exact T.su_Shaky) (by exact ss_Shaky) (by rfl) (by rfl) (by rfl) (by intros; rfl) (by exact B.room.mono (by decide)) (by exact B.calm) (by exact B.tk) (by exact T.n_super) (by rfl) (by exact T.g_Shaky) (by exact xe_var 1)) (by exact xs_if1 (by exact xt_eq (by exact B.room.units) (by exact xe_var 0) (by exact xe_int)) (by exact xs_raiseS (k := 1) (by exact T.su_BadText) (by exact ss_BadText) (by rfl) (by rfl) (by rfl) (by intros; rfl) (by exact B.room.mono (by decide)) (by exact B.calm) (by exact B.tk) (by exact T.n_super) (by rfl) (by exact T.g_BadText) (by exact xe_var 1)) (by exact xs_if1 (by exact xt_eq (by exact B.room.units) (by exact xe_var 0) (by exact xe_int)) (by exact xs_raiseT (by exact T.tx_BadRule) (by exact B.calm) (by exact B.tk) (by rfl) (by exact T.g_BadRule)) (by exact xs_raiseT (by exact T.tx_NothingDone) (by exact B.calm) (by exact B.tk) (by rfl) (by exact T.g_NothingDone)))))))
theorem sc_law_caught_as : FnScope ["_law_spot", "_law_item", "_law_caught", "error"] ["_law_spot", "_law_item"] (defScope s_law_caught_as) := ⟨rfl, rfl, rfl, by decide +kernel, rfl, by decide +kernel, by decide +kernel⟩
abbrev FP_law_caught_as (K : PySem.W.Frag) (fd : FuncData) : Prop := FunD K "_law_caught_as" "_law_caught_as" (defArgs s_law_caught_as) (defBody s_law_caught_as) (defScope s_law_caught_as) ([]) [] (He.ga K "_law_caught_as") fd
theorem ok_law_caught_as (T : TextF P w K mg) (TB : TabsB base mg K tfL) : ∃ fd, FP_law_caught_as K fd ∧ Own P w K mg base 4 (He.ga K "_law_caught_as") fd ["_law_spot", "_law_item"] (l2 f_law_caught_as) := by
  obtain ⟨fd, F⟩ := T.says.d.def_ 10 (d := d_law_caught_as) rfl
  have F : FP_law_caught_as K fd := F
  obtain ⟨fd_law_thrown, F_law_thrown, O_law_thrown⟩ := ok_law_thrown (P := P) (w := w) (base := base) T TB
  have b_law_thrown : Binds K fd_law_thrown ["_law_spot", "_law_item"] [] := F_law_thrown.bindsN fun _ _ _ _ _ _ us hl => match us, hl with | [_, _], _ => rfl
  refine ⟨fd, F, fnX_of (k := 3) (gf := (l2 f_law_caught_as)) F sc_law_caught_as (fun cdv A fr s H E B ds hl => ?_), F.kp⟩
  match ds, hl with | [spot, item], _ => exact (by exact xs_set 2 (by exact sc_law_caught_as.nd) (by rfl) (by first | exact .inl rfl | exact .inr rfl) (by exact xe_non) (by intro caught; exact (by exact xs_then (e := fun yy : D => ([some (.val spot), some (.val item), some (.val yy), none] : DSt)) (by exact xs_tryY (cs := exL) 3 2 (by intro W1 pn xe tk; exact (by exact xe_call (x := "_law_thrown") (ps := ["_law_spot", "_law_item"]) (gf := (l2 f_law_thrown)) (dds := []) (by exact O_law_thrown.fn) (by exact B.room.mono (by decide)) (by exact B.gd) (by exact tk) (by rfl) (by exact T.g_law_thrown) (by exact O_law_thrown.kp) (by exact b_law_thrown) (by exact .nil) (by exact fun _ _ => DenL.nil) (by exact xa_cons (by exact xe_var 0) (by exact xa_cons (by exact xe_var 1) xa_nil)))) (by exact T.xm_PriceError) (by exact ⟨rfl, by decide, .inl T.g_PriceError⟩) (by rfl) (by rfl) (by rfl) (by exact sc_law_caught_as.nd) (by rfl) (by rfl) (by exact .inl rfl) (by rfl) (by rfl) (by rfl) (by rfl)) (by intro got; exact (by exact xs_retB (by exact xe_var 2))))))
theorem sc_law : FnScope ["_law_script", "_law_state", "_law_turn", "_law_item", "_law_errors", "_law_spot", "_law_caught", "_law_place", "_law_one"] ["_law_script"] (defScope s_law) := ⟨rfl, rfl, rfl, by decide +kernel, rfl, by decide +kernel, by decide +kernel⟩
abbrev FP_law (K : PySem.W.Frag) (fd : FuncData) : Prop := FunD K "law" "law" (defArgs s_law) (defBody s_law) (defScope s_law) ([]) [] (He.ga K "law") fd
theorem ok_law (T : TextF P w K mg) (TB : TabsB base mg K tfL) : ∃ fd, FP_law K fd ∧ Own P w K mg base 5 (He.ga K "law") fd ["_law_script"] (l1 f_law) := by
  obtain ⟨fd, F⟩ := T.says.d.def_ 11 (d := d_law) rfl
  have F : FP_law K fd := F
  obtain ⟨fd_law_begun, F_law_begun, O_law_begun⟩ := ok_law_begun (P := P) (w := w) (base := base) T TB
  have b_law_begun : Binds K fd_law_begun ["_law_script"] [] := F_law_begun.bindsN fun _ _ _ _ _ _ us hl => match us, hl with | [_], _ => rfl
  obtain ⟨fd_law_odd, F_law_odd, O_law_odd⟩ := ok_law_odd (P := P) (w := w) (base := base) T TB
  have b_law_odd : Binds K fd_law_odd ["_law_state"] [] := F_law_odd.bindsN fun _ _ _ _ _ _ us hl => match us, hl with | [_], _ => rfl
  obtain ⟨fd_law_by_place, F_law_by_place, O_law_by_place⟩ := ok_law_by_place (P := P) (w := w) (base := base) T TB
  have b_law_by_place : Binds K fd_law_by_place ["_law_item"] [] := F_law_by_place.bindsN fun _ _ _ _ _ _ us hl => match us, hl with | [_], _ => rfl
  obtain ⟨fd_law_kept, F_law_kept, O_law_kept⟩ := ok_law_kept (P := P) (w := w) (base := base) T TB
  have b_law_kept : Binds K fd_law_kept ["_law_errors"] [] := F_law_kept.bindsN fun _ _ _ _ _ _ us hl => match us, hl with | [_], _ => rfl
  obtain ⟨fd_law_by_name, F_law_by_name, O_law_by_name⟩ := ok_law_by_name (P := P) (w := w) (base := base) T TB
  have b_law_by_name : Binds K fd_law_by_name ["_law_item"] [] := F_law_by_name.bindsN fun _ _ _ _ _ _ us hl => match us, hl with | [_], _ => rfl
  obtain ⟨fd_law_plain, F_law_plain, O_law_plain⟩ := ok_law_plain (P := P) (w := w) (base := base) T TB
  have b_law_plain : Binds K fd_law_plain [] [] := F_law_plain.bindsN fun _ _ _ _ _ _ us hl => match us, hl with | [], _ => rfl
  obtain ⟨fd_law_marks, F_law_marks, O_law_marks⟩ := ok_law_marks (P := P) (w := w) (base := base) T TB
  have b_law_marks : Binds K fd_law_marks ["_law_caught"] [] := F_law_marks.bindsN fun _ _ _ _ _ _ us hl => match us, hl with | [_], _ => rfl
  obtain ⟨fd_law_caught_as, F_law_caught_as, O_law_caught_as⟩ := ok_law_caught_as (P := P) (w := w) (base := base) T TB
  have b_law_caught_as : Binds K fd_law_caught_as ["_law_spot", "_law_item"] [] := F_law_caught_as.bindsN fun _ _ _ _ _ _ us hl => match us, hl with | [_, _], _ => rfl
  refine ⟨fd, F, fnX_of (k := 4) (gf := (l1 f_law)) F sc_law (fun cdv A fr s H E B ds hl => ?_), F.kp⟩
  match ds, hl with | [script], _ => exact (by exact xs_set 1 (by exact sc_law.nd) (by rfl) (by first | exact .inl rfl | exact .inr rfl) (by exact xe_call (x := "_law_begun") (ps := ["_law_script"]) (gf := begunD) (dds := []) (by exact O_law_begun.fn) (by exact B.room.mono (by decide)) (by exact B.gd) (by exact B.tk) (by rfl) (by exact T.g_law_begun) (by exact O_law_begun.kp) (by exact b_law_begun) (by exact .nil) (by exact fun _ _ => DenL.nil) (by exact xa_cons (by exact xe_var 0) xa_nil)) (by intro state; exact (by exact xs_thenS (e := (fun yy : Unit => ([some (.val script), some (.val state), none, none, none, none, none, none, none] : DSt))) (by exact xs_forS (T := (.nm 2)) (f := (f_law_b3 state)) (fun yy : Unit => ([some (.val script), some (.val state), none, none, none, none, none, none, none] : DSt)) () (by exact B.po) (by exact B.calm) (by exact xi_range1 (by rfl) (by exact T.n_range) (by exact xe_add (by exact xe_int) (by exact xe_min (by exact B.calm) (by rfl) (by exact T.n_min) (by exact xa_cons (by exact xe_len (by rfl) (by exact T.n_len) (by exact xa_cons (by exact xe_var 0) xa_nil)) (by exact xa_cons (by exact xe_int) xa_nil))))) (by exact pg_name (by exact sc_law.nd) (by rfl) (by first | exact .inl rfl | exact .inr rfl)) (by exact ⟨.inr rfl, .inr rfl, .inl rfl, .inl rfl, .inl rfl, .inl rfl, .inl rfl, .inl rfl, .inl rfl, trivial⟩) (by intro y; exact none1 (by rfl)) (by intro y; exact tgt1 (by intro turn; exact (by exact xs_set 3 (by exact sc_law.nd) (by rfl) (by first | exact .inl rfl | exact .inr rfl) (by exact xe_call (x := "_law_odd") (ps := ["_law_state"]) (gf := (l1 f_law_odd)) (dds := []) (by exact O_law_odd.fn) (by exact B.room.mono (by decide)) (by exact B.gd) (by exact B.tk) (by rfl) (by exact T.g_law_odd) (by exact O_law_odd.kp) (by exact b_law_odd) (by exact .nil) (by exact fun _ _ => DenL.nil) (by exact xa_cons (by exact xe_var 1) xa_nil)) (by intro item; exact (by exact xs_set 4 (by exact sc_law.nd) (by rfl) (by first | exact .inl rfl | exact .inr rfl) (by exact xe_call (x := "_law_by_place") (ps := ["_law_item"]) (gf := (l1 f_law_by_place)) (dds := []) (by exact O_law_by_place.fn) (by exact B.room.mono (by decide)) (by exact B.gd) (by exact B.tk) (by rfl) (by exact T.g_law_by_place) (by exact O_law_by_place.kp) (by exact b_law_by_place) (by exact .nil) (by exact fun _ _ => DenL.nil) (by exact xa_cons (by exact xe_var 3) xa_nil)) (by intro errors; exact (by exact xs_if1 (by exact XW.xt (by exact xw_or (by exact xt_ne (by exact B.room.units) (by exact xe_callA (V := E) (id := "repr") (by exact call_reprR (by exact B.gd) (by exact units66 B.room) (by exact TB.sm)) (by rfl) (by exact T.n_repr) (by decide +kernel) (by exact xa_cons (by exact xe_call (x := "_law_kept") (ps := ["_law_errors"]) (gf := (l1 f_law_kept)) (dds := []) (by exact O_law_kept.fn) (by exact B.room.mono (by decide)) (by exact B.gd) (by exact B.tk) (by rfl) (by exact T.g_law_kept) (by exact O_law_kept.kp) (by exact b_law_kept) (by exact .nil) (by exact fun _ _ => DenL.nil) (by exact xa_cons (by exact xe_var 4) xa_nil)) xa_nil)) (by exact xe_callA (V := E) (id := "repr") (by exact call_reprR (by exact B.gd) (by exact units66 B.room) (by exact TB.sm)) (by rfl) (by exact T.n_repr) (by decide +kernel) (by exact xa_cons (by exact xe_mul (by exact xe_lst (by exact xa_cons (by exact xe_var 3) xa_nil)) (by exact xe_int)) xa_nil))) (by exact xw_or1 (by exact xt_ne (by exact B.room.units) (by exact xe_callA (V := E) (id := "repr") (by exact call_reprR (by exact B.gd) (by exact units66 B.room) (by exact TB.sm)) (by rfl) (by exact T.n_repr) (by decide +kernel) (by exact xa_cons (by exact xe_call (x := "_law_kept") (ps := ["_law_errors"]) (gf := (l1 f_law_kept)) (dds := []) (by exact O_law_kept.fn) (by exact B.room.mono (by decide)) (by exact B.gd) (by exact B.tk) (by rfl) (by exact T.g_law_kept) (by exact O_law_kept.kp) (by exact b_law_kept) (by exact .nil) (by exact fun _ _ => DenL.nil) (by exact xa_cons (by exact xe_call (x := "_law_by_name") (ps := ["_law_item"]) (gf := (l1 f_law_by_name)) (dds := []) (by exact O_law_by_name.fn) (by exact B.room.mono (by decide)) (by exact B.gd) (by exact B.tk) (by rfl) (by exact T.g_law_by_name) (by exact O_law_by_name.kp) (by exact b_law_by_name) (by exact .nil) (by exact fun _ _ => DenL.nil) (by exact xa_cons (by exact xe_var 3) xa_nil)) xa_nil)) xa_nil)) (by exact xe_callA (V := E) (id := "repr") (by exact call_reprR (by exact B.gd) (by exact units66 B.room) (by exact TB.sm)) (by rfl) (by exact T.n_repr) (by decide +kernel) (by exact xa_cons (by exact xe_mul (by exact xe_lst (by exact xa_cons (by exact xe_var 3) xa_nil)) (by exact xe_int)) xa_nil)))))) (by exact xs_ret (r := Sum.inl) (by exact xe_bl) (by exact fun d => ⟨rfl, .inl ⟨d, rfl⟩⟩)) (by exact xs_set 4 (by exact sc_law.nd) (by rfl) (by first | exact .inl rfl | exact .inr rfl) (by exact xe_add (by exact xe_var 4) (by exact xe_call0 (x := "_law_plain") (ps := []) (gf := (l0 f_law_plain)) (dds := []) (by exact O_law_plain.fn) (by exact B.room.mono (by decide)) (by exact B.gd) (by exact B.tk) (by rfl) (by exact T.g_law_plain) (by exact O_law_plain.kp) (by exact b_law_plain) (by exact .nil) (by exact fun _ _ => DenL.nil))) (by intro errors_1; exact (by exact XS.cast (g' := [some (.val script), some (.val state), some (.val turn), some (.val item), some (.val errors_1), none, none, none, none]) (by rfl) (by exact xs_thenS (e := (fun yy : Unit => ([some (.val script), some (.val state), none, some (.val item), none, none, none, none, none] : DSt))) (by exact xs_forS (T := (.tp [5, 6])) (f := f_law_b1) (fun yy : Unit => ([some (.val script), some (.val state), none, some (.val item), none, none, none, none, none] : DSt)) () (by exact B.po) (by exact B.calm) (by exact xi_enum (by rfl) (by exact T.n_enumerate) (by exact xe_var 4)) (by exact pg_tup (by exact B.calm) (by exact pgs_cons (by exact pg_name (by exact sc_law.nd) (by rfl) (by first | exact .inl rfl | exact .inr rfl)) (by exact pgs_cons (by exact pg_name (by exact sc_law.nd) (by rfl) (by first | exact .inl rfl | exact .inr rfl)) pgs_nil))) (by exact ⟨.inr rfl, .inr rfl, .inl rfl, .inr rfl, .inl rfl, .inl rfl, .inl rfl, .inl rfl, .inl rfl, trivial⟩) (by intro y_1; exact none2 (by rfl)) (by intro y_1; exact tgt2 (by intro spot caught; exact (by exact xs_if1 (by exact xt_ne (by exact B.room.units) (by exact xe_call (x := "_law_marks") (ps := ["_law_caught"]) (gf := (l1 f_law_marks)) (dds := []) (by exact O_law_marks.fn) (by exact B.room.mono (by decide)) (by exact B.gd) (by exact B.tk) (by rfl) (by exact T.g_law_marks) (by exact O_law_marks.kp) (by exact b_law_marks) (by exact .nil) (by exact fun _ _ => DenL.nil) (by exact xa_cons (by exact xe_var 6) xa_nil)) (by exact XF.xe (by exact xf_lc (T := (.nm 7)) (by exact B.calm) (by exact sc_law.nd) (by exact xi_range1 (by rfl) (by exact T.n_range) (by exact xe_int)) (blkOk_by (own := [("_law_place", 7)]) (by first | decide +kernel | kernel_rfl)) (by intro _ _ _ _ _; exact (by exact pg_name (by exact sc_law.nd) (by rfl) (by first | exact .inl rfl | exact .inr rfl))) (by exact none1 (by rfl)) (by intro _ _ _ _ _; exact tgt1 (by intro place; exact xts_yes)) (by intro _ _ _ _ _; exact tgt1 (by intro place; exact (by exact xe_eq (by exact B.room.units) (by exact xe_var 7) (by exact xe_var 5)))) (by decide)))) (by exact xs_ret (r := Sum.inl) (by exact xe_bl) (by exact fun d => ⟨rfl, .inl ⟨d, rfl⟩⟩)) (by exact xs_last (by exact xs_if (by exact XW.xt (by exact xw_or (by exact xt_not (by exact xt_val (by exact xe_isiE (by exact T.ex) (.o "PriceError") (by rfl) (by exact T.n_isinstance) (by exact xe_var 6) (by exact pe_own "PriceError" (by rfl) (by exact T.g_PriceError))))) (by exact xw_or1 (by exact xt_not (by exact xt_val (by exact xe_isiE (by exact T.ex) (.b "ValueError") (by rfl) (by exact T.n_isinstance) (by exact xe_var 6) (by exact pe_ty "ValueError" (by rfl) (by exact T.n_ValueError) (by decide +kernel)))))))) (by exact xs_ret (r := Sum.inl) (by exact xe_bl) (by exact fun _ => rfl)) (by exact xs_nil (a := Sum.inr ()) (by exact ⟨_, rfl, ⟨.inr rfl, .inr rfl, .inl rfl, .inr rfl, .inl rfl, .inl rfl, .inl rfl, .inl rfl, .inl rfl, trivial⟩⟩)))))))) (by exact fun _ => rfl) (by intro y_2; exact (by exact xs_thenS (e := (fun yy : Unit => ([some (.val script), some (.val state), none, some (.val item), none, none, none, none, none] : DSt))) (by exact xs_forS (T := (.tp [5, 7])) (f := (f_law_b2 item)) (fun yy : Unit => ([some (.val script), some (.val state), none, some (.val item), none, none, none, none, none] : DSt)) () (by exact B.po) (by exact B.calm) (by exact xi_enum (by rfl) (by exact T.n_enumerate) (by exact xe_lst (by exact xa_cons (by exact xe_int) (by exact xa_cons (by exact xe_int) (by exact xa_cons (by exact xe_int) (by exact xa_cons (by exact xe_int) (by exact xa_cons (by exact xe_int) (by exact xa_cons (by exact xe_int) xa_nil)))))))) (by exact pg_tup (by exact B.calm) (by exact pgs_cons (by exact pg_name (by exact sc_law.nd) (by rfl) (by first | exact .inl rfl | exact .inr rfl)) (by exact pgs_cons (by exact pg_name (by exact sc_law.nd) (by rfl) (by first | exact .inl rfl | exact .inr rfl)) pgs_nil))) (by exact ⟨.inr rfl, .inr rfl, .inl rfl, .inr rfl, .inl rfl, .inl rfl, .inl rfl, .inl rfl, .inl rfl, trivial⟩) (by intro y_3; exact none2 (by rfl)) (by intro y_3; exact tgt2 (by intro spot_1 place_1; exact (by exact xs_last (by exact xs_if (by exact xt_ne (by exact B.room.units) (by exact xe_call (x := "_law_marks") (ps := ["_law_caught"]) (gf := (l1 f_law_marks)) (dds := []) (by exact O_law_marks.fn) (by exact B.room.mono (by decide)) (by exact B.gd) (by exact B.tk) (by rfl) (by exact T.g_law_marks) (by exact O_law_marks.kp) (by exact b_law_marks) (by exact .nil) (by exact fun _ _ => DenL.nil) (by exact xa_cons (by exact xe_call (x := "_law_caught_as") (ps := ["_law_spot", "_law_item"]) (gf := (l2 f_law_caught_as)) (dds := []) (by exact O_law_caught_as.fn) (by exact B.room.mono (by decide)) (by exact B.gd) (by exact B.tk) (by rfl) (by exact T.g_law_caught_as) (by exact O_law_caught_as.kp) (by exact b_law_caught_as) (by exact .nil) (by exact fun _ _ => DenL.nil) (by exact xa_cons (by exact xe_var 5) (by exact xa_cons (by exact xe_var 3) xa_nil))) xa_nil)) (by exact XF.xe (by exact xf_lc (T := (.nm 8)) (by exact B.calm) (by exact sc_law.nd) (by exact xi_range1 (by rfl) (by exact T.n_range) (by exact xe_int)) (blkOk_by (own := [("_law_one", 8)]) (by first | decide +kernel | kernel_rfl)) (by intro _ _ _ _ _; exact (by exact pg_name (by exact sc_law.nd) (by rfl) (by first | exact .inl rfl | exact .inr rfl))) (by exact none1 (by rfl)) (by intro _ _ _ _ _; exact tgt1 (by intro one; exact xts_yes)) (by intro _ _ _ _ _; exact tgt1 (by intro one; exact (by exact xe_eq (by exact B.room.units) (by exact xe_var 8) (by exact xe_var 7)))) (by decide)))) (by exact xs_ret (r := Sum.inl) (by exact xe_bl) (by exact fun _ => rfl)) (by exact xs_nil (a := Sum.inr ()) (by exact ⟨_, rfl, ⟨.inr rfl, .inr rfl, .inl rfl, .inr rfl, .inl rfl, .inl rfl, .inl rfl, .inl rfl, .inl rfl, trivial⟩⟩))))))) (by exact fun _ => rfl) (by intro y_4; exact (by exact xs_nil (a := Sum.inr ()) (by exact ⟨_, rfl, ⟨.inr rfl, .inr rfl, .inl rfl, .inl rfl, .inl rfl, .inl rfl, .inl rfl, .inl rfl, .inl rfl, trivial⟩⟩))))))))))))))))) (by exact fun _ => .inl rfl) (by intro y_5; exact (by exact xs_retB (by exact xe_bl))))))
instance : Pre := ⟨[], 0, rfl⟩
def lawIx : Nat := 11
def lawLevel : Nat := 5
end LW

namespace LW
open PySem PySem.Spec PyProof.Rows L2 RM
variable [PgW]
theorem reprR_of {d : D} {x : PyData} (h : toPyR d = some x) (k : x.showable = true ∧ x.depth ≤ 64 ∧ x.shown.length ≤ sizeLine) : reprR [d] = pure (.str x.shown) := by
  show (match toPyR d with
    | some x => if x.showable = true ∧ x.depth ≤ 64 ∧ x.shown.length ≤ sizeLine then pure (D.str x.shown) else stuck
    | none => stuck) = _
  rw [h]
  exact if_pos k
theorem eq_str (s : Str) : neD (.str s) (.str s) = pure (.bl false) := by show pure (D.bl (!(s == s))) = _; simp
def Sm (d : D) : Prop := ∃ s, reprR [.lst (List.replicate 11 d)] = pure (.str s)
section
theorem pick_lst {xs : List D} (h0 : 0 < xs.length) (h1 : xs.length < 1000000) : HT 1 (f_law_pick (.mref Pre.ix) (.lst xs)) fun d => d ∈ xs := by
  unfold f_law_pick
  simp
  refine HT.draw (k := 0) (by omega) fun i i0 i1 => ?_
  obtain ⟨d, hm, _, e, _⟩ := idx_at i0 i1
  rw [e]
  exact HT.p0 hm
theorem odd_ok : HT 1 (f_law_odd (.mref Pre.ix)) Sm := by
  unfold f_law_odd
  simp [dicD]
  refine HT.imp (pick_lst (by simp) (by simp)) fun d hd => ?_
  simp only [List.mem_cons, List.not_mem_nil, or_false] at hd
  rcases hd with rfl | rfl | rfl | rfl | rfl | rfl | rfl | rfl | rfl | rfl | rfl | rfl | rfl | rfl | rfl | rfl | rfl | rfl | rfl | rfl | rfl | rfl | rfl | rfl | rfl | rfl | rfl | rfl | rfl <;> exact ⟨_, reprR_of rfl ⟨by decide +kernel, by decide +kernel, by decide +kernel⟩⟩
end
def errsL (d : D) : List D := [.xcp "BadBox" ["part"] [d], .xcp "BadRow" ["part"] [d], .xcp "BadRows" ["at"] [d], .xcp "TooMany" ["most"] [d], .xcp "NoRow" ["at"] [d], .xcp "BadSales" ["at"] [d], .xcp "NotWhole" ["sale"] [d], .xcp "BadLog" ["at"] [d], .xcp "BadReceipts" ["at"] [d], .xcp "Shaky" ["lot"] [d], .xcp "BadText" ["line"] [d]]
def plainL : List D := [.xcp "BadRule" [] [], .xcp "BadBook" [] [], .xcp "BadSale" [] [], .xcp "BadLot" [] [], .xcp "NoEntry" [] [], .xcp "BadDay" [] [], .xcp "NothingDone" [] []]
theorem place_eq (d : D) : f_law_by_place d = pure (.lst (errsL d)) := rfl
theorem name_eq (d : D) : f_law_by_name d = pure (.lst (errsL d)) := rfl
theorem plain_eq : f_law_plain = pure (.lst plainL) := rfl
theorem kept_eq (d : D) : f_law_kept (.lst (errsL d)) = pure (.lst (List.replicate 11 d)) := by kernel_rfl
theorem b1_all (d : D) : (B (B (pure (.lst (errsL d ++ plainL))) enumD) fun t22 => loopS f_law_b1 t22 ()) = pure (.inr ()) := by kernel_rfl
theorem b2_all (d : D) : (B (B (argsB [(pure (.int 0)), (pure (.int 3)), (pure (.int 9)), (pure (.int 10)), (pure (.int 11)), (pure (.int 17))] lstD) enumD) fun t31 => loopS (f_law_b2 d) t31 ()) = pure (.inr ()) := by kernel_rfl
section
theorem B_use {α β γ : Type} {m : M α} {f : α → M β} {g : β → M γ} {x : β} (h : B m f = pure x) : (B m fun a => B (f a) g) = g x := by
  rw [← B_Bs m f g {} {}, h, B_pure]
theorem b3_ok {d : D} : HT 1 (f_law_b3 (.mref Pre.ix) d ()) fun r => r = .inr () := by
  unfold f_law_b3
  simp only [callB, argsB_cons, argsB_nil, B_pure, List.append_nil, List.cons_append, List.nil_append]
  refine HT.C (k := 0) (odd_ok) ?_
  rintro item ⟨s, hs⟩
  have p1 : l1 f_law_by_place [item] = pure (.lst (errsL item)) := place_eq item
  have p2 : l1 f_law_by_name [item] = pure (.lst (errsL item)) := name_eq item
  have p3 : l1 f_law_kept [.lst (errsL item)] = pure (.lst (List.replicate 11 item)) := kept_eq item
  have p4 : l0 f_law_plain [] = pure (.lst plainL) := plain_eq
  have p5 : (lstD [item] : M D) = pure (.lst [item]) := rfl
  have p6 : mulD (.lst [item]) (.int 11) = pure (.lst (List.replicate 11 item)) := rfl
  have b1 := b1_all item
  have b2 := b2_all item
  simp at b1 b2
  have hs : reprR [.lst [item, item, item, item, item, item, item, item, item, item, item]] = pure (.str s) := hs
  have q6 : mulD (.lst [item]) (.int 11) = pure (.lst [item, item, item, item, item, item, item, item, item, item, item]) := p6
  have hl : (errsL item).length + plainL.length ≤ 16777216 := by show 11 + 7 ≤ 16777216; omega
  simp [p1, p2, p3, p4]
  simp [q6, hs, eq_str, hl]
  rw [B_use b1]
  simp
  rw [B_use b2]
  simp
  exact HT.e0
theorem law_ok (ns : List Int) (h : ns.length ≤ 63) : ∃ S', l1 f_law [.scr ns] (tabS tfL) = .ok (.bl true) S' := by
  rw [l1_at]
  unfold f_law
  simp only [callB, argsB_cons, argsB_nil, B_pure, List.append_nil, List.cons_append, List.nil_append]
  refine law_run h (n := 100000) (by omega) ?_
  simp
  obtain ⟨w, ew, w0, w1⟩ : ∃ w : Int, (if (20 : Int) < ns.length then 20 else (ns.length : Int)) = w ∧ 0 ≤ w ∧ w ≤ 20 := by
    refine ⟨_, rfl, ?_, ?_⟩ <;> split <;> omega
  rw [ew, rangeD_one (show 0 ≤ 3 + w by omega) (by omega)]
  simp
  refine HT.le (HT.C (k := 0) (ht_loopU (n := 1) fun d _ => b3_ok) ?_) (by rw [rangeL_length]; omega)
  rintro _ rfl
  simp
  exact HT.e0
end
end LW

open PySem PySem.W PySem.Calls PyProof.Rows
def LW.w0 : PySem.World := { draws := fun _ _ => 0, params := { strHash := fun _ => 0, shareClass := fun _ => 0, mergeTok := fun t => t, idOf := fun _ => 0, idOfShared := fun _ _ => 0, followText := fun _ => false, idOfImm := fun _ => 0 } }
theorem PySem.Challenge.cw_rowsmeet_k11_errors_made_holds : PySem.Challenge.rw_rowsmeet_k11_errors_made.Holds := by
  w_on; o_law
  letI : RM.PgW := ⟨LW.R.prog, LW.w0⟩
  refine HandSHeadRun.head_any (r := LW.R) (q := view LW.R.prog [32]) (H := LW.hk) (ob := LW.ob) (M := 12000) (loose := LW.loose) (d := HandSHeadRun.topDef LW.R.prog 32) (kwd := []) LW.ob_eq (by kernel_rfl) (fun s => by kernel_rfl) LW.run
    (by kernel_rfl) (by kernel_rfl) (by kernel_rfl) (by rfl) (by first | assumption | decide +kernel) (by decide +kernel) ⟨rfl, rfl, rfl, rfl, rfl, by decide +kernel⟩ ?hw ?hc
  case hw => w_witness2
  case hc =>
    refine RM.walk_GT (l := PySem.Challenge.rw_rowsmeet_k11_errors_made) (n := 63) (k := 5) (x := "_law_script") (g := RM.l1 LW.f_law) (tf := LW.tfL) rfl (by decide) (by kernel_rfl) ⟨rfl, by decide, by decide⟩ ?_ (fun w ns h _ => by letI : RM.PgW := ⟨(PySem.Challenge.rw_rowsmeet_k11_errors_made).prog, w⟩; exact LW.law_ok ns h)
    intro w mg fa h Y G hmg0
    letI : RM.PgW := ⟨(PySem.Challenge.rw_rowsmeet_k11_errors_made).prog, w⟩
    obtain ⟨K, KX, c⟩ := Y
    have nm : (HandSHeadRun.topDef LW.R.prog 32).name = ("law" : PySem.Str) := by kernel_rfl
    have hmg : mg ("law" : PySem.Str) = some (.ref fa) := by rw [← nm]; exact hmg0
    have T : LW.TextF (PySem.Challenge.rw_rowsmeet_k11_errors_made).prog w K mg := LW.txt KX G c rfl (by kernel_rfl)
    have ef : fa = He.ga K "law" := by
      have e := hmg.symm.trans T.g_law
      cases e
      rfl
    subst ef
    have F0 : ∃ fd, LW.FP_law K fd := T.says.d.def_ LW.lawIx rfl
    obtain ⟨fd, F⟩ := F0
    have b := L2.FunD.bindsA (ps := ["_law_script"]) F fun _ _ _ _ _ _ us hl => match us, hl with | [_], _ => rfl
    refine ⟨K, fd, KX, c.sm, c.empty, c.out, fun t ht => PySem.W.codeHd_of_K KX (c.hd t ht), c.nd, fun s u => b s [u] rfl, fun base _ _ TB => ?_⟩
    obtain ⟨fd2, F2, O2⟩ := LW.ok_law (P := (PySem.Challenge.rw_rowsmeet_k11_errors_made).prog) (w := w) (base := base) T TB
    have e2 : fd2 = fd := RM.funSame F F2
    rw [← e2]
    exact O2.fn
