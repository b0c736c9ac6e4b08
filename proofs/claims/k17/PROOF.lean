import PyProof.Rows.All
import Wide.All
import OpenK.AllK
import Wide.FinOn
import HandS.ForMost
import HandS.Exc
import HandS.Defaults
import HandS.HeadHook1
import HandS.HeadHook2
import HandS.Lambda
import HandS.HeadHook4
import KE.KDictSum
import HandS.IsInst
import HandS.Wide
import HandS.TupAny
import HandS.WordsExc
import HandS.Style
import KE.KStateDown
import HandS.Ends
import HandS.EndBits
import HandS.HeadEnd
import HandS.Head0
import HandS.Head1
import HandS.Head2
import HandS.Property
import KE.KExcSuper
import HandS.ExcInit
import HandS.ExcOwn
import KE.GoesMore
import HandS.HeadHook3
import HandS.SetKeys
import HandS.Strs
import HandS.Zip
import HandS.SetFor
import HandS.SortInts
import KE.SortData
import HandS.SetBool
import HandS.ExcValue
import KE.KExcIs
import HandS.ExcField
import HandS.ExcIs
import HandS.EndTab
import HandS.NoneIn
import HandS.OwnEq
import HandS.MapJoin
import HandS.FStr
import HandS.RaiseMore
import HandS.Deep
import HandS.More
import HandS.Conv
import HandS.Star
import KE.GoesEnum
import KE.KSortTupAny
import HandS.TupSets
import PySem.Challenge.RW_rowsmeet_k17_whole_rules_turned_about
set_option Elab.async false
set_option linter.all false
set_option autoImplicit false
set_option maxRecDepth 100000
set_option maxHeartbeats 4000000
namespace RM
open PySem PySem.Spec PyProof.Rows L2

inductive D where
  | non | bl (b : Bool) | int (i : Int) | str (x : Str)
  | tup (xs : List D) | lst (xs : List D)
  | ins (c : Str) (ns : List Str) (fs : List D)
  | mref (i : Nat)
  | dic (ks : List Key) (vs : List D)
  | scr (ns : List Int)
  | xcp (c : Str) (ns : List Str) (fs : List D)
  | dct (ks : List (List Key)) (vs : List D)

structure Tape where
  large : List Int
  cells : List Int
  rest : Int
  turn : Int

inductive MO where
  | tape (t : Tape)
  | inst (c : Str) (ns : List Str) (fs : List D)
  | tab (n q : Str)
  | lst (xs : List D)
  | kd (kv : List (List Key × D))
abbrev Sto := List MO
structure Exc where
  cls : Str
  ns : List Str
  fs : List D
inductive Res (a : Type) where
  | ok (x : a) (s : Sto)
  | exc (e : Exc) (s : Sto)
  | stuck
def M (a : Type) := Sto → Res a
@[reducible] def M.pure {a : Type} (x : a) : M a := fun s => .ok x s
def Res.andThen {a b : Type} (r : Res a) (f : a → M b) : Res b := match r with
  | .ok x s => f x s
  | .exc e s => .exc e s
  | .stuck => .stuck
def M.bind {a b : Type} (m : M a) (f : a → M b) : M b := fun s => (m s).andThen f
instance : Monad M where
  pure := M.pure
  bind := M.bind
def stuck {a : Type} : M a := fun _ => .stuck
def raise {a : Type} (e : Exc) : M a := fun s => .exc e s
@[simp] theorem andThen_ok {a b : Type} (x : a) (s : Sto) (f : a → M b) : (Res.ok x s).andThen f = f x s := rfl
@[simp] theorem andThen_exc {a b : Type} (e : Exc) (s : Sto) (f : a → M b) : (Res.exc e s : Res a).andThen f = .exc e s := rfl
@[simp] theorem andThen_stuck {a b : Type} (f : a → M b) : (Res.stuck : Res a).andThen f = .stuck := rfl
instance : LawfulMonad M := LawfulMonad.mk'
  (id_map := fun x => by funext s; show (x s).andThen _ = x s; cases x s <;> rfl)
  (pure_bind := fun _ _ => rfl)
  (bind_assoc := fun x f g => by funext s; show ((x s).andThen f).andThen g = (x s).andThen _; cases x s <;> rfl)

class PgW where
  prog : Program
  w : World
abbrev XD := List (List Key × Addr × Value)
def dtxAt (P : Program) (w : World) (a : Addr) (xs : XD) (h : Heap) : Prop := (a == sysModules) = false ∧ xs.length ≤ sizeLine ∧ ∃ o es ep, h.get? a = some o ∧ o.ExactDict ∧ o.data = .dict es ep ∧ es.toList = xs.map (entryOfKey (tupleKind (mixKind P w))) ∧ (xs.map (·.1)).Nodup
def DTx (P : Program) (w : World) (a : Addr) (xs : XD) : HO := .ext (dtxAt P w a xs)
def DOx (a : Addr) : HO := .ext fun h => ∃ o, h.get? a = some o ∧ o.ExactDict
def KeysX (K : PySem.W.Frag) (H : Hp) (xs : XD) : Prop := ∀ x ∈ xs, SqT K H x.2.1 (x.1.map kV)
def XcO (cls : Value) (d : Option Addr) (a : Addr) : HO := .ext fun h => ∃ (oe : Obj) (vs : Array Value), h.get? a = some oe ∧ Zc cls d oe ∧ oe.data = .fields vs
variable [PgW]
mutual
def Den (K : PySem.W.Frag) (p : List (List Addr)) (G : Hp) : D → V → Prop
  | .non, v => v = .non
  | .bl b, v => v = .bl b
  | .int i, v => v = .int i
  | .str x, v => v = .str x
  | .tup xs, v => ∃ a vs, v = .ref a ∧ SqT K G a vs ∧ DenL K p G xs vs
  | .lst xs, v => ∃ a vs, v = .ref a ∧ G a = some (.lst vs) ∧ DenL K p G xs vs
  | .ins c ns fs, v => ∃ a dx vs, v = .ref a ∧ G a = some (.ins (He.ga K c) dx (ns.zip vs)) ∧ vs.length = ns.length ∧ DenL K p G fs vs
  | .mref i, v => ∃ a r, p[i]? = some (a :: r) ∧ v = .ref a
  | .dic ks xs, v => ∃ a o vs, v = .ref a ∧ G a = some (.frz o (.dK (ks.zip vs))) ∧ vs.length = ks.length ∧ DenL K p G xs vs
  | .scr ns, v => ∃ a, v = .ref a ∧ SqL K G a (ns.map .int)
  | .xcp c ns fs, v => ∃ a dd vs, v = .ref a ∧ G a = some (XcO (.ref (He.ga K c)) dd a) ∧ ((ns = [] ∧ dd = none) ∨ ∃ d, dd = some d ∧ G d = some (.xd (ns.zip vs))) ∧ vs.length = ns.length ∧ DenL K p G fs vs
  | .dct ks xs, v => ∃ a o u, v = .ref a ∧ G a = some (.frz o u) ∧ ((ks = [] ∧ xs = [.non] ∧ u = DOx a) ∨ ∃ es vs, u = DTx PgW.prog PgW.w a es ∧ es.map (·.1) = ks ∧ KeysX K G es ∧ Vals vs (es.map (·.2.2)) ∧ DenL K p G xs vs)
def DenL (K : PySem.W.Frag) (p : List (List Addr)) (G : Hp) : List D → List V → Prop
  | [], vs => vs = []
  | d :: ds, vs => ∃ v r, vs = v :: r ∧ Den K p G d v ∧ DenL K p G ds r
end
theorem SqT.mono {K : PySem.W.Frag} {H H' : Hp} {a : Addr} {xs : List V} (e : Same H H') (h : SqT K H a xs) : SqT K H' a xs := by
  rcases h with (h | ⟨o, h⟩) | h
  · exact .inl (.inl (e _ _ h))
  · exact .inl (.inr ⟨o, e _ _ h⟩)
  · exact .inr h
theorem KeysX.mono {K : PySem.W.Frag} {H H' : Hp} {xs : XD} (e : Same H H') (h : KeysX K H xs) : KeysX K H' xs := fun x hx => SqT.mono e (h x hx)
section
variable {K : PySem.W.Frag} {p q : List (List Addr)} {G G' : Hp}
theorem idx_ext (hp : ∃ r, q = p ++ r) {i : Nat} {x : List Addr} (h : p[i]? = some x) : q[i]? = some x := by
  obtain ⟨r, rfl⟩ := hp
  rw [List.getElem?_append_left (List.getElem?_eq_some_iff.mp h).1]
  exact h
mutual
theorem Den.mono (hp : ∃ r, q = p ++ r) (e : Same G G') : ∀ {d : D} {v : V}, Den K p G d v → Den K q G' d v
  | .non, _, h => h
  | .bl _, _, h => h
  | .int _, _, h => h
  | .str _, _, h => h
  | .tup _, _, ⟨a, vs, h1, h2, h3⟩ => ⟨a, vs, h1, SqT.mono e h2, DenL.mono hp e h3⟩
  | .lst _, _, ⟨a, vs, h1, h2, h3⟩ => ⟨a, vs, h1, e _ _ h2, DenL.mono hp e h3⟩
  | .ins _ _ _, _, ⟨a, dx, vs, h1, h2, h4, h3⟩ => ⟨a, dx, vs, h1, e _ _ h2, h4, DenL.mono hp e h3⟩
  | .mref _, _, ⟨a, r, h1, h2⟩ => ⟨a, r, idx_ext hp h1, h2⟩
  | .dic _ _, _, ⟨a, o, vs, h1, h2, h4, h3⟩ => ⟨a, o, vs, h1, e _ _ h2, h4, DenL.mono hp e h3⟩
  | .scr _, _, ⟨a, h1, h2⟩ => ⟨a, h1, e.seq h2⟩
  | .xcp _ _ _, _, ⟨a, dd, vs, h1, h2, h3, h4, h5⟩ => ⟨a, dd, vs, h1, e _ _ h2, h3.imp id fun ⟨d, q1, q2⟩ => ⟨d, q1, e _ _ q2⟩, h4, DenL.mono hp e h5⟩
  | .dct _ _, _, ⟨a, o, u, h1, h2, h3⟩ => ⟨a, o, u, h1, e _ _ h2, h3.imp id fun ⟨es, vs, h4, h5, h6, h7, h8⟩ => ⟨es, vs, h4, h5, h6.mono e, h7, DenL.mono hp e h8⟩⟩
theorem DenL.mono (hp : ∃ r, q = p ++ r) (e : Same G G') : ∀ {ds : List D} {vs : List V}, DenL K p G ds vs → DenL K q G' ds vs
  | [], _, h => h
  | _ :: _, _, ⟨v, r, h1, h2, h3⟩ => ⟨v, r, h1, Den.mono hp e h2, DenL.mono hp e h3⟩
end
theorem DenL.length : ∀ {ds : List D} {vs : List V}, DenL K p G ds vs → vs.length = ds.length
  | [], _, h => by
    have e : _ = [] := h
    rw [e]; rfl
  | _ :: _, _, ⟨v, r, h1, _, h3⟩ => by
    rw [h1, List.length_cons, List.length_cons, DenL.length h3]
theorem DenL.get : ∀ {ds : List D} {vs : List V} {i : Nat} {d : D}, DenL K p G ds vs → ds[i]? = some d → ∃ v, vs[i]? = some v ∧ Den K p G d v
  | [], _, _, _, _, e => by simp at e
  | x :: _, _, 0, d, ⟨v, r, h1, h2, _⟩, e => by
    simp at e; subst e
    exact ⟨v, by rw [h1]; rfl, h2⟩
  | _ :: ds, _, i + 1, d, ⟨v, r, h1, _, h3⟩, e => by
    obtain ⟨u, a, b⟩ := DenL.get (i := i) h3 (by simpa using e)
    exact ⟨u, by rw [h1]; simpa using a, b⟩
theorem DenL.append : ∀ {ds es : List D} {vs us : List V}, DenL K p G ds vs → DenL K p G es us → DenL K p G (ds ++ es) (vs ++ us)
  | [], _, _, _, h, h' => by
    have e : _ = [] := h
    rw [e]; exact h'
  | _ :: _, _, _, _, ⟨v, r, h1, h2, h3⟩, h' => ⟨v, r ++ _, by rw [h1]; rfl, h2, DenL.append h3 h'⟩
theorem DenL.one {d : D} {v : V} (h : Den K p G d v) : DenL K p G [d] [v] := ⟨v, [], rfl, h, rfl⟩
theorem DenL.nil : DenL K p G [] [] := rfl
theorem DenL.cons {d : D} {v : V} {ds : List D} {vs : List V} (h : Den K p G d v) (r : DenL K p G ds vs) : DenL K p G (d :: ds) (v :: vs) := ⟨v, vs, rfl, h, r⟩
theorem DenL.take : ∀ {ds : List D} {vs : List V} (n : Nat), DenL K p G ds vs → DenL K p G (ds.take n) (vs.take n)
  | _, _, 0, _ => by simp; exact rfl
  | [], _, n + 1, h => by
    have e : _ = [] := h
    rw [e]; exact rfl
  | _ :: _, _, n + 1, ⟨v, r, h1, h2, h3⟩ => by
    rw [h1]; exact ⟨v, _, rfl, h2, DenL.take n h3⟩
theorem DenL.drop : ∀ {ds : List D} {vs : List V} (n : Nat), DenL K p G ds vs → DenL K p G (ds.drop n) (vs.drop n)
  | _, _, 0, h => by simpa using h
  | [], _, n + 1, h => by
    have e : _ = [] := h
    rw [e]; exact rfl
  | _ :: _, _, n + 1, ⟨v, r, h1, h2, h3⟩ => by
    rw [h1]; exact DenL.drop n h3
theorem DenL.set {e : D} {u : V} (h' : Den K p G e u) : ∀ {ds : List D} {vs : List V} (i : Nat), DenL K p G ds vs → DenL K p G (ds.set i e) (vs.set i u)
  | [], _, _, h => by
    have e : _ = [] := h
    rw [e]; exact rfl
  | _ :: _, _, 0, ⟨v, r, h1, h2, h3⟩ => by
    rw [h1]; exact ⟨u, r, rfl, h', h3⟩
  | _ :: _, _, i + 1, ⟨v, r, h1, h2, h3⟩ => by
    rw [h1]; exact ⟨v, _, rfl, h2, DenL.set h' i h3⟩
end

abbrev KD := List (List Key × D)
def KvX (K : PySem.W.Frag) (p : List (List Addr)) (G : Hp) : KD → XD → Prop
  | [], xs => xs = []
  | (k, d) :: r, xs => ∃ b v s, xs = (k, b, v) :: s ∧ SqT K G b (k.map kV) ∧ (∃ u, RelV u v ∧ Den K p G d u) ∧ KvX K p G r s
theorem KvX.mono {K : PySem.W.Frag} {p q : List (List Addr)} {G G' : Hp} (hp : ∃ r, q = p ++ r) (e : Same G G') : ∀ {kv : KD} {xs : XD}, KvX K p G kv xs → KvX K q G' kv xs
  | [], _, h => h
  | (_, _) :: _, _, ⟨b, v, s, h1, h2, ⟨u, h3, h4⟩, h5⟩ => ⟨b, v, s, h1, SqT.mono e h2, ⟨u, h3, h4.mono hp e⟩, KvX.mono hp e h5⟩
theorem KvX.imp {K : PySem.W.Frag} {p q : List (List Addr)} {G G' : Hp} (hs : ∀ b k, SqT K G b k → SqT K G' b k) : ∀ {kv : KD} {xs : XD}, (∀ x ∈ kv, ∀ v, Den K p G x.2 v → Den K q G' x.2 v) → KvX K p G kv xs → KvX K q G' kv xs
  | [], _, _, h => h
  | (k, d) :: r, _, hd, ⟨b, v, s, h1, h2, ⟨u, h3, h4⟩, h5⟩ => ⟨b, v, s, h1, hs _ _ h2, ⟨u, h3, hd (k, d) List.mem_cons_self u h4⟩, KvX.imp hs (fun x hx => hd x (List.mem_cons_of_mem _ hx)) h5⟩

mutual
def noLst : D → Bool
  | .lst _ => false
  | .scr _ => false
  | .tup xs => noLstL xs
  | .ins _ _ fs => noLstL fs
  | .dic _ vs => noLstL vs
  | .xcp _ _ fs => noLstL fs
  | .dct _ vs => noLstL vs
  | _ => true
def noLstL : List D → Bool
  | [] => true
  | d :: ds => noLst d && noLstL ds
end
theorem noLstL_mem : ∀ {ds : List D}, noLstL ds = true → ∀ d ∈ ds, noLst d = true
  | [], _, _, h => by cases h
  | x :: xs, h, d, hd => by
    have h' := Bool.and_eq_true_iff.mp (show (noLst x && noLstL xs) = true from h)
    rcases List.mem_cons.mp hd with rfl | hd
    · exact h'.1
    · exact noLstL_mem h'.2 d hd
def MoAt (K : PySem.W.Frag) (p : List (List Addr)) (G H : Hp) : List Addr → MO → Prop
  | [a, l, c], .tape t => H a = some (.dK [(.inr "large", .ref l), (.inr "cells", .ref c), (.inr "rest", .int t.rest), (.inr "turn", .int t.turn)]) ∧ H l = some (.lst (t.large.map .int)) ∧ H c = some (.lst (t.cells.map .int))
  | [x], .inst c ns fs => noLstL fs = true ∧ ∃ dx vs, H x = some (.ins (He.ga K c) dx (ns.zip vs)) ∧ vs.length = ns.length ∧ DenL K p G fs vs
  | [x], .tab n q => x = (He.cT K (n, none)).2 ∧ ∃ ps, H x = some (.tbl ps) ∧ TriplesOk ps.toList ∧ ∀ (pos : Pos) (cv : Value), codeAmong pos ps.toList = some cv → ∃ c, cv = .ref c ∧ G c = some (LamX.CodeO c q)
  | [x], .lst xs => noLstL xs = true ∧ ∃ vs, H x = some (.lst vs) ∧ DenL K p G xs vs
  | [x], .kd kv => noLstL (kv.map (·.2)) = true ∧ ∃ es, H x = some (DTx PgW.prog PgW.w x es) ∧ KvX K p G kv es
  | _, _ => False
theorem MoAt.dom {K : PySem.W.Frag} {p : List (List Addr)} {G H : Hp} : ∀ {as : List Addr} {o : MO}, MoAt K p G H as o → ∀ a ∈ as, H a ≠ none
  | [a, l, c], .tape t, ⟨h1, h2, h3⟩, b, hb => by
    simp only [List.mem_cons, List.not_mem_nil, or_false] at hb
    rcases hb with rfl | rfl | rfl
    · rw [h1]; simp
    · rw [h2]; simp
    · rw [h3]; simp
  | [x], .inst c ns fs, ⟨_, dx, vs, h1, _⟩, b, hb => by
    simp only [List.mem_cons, List.not_mem_nil, or_false] at hb
    subst hb
    rw [h1]; simp
  | [x], .tab n q, ⟨_, ps, h1, _⟩, b, hb => by
    simp only [List.mem_cons, List.not_mem_nil, or_false] at hb
    subst hb
    rw [h1]; simp
  | [x], .lst xs, ⟨_, vs, h1, _⟩, b, hb => by
    simp only [List.mem_cons, List.not_mem_nil, or_false] at hb
    subst hb
    rw [h1]; simp
  | [x], .kd kv, ⟨_, es, h1, _⟩, b, hb => by
    simp only [List.mem_cons, List.not_mem_nil, or_false] at hb
    subst hb
    rw [h1]; simp
theorem MoAt.mono {K : PySem.W.Frag} {p p' : List (List Addr)} {G G' H H' : Hp} (hp : ∃ r, p' = p ++ r) (e : Same G G') : ∀ {as : List Addr} {o : MO}, MoAt K p G H as o → (∀ a ∈ as, H' a = H a) → MoAt K p' G' H' as o
  | [a, l, c], .tape t, ⟨h1, h2, h3⟩, k => ⟨(k a (by simp)).trans h1, (k l (by simp)).trans h2, (k c (by simp)).trans h3⟩
  | [x], .inst c ns fs, ⟨nl, dx, vs, h1, h2, h3⟩, k => ⟨nl, dx, vs, (k x (by simp)).trans h1, h2, h3.mono hp e⟩
  | [x], .tab n q, ⟨h0, ps, h1, h2, h3⟩, k => ⟨h0, ps, (k x (by simp)).trans h1, h2, fun pos cv z => let ⟨c, e1, e2⟩ := h3 pos cv z; ⟨c, e1, e _ _ e2⟩⟩
  | [x], .lst xs, ⟨nl, vs, h1, h3⟩, k => ⟨nl, vs, (k x (by simp)).trans h1, h3.mono hp e⟩
  | [x], .kd kv, ⟨nl, es, h1, h3⟩, k => ⟨nl, es, (k x (by simp)).trans h1, h3.mono hp e⟩
theorem MoAt.ice {K : PySem.W.Frag} {p : List (List Addr)} {G G' H : Hp} (e : Same G G') {as : List Addr} {o : MO} (h : MoAt K p G H as o) : MoAt K p G' H as o := h.mono ⟨[], by simp⟩ e fun _ _ => rfl

structure Rel0 (K : PySem.W.Frag) (p : List (List Addr)) (S : Sto) (G H : Hp) : Prop where
  sub : Same G H
  len : p.length = S.length
  mo : ∀ (i : Nat) (as : List Addr) (o : MO), p[i]? = some as → S[i]? = some o → MoAt K p G H as o
  nd : p.flatten.Nodup
  gn : ∀ a ∈ p.flatten, G a = none
structure Ext (p : List (List Addr)) (G H : Hp) (p' : List (List Addr)) (G' H' : Hp) : Prop where
  g : Same G G'
  gn : ∀ a, G a = none → H a ≠ none → G' a = none
  h : ∀ a o, H a = some o → a ∉ p.flatten → H' a = some o
  d : ∀ a, H a ≠ none → H' a ≠ none
  p : ∃ r, p' = p ++ r ∧ ∀ a ∈ r.flatten, H a = none
theorem Ext.pp {p p' : List (List Addr)} {G H G' H' : Hp} (e : Ext p G H p' G' H') : ∃ r, p' = p ++ r := let ⟨r, h, _⟩ := e.p; ⟨r, h⟩
theorem Ext.refl (p : List (List Addr)) (G H : Hp) : Ext p G H p G H := ⟨Same.refl _, fun _ h _ => h, fun _ _ h _ => h, fun _ h => h, [], by simp, by simp⟩
theorem Ext.trans {p p1 p2 : List (List Addr)} {G H G1 H1 G2 H2 : Hp} (a : Ext p G H p1 G1 H1) (b : Ext p1 G1 H1 p2 G2 H2) : Ext p G H p2 G2 H2 := by
  obtain ⟨r, e1, f1⟩ := a.p
  obtain ⟨r2, e2, f2⟩ := b.p
  refine ⟨a.g.trans b.g, fun x h1 h2 => b.gn x (a.gn x h1 h2) (a.d x h2), fun x o h1 h2 => b.h x o (a.h x o h1 h2) ?_, fun x h => b.d x (a.d x h), r ++ r2, by rw [e2, e1, List.append_assoc], fun x hx => ?_⟩
  · rw [e1, List.flatten_append, List.mem_append]
    rintro (z | z)
    · exact h2 z
    · rw [f1 x z] at h1; cases h1
  · rw [List.flatten_append, List.mem_append] at hx
    rcases hx with z | z
    · exact f1 x z
    · cases q : H x with
      | none => rfl
      | some o => exact absurd (f2 x z) (a.d x (by rw [q]; simp))
theorem Rel0.dom {K : PySem.W.Frag} {p : List (List Addr)} {S : Sto} {G H : Hp} (r : Rel0 K p S G H) {a : Addr} (h : a ∈ p.flatten) : H a ≠ none := by
  obtain ⟨as, h1, h2⟩ := List.mem_flatten.mp h
  obtain ⟨i, hi, e⟩ := List.getElem_of_mem h1
  have e1 : p[i]? = some as := by rw [List.getElem?_eq_getElem hi, e]
  have hs : i < S.length := by rw [← r.len]; exact hi
  exact (r.mo i as _ e1 (List.getElem?_eq_getElem hs)).dom a h2
theorem Rel0.new {K : PySem.W.Frag} {p : List (List Addr)} {S : Sto} {G H : Hp} (r : Rel0 K p S G H) {a : Addr} (o : HO) (h : H a = none) : Rel0 K p S (upd G a o) (upd H a o) ∧ Ext p G H p (upd G a o) (upd H a o) := by
  have ga : G a = none := Same.free r.sub h
  have np : a ∉ p.flatten := fun z => r.dom z h
  refine ⟨⟨fun b u e => ?_, r.len, fun i as x e1 e2 => (r.mo i as x e1 e2).mono ⟨[], by simp⟩ (fun b u e => by rw [upd_ne (ne_of_none e ga)]; exact e) fun b hb => ?_, r.nd, fun b hb => ?_⟩, ⟨fun b u e => ?_, fun b h1 h2 => ?_, fun b u e _ => ?_, fun b e => ?_, [], by simp, by simp⟩⟩
  · by_cases q : b = a
    · subst q; rw [upd_same] at e ⊢; exact e
    · rw [upd_ne q] at e ⊢; exact r.sub b u e
  · have : b ≠ a := by
      rintro rfl
      exact np (List.mem_flatten.mpr ⟨as, List.mem_of_getElem? e1, hb⟩)
    exact upd_ne this
  · have : b ≠ a := by rintro rfl; exact np hb
    rw [upd_ne this]; exact r.gn b hb
  · rw [upd_ne (ne_of_none e ga)]; exact e
  · have : b ≠ a := by rintro rfl; exact h2 h
    rw [upd_ne this]; exact h1
  · rw [upd_ne (ne_of_none e h)]; exact e
  · by_cases q : b = a
    · subst q; rw [upd_same]; simp
    · rw [upd_ne q]; exact e
theorem Rel0.own {K : PySem.W.Frag} {p : List (List Addr)} {S : Sto} {G H : Hp} (r : Rel0 K p S G H) {a : Addr} (o : HO) (ha : a ∉ p.flatten) (hg : G a = none) : Rel0 K p S G (upd H a o) := by
  refine ⟨fun b u e => ?_, r.len, fun i as x e1 e2 => (r.mo i as x e1 e2).mono ⟨[], by simp⟩ (Same.refl _) fun b hb => ?_, r.nd, r.gn⟩
  · rw [upd_ne (ne_of_none e hg)]; exact r.sub b u e
  · have : b ≠ a := by
      rintro rfl
      exact ha (List.mem_flatten.mpr ⟨as, List.mem_of_getElem? e1, hb⟩)
    exact upd_ne this

inductive DV where
  | val (d : D)
  | own (xs : List D)
  | slf (x : Addr) (c : Str) (ns : List Str) (fs : List D)
  | lam (v : V) (R : List (List Addr) → Hp → Prop)
  | hold (a : Addr) (o : HO) (R : List (List Addr) → Hp → Prop)
  | cust (Q : PySem.W.Frag → List (List Addr) → Hp → Addr → HO → Prop)
  /-- a list of two lists, all three held alone -/
  | two (xs ys : List D)
  /-- things held alone, whatever they are -/
  | many (Q : PySem.W.Frag → List (List Addr) → Hp → List (Addr × HO) → V → Prop)
abbrev DSt := List (Option DV)
def SlotR (K : PySem.W.Frag) (p : List (List Addr)) (G H : Hp) : Option DV → Option V → List Addr → Prop
  | none, _, l => l = []
  | some (.val d), ov, l => l = [] ∧ ∃ v, ov = some v ∧ Den K p G d v
  | some (.own xs), ov, l => ∃ a vs, l = [a] ∧ ov = some (.ref a) ∧ H a = some (.lst vs) ∧ DenL K p G xs vs
  | some (.slf a c ns fs), ov, l => ∃ dx vs, l = [a] ∧ ov = some (.ref a) ∧ H a = some (.ins (He.ga K c) dx (ns.zip vs)) ∧ vs.length = ns.length ∧ DenL K p G fs vs
  | some (.lam v R), ov, l => l = [] ∧ ov = some v ∧ ∀ p' G', (∃ r, p' = p ++ r) → Same G G' → R p' G'
  | some (.hold a o R), ov, l => l = [a] ∧ ov = some (.ref a) ∧ H a = some o ∧ ∀ p' G', (∃ r, p' = p ++ r) → Same G G' → R p' G'
  | some (.cust Q), ov, l => ∃ a o, l = [a] ∧ ov = some (.ref a) ∧ H a = some o ∧ ∀ p' G', (∃ r, p' = p ++ r) → Same G G' → Q K p' G' a o
  | some (.two xs ys), ov, l => ∃ a b c us vs, l = [a, b, c] ∧ ov = some (.ref a) ∧ H a = some (.lst [.ref b, .ref c]) ∧ (H b = some (.lst us) ∧ DenL K p G xs us) ∧ (H c = some (.lst vs) ∧ DenL K p G ys vs)
  | some (.many Q), ov, l => ∃ F v, l = F.map (·.1) ∧ ov = some v ∧ (∀ x ∈ F, H x.1 = some x.2) ∧ ∀ p' G', (∃ r, p' = p ++ r) → Same G G' → Q K p' G' F v
def SlotsR (K : PySem.W.Frag) (p : List (List Addr)) (G H : Hp) : DSt → L2.St → List Addr → Prop
  | [], vs, ow => vs = [] ∧ ow = []
  | s :: ss, vs, ow => ∃ v r l k, vs = v :: r ∧ ow = l ++ k ∧ SlotR K p G H s v l ∧ SlotsR K p G H ss r k
structure RelS (K : PySem.W.Frag) (p : List (List Addr)) (G : Hp) (S : Sto) (H : Hp) (t : DSt) (σ : L2.St) (ow : List Addr) : Prop where
  rel : Rel0 K p S G H
  sl : SlotsR K p G H t σ ow
  nd : (p.flatten ++ ow).Nodup
  gn : ∀ a ∈ ow, G a = none
section
variable {K : PySem.W.Frag} {p p' : List (List Addr)} {G G' H H' : Hp} {S S' : Sto} {t : DSt} {σ : L2.St} {ow : List Addr}
theorem SlotR.mono (hp : ∃ r, p' = p ++ r) (e : Same G G') : ∀ {s : Option DV} {v : Option V} {l : List Addr}, (∀ a ∈ l, H' a = H a) → SlotR K p G H s v l → SlotR K p' G' H' s v l
  | none, _, _, _, h => h
  | some (.val _), _, _, _, ⟨h1, v, h2, h3⟩ => ⟨h1, v, h2, h3.mono hp e⟩
  | some (.own _), _, _, k, ⟨a, vs, h1, h2, h3, h4⟩ => ⟨a, vs, h1, h2, (k a (by rw [h1]; simp)).trans h3, h4.mono hp e⟩
  | some (.slf a _ _ _), _, _, k, ⟨dx, vs, h1, h2, h3, h4, h5⟩ => ⟨dx, vs, h1, h2, (k a (by rw [h1]; simp)).trans h3, h4, h5.mono hp e⟩
  | some (.lam _ _), _, _, _, ⟨h1, h2, h3⟩ => ⟨h1, h2, fun p2 G2 q1 q2 => h3 p2 G2 (by obtain ⟨r, e1⟩ := hp; obtain ⟨r2, e2⟩ := q1; exact ⟨r ++ r2, by rw [e2, e1, List.append_assoc]⟩) (e.trans q2)⟩
  | some (.hold a _ _), _, _, k, ⟨h1, h2, h4, h3⟩ => ⟨h1, h2, (k a (by rw [h1]; simp)).trans h4, fun p2 G2 q1 q2 => h3 p2 G2 (by obtain ⟨r, e1⟩ := hp; obtain ⟨r2, e2⟩ := q1; exact ⟨r ++ r2, by rw [e2, e1, List.append_assoc]⟩) (e.trans q2)⟩
  | some (.cust _), _, _, k, ⟨a, o, h1, h2, h4, h3⟩ => ⟨a, o, h1, h2, (k a (by rw [h1]; simp)).trans h4, fun p2 G2 q1 q2 => h3 p2 G2 (by obtain ⟨r, e1⟩ := hp; obtain ⟨r2, e2⟩ := q1; exact ⟨r ++ r2, by rw [e2, e1, List.append_assoc]⟩) (e.trans q2)⟩
  | some (.two _ _), _, _, k, ⟨a, b, c, us, vs, h1, h2, h3, ⟨h4, h5⟩, ⟨h6, h7⟩⟩ => ⟨a, b, c, us, vs, h1, h2, (k a (by rw [h1]; simp)).trans h3, ⟨(k b (by rw [h1]; simp)).trans h4, h5.mono hp e⟩, ⟨(k c (by rw [h1]; simp)).trans h6, h7.mono hp e⟩⟩
  | some (.many _), _, _, k, ⟨F, v, h1, h2, h4, h3⟩ => ⟨F, v, h1, h2, fun x hx => (k x.1 (by rw [h1]; exact List.mem_map_of_mem hx)).trans (h4 x hx), fun p2 G2 q1 q2 => h3 p2 G2 (by obtain ⟨r, e1⟩ := hp; obtain ⟨r2, e2⟩ := q1; exact ⟨r ++ r2, by rw [e2, e1, List.append_assoc]⟩) (e.trans q2)⟩
theorem SlotsR.mono (hp : ∃ r, p' = p ++ r) (e : Same G G') : ∀ {t : DSt} {σ : L2.St} {ow : List Addr}, (∀ a ∈ ow, H' a = H a) → SlotsR K p G H t σ ow → SlotsR K p' G' H' t σ ow
  | [], _, _, _, h => h
  | _ :: _, _, _, k, ⟨v, r, l, m, h1, h2, h3, h4⟩ => ⟨v, r, l, m, h1, h2, SlotR.mono hp e (fun a ha => k a (by rw [h2]; exact List.mem_append_left _ ha)) h3,
      SlotsR.mono hp e (fun a ha => k a (by rw [h2]; exact List.mem_append_right _ ha)) h4⟩
theorem SlotR.dom : ∀ {s : Option DV} {v : Option V} {l : List Addr}, SlotR K p G H s v l → ∀ a ∈ l, H a ≠ none
  | none, _, _, h, _, ha => by rw [show _ = [] from h] at ha; cases ha
  | some (.val _), _, _, h, _, ha => by rw [h.1] at ha; cases ha
  | some (.own _), _, _, ⟨a, vs, h1, _, h3, _⟩, b, hb => by
    rw [h1] at hb; simp at hb; subst hb; rw [h3]; simp
  | some (.slf a _ _ _), _, _, ⟨dx, vs, h1, _, h3, _⟩, b, hb => by
    rw [h1] at hb; simp at hb; subst hb; rw [h3]; simp
  | some (.lam _ _), _, _, ⟨h1, _⟩, b, hb => by rw [h1] at hb; cases hb
  | some (.hold a _ _), _, _, ⟨h1, _, h3, _⟩, b, hb => by
    rw [h1] at hb; simp at hb; subst hb; rw [h3]; simp
  | some (.cust _), _, _, ⟨a, o, h1, _, h3, _⟩, b, hb => by
    rw [h1] at hb; simp at hb; subst hb; rw [h3]; simp
  | some (.two _ _), _, _, ⟨a, b, c, us, vs, h1, _, h3, ⟨h4, _⟩, ⟨h6, _⟩⟩, z, hz => by
    rw [h1] at hz; simp at hz
    rcases hz with rfl | rfl | rfl
    · rw [h3]; simp
    · rw [h4]; simp
    · rw [h6]; simp
  | some (.many _), _, _, ⟨F, v, h1, _, h3, _⟩, z, hz => by
    rw [h1] at hz
    obtain ⟨x, hx, rfl⟩ := List.mem_map.mp hz
    rw [h3 x hx]; simp
theorem SlotsR.dom : ∀ {t : DSt} {σ : L2.St} {ow : List Addr}, SlotsR K p G H t σ ow → ∀ a ∈ ow, H a ≠ none
  | [], _, _, h, _, ha => by rw [h.2] at ha; cases ha
  | _ :: _, _, _, ⟨v, r, l, m, h1, h2, h3, h4⟩, a, ha => by
    rw [h2] at ha
    rcases List.mem_append.mp ha with z | z
    · exact h3.dom a z
    · exact SlotsR.dom h4 a z
theorem RelS.ext (r : RelS K p G S H t σ ow) (e : Ext p G H p' G' H') (r' : Rel0 K p' S' G' H') : RelS K p' G' S' H' t σ ow := by
  obtain ⟨q, e1, f1⟩ := e.p
  have dj : ∀ a ∈ ow, a ∉ p.flatten := fun a ha hp => (List.nodup_append.mp r.nd).2.2 a hp a ha rfl
  refine ⟨r', SlotsR.mono e.pp e.g (fun a ha => ?_) r.sl, ?_, fun a ha => e.gn a (r.gn a ha) (r.sl.dom a ha)⟩
  · cases h : H a with
    | none => exact absurd h (r.sl.dom a ha)
    | some o => exact e.h a o h (dj a ha)
  · rw [List.nodup_append]
    refine ⟨r'.nd, (List.nodup_append.mp r.nd).2.1, fun a ha b hb hab => ?_⟩
    subst hab
    rw [e1, List.flatten_append, List.mem_append] at ha
    rcases ha with z | z
    · exact dj a hb z
    · exact r.sl.dom a hb (f1 a z)
theorem SlotsR.get : ∀ {t : DSt} {σ : L2.St} {ow : List Addr} {i : Nat} {d : D}, SlotsR K p G H t σ ow → t[i]? = some (some (.val d)) → ∃ v, σ[i]? = some (some v) ∧ Den K p G d v
  | [], _, _, _, _, _, e => by simp at e
  | _ :: _, _, _, 0, d, ⟨v, r, l, m, h1, h2, h3, h4⟩, e => by
    simp at e; subst e
    obtain ⟨_, u, e1, e2⟩ := h3
    exact ⟨u, by rw [h1, e1]; rfl, e2⟩
  | _ :: _, _, _, i + 1, d, ⟨v, r, l, m, h1, h2, h3, h4⟩, e => by
    obtain ⟨u, a, b⟩ := SlotsR.get (i := i) h4 (by simpa using e)
    exact ⟨u, by rw [h1]; simpa using a, b⟩
end
end RM

namespace RM
open PySem PySem.Spec PyProof.Rows L2
variable [PgW]

def ExcAt (K : PySem.W.Frag) (p : List (List Addr)) (G : Hp) (e : Exc) (cls : Value) : Option Addr → Prop
  | none => cls = .ref (He.ga K e.cls) ∧ e.ns = [] ∧ e.fs = []
  | some d => cls = .ref (He.ga K e.cls) ∧ ∃ vs, G d = some (.xd (e.ns.zip vs)) ∧ vs.length = e.ns.length ∧ DenL K p G e.fs vs
def okR {α β : Type} (R : List (List Addr) → Hp → α → β → Prop) (K : PySem.W.Frag) (p : List (List Addr)) (G H : Hp) (W : Value → Option Addr → Hp → Prop) (r : Res α) (Q : β → Hp → Prop) : Prop :=
  match r with
  | .ok d S' => ∀ v p' G' H', R p' G' d v → Rel0 K p' S' G' H' → Ext p G H p' G' H' → Q v H'
  | .exc e S' => ∀ cls dd p' G' H', ExcAt K p' G' e cls dd → Rel0 K p' S' G' H' → Ext p G H p' G' H' → W cls dd H'
  | .stuck => False
section
variable {α β γ δ : Type} {R : List (List Addr) → Hp → α → β → Prop} {R1 : List (List Addr) → Hp → γ → δ → Prop} {K : PySem.W.Frag} {p p1 : List (List Addr)} {G H G1 H1 : Hp} {W : Value → Option Addr → Hp → Prop} {r : Res α} {Q : β → Hp → Prop} {S : Sto}
theorem okR.ext (h : okR R K p G H W r Q) (e : Ext p G H p1 G1 H1) : okR R K p1 G1 H1 W r Q := by
  cases r with
  | ok d S' => exact fun v p' G' H' a b c => h v p' G' H' a b (e.trans c)
  | exc x S' => exact fun cls dd p' G' H' a b c => h cls dd p' G' H' a b (e.trans c)
  | stuck => exact h
theorem okR.seq {m : M γ} {f : γ → M α} {Q1 : δ → Hp → Prop} (h : okR R K p G H W ((m >>= f) S) Q)
    (k : ∀ d S1 v p1 G1 H1, m S = .ok d S1 → R1 p1 G1 d v → Rel0 K p1 S1 G1 H1 → Ext p G H p1 G1 H1 → okR R K p1 G1 H1 W (f d S1) Q → Q1 v H1) : okR R1 K p G H W (m S) Q1 := by
  have h' : okR R K p G H W ((m S).andThen f) Q := h
  cases e : m S with
  | ok d S1 =>
    rw [e] at h'
    exact fun v p1 G1 H1 a b c => k d S1 v p1 G1 H1 e a b c (okR.ext h' c)
  | exc x S1 =>
    rw [e] at h'
    exact h'
  | stuck =>
    rw [e] at h'
    exact h'
theorem okR.fin {d : α} {v : β} (h : okR R K p G H W (.ok d S) Q) (a : R p G d v) (b : Rel0 K p S G H) : Q v H := h v p G H a b (Ext.refl _ _ _)
theorem okR.imp {r : Res γ} {Q Q' : δ → Hp → Prop} (h : okR R1 K p G H W r Q) (k : ∀ v H', Q v H' → Q' v H') : okR R1 K p G H W r Q' := by
  cases r with
  | ok d S' => exact fun v p' G' H' a b c => k _ _ (h v p' G' H' a b c)
  | exc x S' => exact h
  | stuck => exact h
end
abbrev rB : List (List Addr) → Hp → Bool → Bool → Prop := fun _ _ a b => a = b
def tD (K : PySem.W.Frag) (W : WX) (m : DSt → M D) : TE := fun σ H Q => ∃ t p G S ow, RelS K p G S H t σ ow ∧ okR (Den K) K p G H (fun c d H' => W c d σ H') (m t S) Q
def tDA (K : PySem.W.Frag) (W : WX) (m : DSt → M (List D)) : TA := fun σ H Q => ∃ t p G S ow, RelS K p G S H t σ ow ∧ okR (DenL K) K p G H (fun c d H' => W c d σ H') (m t S) Q
def tDT (K : PySem.W.Frag) (W : WX) (m : DSt → M Bool) : TT := fun σ H Q => ∃ t p G S ow, RelS K p G S H t σ ow ∧ okR rB K p G H (fun c d H' => W c d σ H') (m t S) Q
abbrev DE (X : Cx) (W : WX) (e : Expr) (m : DSt → M D) : Prop := PE X e (tD X.K W m)
abbrev DA (X : Cx) (W : WX) (es : List Expr) (m : DSt → M (List D)) : Prop := PA X es (tDA X.K W m)
abbrev DT (X : Cx) (W : WX) (e : Expr) (m : DSt → M Bool) : Prop := PT X e (tDT X.K W m)
theorem PE.imp {X : Cx} {e : Expr} {t t' : TE} (h : PE X e t) (k : ∀ σ H Q, t' σ H Q → t σ H Q) : PE X e t' := ⟨fun pins s σ H Q I q => h.run pins s σ H Q I (k _ _ _ q)⟩
theorem PT.imp {X : Cx} {e : Expr} {t t' : TT} (h : PT X e t) (k : ∀ σ H Q, t' σ H Q → t σ H Q) : PT X e t' := ⟨fun pins s σ H Q I q => h.run pins s σ H Q I (k _ _ _ q)⟩
theorem PW.imp {X : Cx} {e : Expr} {t t' : TT} (h : PW X e t) (k : ∀ σ H Q, t' σ H Q → t σ H Q) : PW X e t' := ⟨fun wh pins s σ H Q I q => h.run wh pins s σ H Q I (k _ _ _ q)⟩
theorem PA.imp {X : Cx} {es : List Expr} {t t' : TA} (h : PA X es t) (k : ∀ σ H Q, t' σ H Q → t σ H Q) : PA X es t' := ⟨fun pos pins s σ H Q I q => h.run pos pins s σ H Q I (k _ _ _ q)⟩

theorem tD.next {K : PySem.W.Frag} {W : WX} {m : DSt → M D} {σ : L2.St} {t : DSt} {p p1 : List (List Addr)} {G H G1 H1 : Hp} {S S1 : Sto} {ow : List Addr} {Q : VK} (r : RelS K p G S H t σ ow) (e : Ext p G H p1 G1 H1) (r1 : Rel0 K p1 S1 G1 H1)
    (h : okR (Den K) K p1 G1 H1 (fun c d H' => W c d σ H') (m t S1) Q) : tD K W m σ H1 Q := ⟨t, p1, G1, S1, ow, r.ext e r1, h⟩
theorem tDT.next {K : PySem.W.Frag} {W : WX} {m : DSt → M Bool} {σ : L2.St} {t : DSt} {p p1 : List (List Addr)} {G H G1 H1 : Hp} {S S1 : Sto} {ow : List Addr} {Q : Bool → Hp → Prop} (r : RelS K p G S H t σ ow) (e : Ext p G H p1 G1 H1) (r1 : Rel0 K p1 S1 G1 H1)
    (h : okR rB K p1 G1 H1 (fun c d H' => W c d σ H') (m t S1) Q) : tDT K W m σ H1 Q := ⟨t, p1, G1, S1, ow, r.ext e r1, h⟩
theorem tDA.next {K : PySem.W.Frag} {W : WX} {m : DSt → M (List D)} {σ : L2.St} {t : DSt} {p p1 : List (List Addr)} {G H G1 H1 : Hp} {S S1 : Sto} {ow : List Addr} {Q : List V → Hp → Prop} (r : RelS K p G S H t σ ow) (e : Ext p G H p1 G1 H1) (r1 : Rel0 K p1 S1 G1 H1)
    (h : okR (DenL K) K p1 G1 H1 (fun c d H' => W c d σ H') (m t S1) Q) : tDA K W m σ H1 Q := ⟨t, p1, G1, S1, ow, r.ext e r1, h⟩

def getV (t : DSt) (i : Nat) : M D := match t[i]? with
  | some (some (.val d)) => pure d
  | _ => stuck
theorem getV_of (t : DSt) (i : Nat) : (∃ d, t[i]? = some (some (.val d)) ∧ getV t i = pure d) ∨ getV t i = stuck := by
  unfold getV
  split
  · rename_i d e
    exact .inl ⟨d, e, rfl⟩
  · exact .inr rfl
section
variable {X : Cx} {W : WX} {a b c : Expr} {es : List Expr} {ma mb mc : DSt → M D} {mt mu : DSt → M Bool} {pos : Pos}
theorem de_var (i : Nat) {x : Str} (hN : X.N[i]? = some x := by rfl) (hv : Vis X.env.scope x := by first | exact Or.inl rfl | exact Or.inr (Or.inl rfl) | exact Or.inr (Or.inr rfl)) (hd : (x == ("__debug__" : Str)) = false := by decide)
    (hcd : (x == ("__classdict__" : Str)) = false := by decide) : DE X W (.Name x pos) (fun t => getV t i) := by
  refine PE.imp (pe_var hN hv hd hcd) fun σ H Q ⟨t, p, G, S, ow, r, h⟩ => ?_
  have h : okR (Den X.K) X.K p G H (fun c d H' => W c d σ H') (getV t i S) Q := h
  rcases getV_of t i with ⟨d, e, q⟩ | q
  · rw [q] at h
    obtain ⟨v, e1, dn⟩ := r.sl.get e
    exact ⟨v, e1, okR.fin h dn r.rel⟩
  · rw [q] at h
    exact h.elim
theorem de_c {e : Expr} {v : V} (d : D) (h : PE X e (tC v)) (hd : ∀ p G, Den X.K p G d v) : DE X W e (fun _ => pure d) :=
  PE.imp h fun σ H Q ⟨t, p, G, S, ow, r, h⟩ => okR.fin h (hd p G) r.rel
theorem de_int {i j} : DE X W (.Constant (.int i) j pos) (fun _ => pure (.int i)) := de_c _ pe_int fun _ _ => rfl
theorem de_bl {i j} : DE X W (.Constant (.bool i) j pos) (fun _ => pure (.bl i)) := de_c _ pe_bl fun _ _ => rfl
theorem de_non {j} : DE X W (.Constant .none j pos) (fun _ => pure .non) := de_c _ pe_non fun _ _ => rfl
theorem de_str {x j} : DE X W (.Constant (.str x) j pos) (fun _ => pure (.str x)) := de_c _ pe_str fun _ _ => rfl
theorem de_glob {x : Str} {v : V} {u : Value} (d : D) (hg : Gl X x) (hm : X.mg x = some u) (r : RelV v u) (hd : ∀ p G, Den X.K p G d v) (hdb : (x == ("__debug__" : Str)) = false := by decide) : DE X W (.Name x pos) (fun _ => pure d) :=
  de_c d (pe_glob hg hm r hdb) hd

def By2 (K : PySem.W.Frag) (r2 : R2) (f : D → D → M D) : Prop := ∀ (d e : D) (v u : V) (p : List (List Addr)) (G H : Hp) (S : Sto) (W : Value → Option Addr → Hp → Prop) (Q : VK), Den K p G d v → Den K p G e u → Rel0 K p S G H → okR (Den K) K p G H W (f d e S) Q → r2 v u H Q
def By1 (K : PySem.W.Frag) (r1 : V → Hp → VK → Prop) (f : D → M D) : Prop := ∀ (d : D) (v : V) (p : List (List Addr)) (G H : Hp) (S : Sto) (W : Value → Option Addr → Hp → Prop) (Q : VK), Den K p G d v → Rel0 K p S G H → okR (Den K) K p G H W (f d S) Q → r1 v H Q
def ByA (K : PySem.W.Frag) (r1 : List V → Hp → VK → Prop) (f : List D → M D) : Prop := ∀ (d : List D) (v : List V) (p : List (List Addr)) (G H : Hp) (S : Sto) (W : Value → Option Addr → Hp → Prop) (Q : VK), DenL K p G d v → Rel0 K p S G H → okR (Den K) K p G H W (f d S) Q → r1 v H Q
theorem tD2 {K : PySem.W.Frag} {r2 : R2} {f : D → D → M D} (hb : By2 K r2 f) {σ : L2.St} {H : Hp} {Q : VK} (h : tD K W (fun t => do let x ← ma t; let y ← mb t; f x y) σ H Q) : tOp r2 (tD K W ma) (tD K W mb) σ H Q := by
  obtain ⟨t, p, G, S, ow, r, h⟩ := h
  refine ⟨t, p, G, S, ow, r, okR.seq h fun d S1 v p1 G1 H1 e1 dn r1 x1 h1 => ?_⟩
  refine tD.next r x1 r1 (okR.seq h1 fun d2 S2 v2 p2 G2 H2 e2 dn2 r2 x2 h2 => ?_)
  exact hb d d2 v v2 p2 G2 H2 S2 _ Q (dn.mono x2.pp x2.g) dn2 r2 h2
theorem de_op {op : Operator} {r2 : R2} {f : D → D → M D} (ho : OpR X (binaryOp op) r2) (hb : By2 X.K r2 f) (ha : DE X W a ma) (hb' : DE X W b mb) : DE X W (.BinOp a op b pos) (fun t => do let x ← ma t; let y ← mb t; f x y) :=
  PE.imp (pe_op ho ha hb') fun _ _ _ h => tD2 hb h
theorem de_cmp {op : CmpOp} {r2 : R2} {f : D → D → M D} (ho : OpR X (compareOp op) r2) (hb : By2 X.K r2 f) (ha : DE X W a ma) (hb' : DE X W b mb) (hm : behindInMarks op b = false) : DE X W (.Compare a [op] [b] pos) (fun t => do let x ← ma t; let y ← mb t; f x y) :=
  PE.imp (pe_cmpR ho ha hb' hm) fun _ _ _ h => tD2 hb h
theorem de_un {op : UnaryOp} {r1 : V → Hp → VK → Prop} {f : D → M D} (ho : UnR X (unaryOp op) r1) (hb : By1 X.K r1 f) (ha : DE X W a ma) : DE X W (.UnaryOp op a pos) (fun t => do let x ← ma t; f x) := by
  refine PE.imp (pe_un ho ha) fun σ H Q ⟨t, p, G, S, ow, r, h⟩ => ?_
  exact ⟨t, p, G, S, ow, r, okR.seq h fun d S1 v p1 G1 H1 e1 dn r1 x1 h1 => hb d v p1 G1 H1 S1 _ Q dn r1 h1⟩

def asB : D → M Bool
  | .bl b => pure b
  | _ => stuck
theorem dt_val (ha : DE X W a ma) (he : ∀ whole, isTrue a X.env whole = (do let v ← whole; standAt a.pos; holding [v] (truthy v)) := by intro _; rfl) : DT X W a (fun t => do let x ← ma t; asB x) := by
  refine PT.imp (pt_val ha he) fun σ H Q ⟨t, p, G, S, ow, r, h⟩ => ?_
  refine ⟨t, p, G, S, ow, r, okR.seq h fun d S1 v p1 G1 H1 e1 dn r1 x1 h1 => ?_⟩
  cases d with
  | bl b => exact ⟨b, dn, okR.fin (d := b) h1 rfl r1⟩
  | _ => exact h1.elim
theorem dt_cmp {op : CmpOp} {r2 : R2} {f : D → D → M D} (ho : OpR X (compareOp op) r2) (hb : By2 X.K r2 f) (ha : DE X W a ma) (hb' : DE X W b mb) (hm : behindInMarks op b = false) : DT X W (.Compare a [op] [b] pos) (fun t => do let x ← (do let x ← ma t; let y ← mb t; f x y); asB x) := by
  refine PT.imp (pt_cmpR ho ha hb' hm) fun σ H Q ⟨t, p, G, S, ow, r, h⟩ => ?_
  refine tD2 (ma := ma) (mb := mb) hb ⟨t, p, G, S, ow, r, okR.seq h fun d S1 v p1 G1 H1 e1 dn r1 x1 h1 => ?_⟩
  cases d with
  | bl b => exact ⟨b, dn, okR.fin (d := b) h1 rfl r1⟩
  | _ => exact h1.elim
theorem dt_not (ha : DT X W a mt) : DT X W (.UnaryOp .Not a pos) (fun t => do let x ← mt t; pure (!x)) := by
  refine PT.imp (pt_not ha) fun σ H Q ⟨t, p, G, S, ow, r, h⟩ => ?_
  refine ⟨t, p, G, S, ow, r, okR.seq h fun d S1 v p1 G1 H1 e1 dn r1 x1 h1 => ?_⟩
  cases dn
  exact okR.fin (d := !d) h1 rfl r1
abbrev DW (X : Cx) (W : WX) (e : Expr) (m : DSt → M Bool) : Prop := PW X e (tDT X.K W m)
theorem dw_and1 (ha : DT X W a mt) : DW X W (.BoolOp .And [a] pos) mt := pw_and1 ha
theorem dw_or1 (ha : DT X W a mt) : DW X W (.BoolOp .Or [a] pos) mt := pw_or1 ha
theorem dw_and {rest : List Expr} (ha : DT X W a mt) (hb : DW X W (.BoolOp .And (b :: rest) pos) mu) : DW X W (.BoolOp .And (a :: b :: rest) pos) (fun t => do if ← mt t then mu t else pure false) := by
  refine PW.imp (pw_and ha hb) fun σ H Q ⟨t, p, G, S, ow, r, h⟩ => ?_
  refine ⟨t, p, G, S, ow, r, okR.seq h fun d S1 v p1 G1 H1 e1 dn r1 x1 h1 => ?_⟩
  cases dn
  cases d with
  | true => exact iteT (tDT.next r x1 r1 h1)
  | false => exact iteF (okR.fin (d := false) h1 rfl r1)
theorem dw_or {rest : List Expr} (ha : DT X W a mt) (hb : DW X W (.BoolOp .Or (b :: rest) pos) mu) : DW X W (.BoolOp .Or (a :: b :: rest) pos) (fun t => do if ← mt t then pure true else mu t) := by
  refine PW.imp (pw_or ha hb) fun σ H Q ⟨t, p, G, S, ow, r, h⟩ => ?_
  refine ⟨t, p, G, S, ow, r, okR.seq h fun d S1 v p1 G1 H1 e1 dn r1 x1 h1 => ?_⟩
  cases dn
  cases d with
  | false => exact iteF (tDT.next r x1 r1 h1)
  | true => exact iteT (okR.fin (d := true) h1 rfl r1)
theorem DW.dt (h : DW X W a mt) : DT X W a mt := h.pt
theorem de_one {op} (h : DE X W a ma) : DE X W (.BoolOp op [a] pos) ma := pe_one h
theorem de_and {rest : List Expr} (ha : DE X W a ma) (hb : DE X W (.BoolOp .And (b :: rest) pos) mb) : DE X W (.BoolOp .And (a :: b :: rest) pos) (fun t => do let x ← ma t; if ← asB x then mb t else pure (.bl false)) := by
  refine PE.imp (pe_and ha hb) fun σ H Q ⟨t, p, G, S, ow, r, h⟩ => ?_
  refine ⟨t, p, G, S, ow, r, okR.seq h fun d S1 v p1 G1 H1 e1 dn r1 x1 h1 => ?_⟩
  cases d with
  | bl b =>
    refine ⟨b, dn, ?_⟩
    cases b with
    | true => exact iteT (tD.next r x1 r1 h1)
    | false => exact iteF (okR.fin (d := D.bl false) h1 rfl r1)
  | _ => exact h1.elim
theorem de_or {rest : List Expr} (ha : DE X W a ma) (hb : DE X W (.BoolOp .Or (b :: rest) pos) mb) : DE X W (.BoolOp .Or (a :: b :: rest) pos) (fun t => do let x ← ma t; if ← asB x then pure (.bl true) else mb t) := by
  refine PE.imp (pe_or ha hb) fun σ H Q ⟨t, p, G, S, ow, r, h⟩ => ?_
  refine ⟨t, p, G, S, ow, r, okR.seq h fun d S1 v p1 G1 H1 e1 dn r1 x1 h1 => ?_⟩
  cases d with
  | bl b =>
    refine ⟨b, dn, ?_⟩
    cases b with
    | false => exact iteF (tD.next r x1 r1 h1)
    | true => exact iteT (okR.fin (d := D.bl true) h1 rfl r1)
  | _ => exact h1.elim
theorem de_not (ha : DE X W a ma) : DE X W (.UnaryOp .Not a pos) (fun t => do let x ← ma t; let b ← asB x; pure (.bl (!b))) := by
  refine PE.imp (pe_not ha) fun σ H Q ⟨t, p, G, S, ow, r, h⟩ => ?_
  refine ⟨t, p, G, S, ow, r, okR.seq h fun d S1 v p1 G1 H1 e1 dn r1 x1 h1 => ?_⟩
  cases d with
  | bl b => exact ⟨b, dn, okR.fin (d := D.bl (!b)) h1 rfl r1⟩
  | _ => exact h1.elim
theorem de_if (hc : DT X W c mt) (ha : DE X W a ma) (hb : DE X W b mb) : DE X W (.IfExp c a b pos) (fun t => do if ← mt t then ma t else mb t) := by
  refine PE.imp (pe_ifExp hc ha hb) fun σ H Q ⟨t, p, G, S, ow, r, h⟩ => ?_
  refine ⟨t, p, G, S, ow, r, okR.seq h fun d S1 v p1 G1 H1 e1 dn r1 x1 h1 => ?_⟩
  cases dn
  cases d with
  | true => exact iteT (tD.next r x1 r1 h1)
  | false => exact iteF (tD.next r x1 r1 h1)

variable {ms : DSt → M (List D)}
theorem da_nil : DA X W [] (fun _ => pure []) := PA.imp pa_nil fun σ H Q ⟨t, p, G, S, ow, r, h⟩ => okR.fin (d := []) h DenL.nil r.rel
theorem da_cons (ha : DE X W a ma) (hr : DA X W es ms) (hs : starEach (a :: es) X.env = (false, eval a X.env) :: starEach es X.env := by rfl) : DA X W (a :: es) (fun t => do let x ← ma t; let xs ← ms t; pure (x :: xs)) := by
  refine PA.imp (pa_cons ha hr hs) fun σ H Q ⟨t, p, G, S, ow, r, h⟩ => ?_
  refine ⟨t, p, G, S, ow, r, okR.seq h fun d S1 v p1 G1 H1 e1 dn r1 x1 h1 => ?_⟩
  refine tDA.next r x1 r1 (okR.seq h1 fun d2 S2 v2 p2 G2 H2 e2 dn2 r2 x2 h2 => ?_)
  exact okR.fin (d := d :: d2) h2 (DenL.cons (dn.mono x2.pp x2.g) dn2) r2
theorem okR.new {K : PySem.W.Frag} {p : List (List Addr)} {G H : Hp} {W : Value → Option Addr → Hp → Prop} {d : D} {S : Sto} {Q : VK} {l : Addr} {o : HO} (h : okR (Den K) K p G H W (.ok d S) Q) (r : Rel0 K p S G H) (hl : H l = none) (dn : Den K p (upd G l o) d (.ref l)) : Q (.ref l) (upd H l o) :=
  h _ p _ _ dn (r.new o hl).1 (r.new o hl).2
theorem Same.upd_of {G : Hp} {l : Addr} {o : HO} (h : G l = none) : Same G (upd G l o) := fun b u e => by rw [upd_ne (ne_of_none e h)]; exact e
theorem Rel0.gfree {K : PySem.W.Frag} {p : List (List Addr)} {S : Sto} {G H : Hp} (r : Rel0 K p S G H) {a : Addr} (h : H a = none) : G a = none := Same.free r.sub h
theorem DenL.upd {K : PySem.W.Frag} {p : List (List Addr)} {G : Hp} {l : Addr} {o : HO} {ds : List D} {vs : List V} (h : DenL K p G ds vs) (hl : G l = none) : DenL K p (L2.upd G l o) ds vs := h.mono ⟨[], by simp⟩ (Same.upd_of hl)
theorem Den.upd {K : PySem.W.Frag} {p : List (List Addr)} {G : Hp} {l : Addr} {o : HO} {d : D} {v : V} (h : Den K p G d v) (hl : G l = none) : Den K p (L2.upd G l o) d v := h.mono ⟨[], by simp⟩ (Same.upd_of hl)
def tupD (ds : List D) : M D := if ds.length ≤ sizeLine then pure (.tup ds) else stuck
def lstD (ds : List D) : M D := if ds.length ≤ sizeLine then pure (.lst ds) else stuck
theorem okR.tup {K : PySem.W.Frag} {p : List (List Addr)} {G H : Hp} {W : Value → Option Addr → Hp → Prop} {ds : List D} {vs : List V} {S : Sto} {Q : VK} {l : Addr} (h : okR (Den K) K p G H W (.ok (.tup ds) S) Q) (r : Rel0 K p S G H) (hl : H l = none) (dn : DenL K p G ds vs) : Q (.ref l) (L2.upd H l (.tup vs)) :=
  okR.new h r hl ⟨l, vs, rfl, SqT.of upd_same, dn.upd (r.gfree hl)⟩
theorem okR.lst {K : PySem.W.Frag} {p : List (List Addr)} {G H : Hp} {W : Value → Option Addr → Hp → Prop} {ds : List D} {vs : List V} {S : Sto} {Q : VK} {l : Addr} (h : okR (Den K) K p G H W (.ok (.lst ds) S) Q) (r : Rel0 K p S G H) (hl : H l = none) (dn : DenL K p G ds vs) : Q (.ref l) (L2.upd H l (.lst vs)) :=
  okR.new h r hl ⟨l, vs, rfl, upd_same, dn.upd (r.gfree hl)⟩
theorem de_tup {x1} (h : DA X W es ms) : DE X W (.Tuple es x1 pos) (fun t => do let xs ← ms t; tupD xs) := by
  refine PE.imp (pe_tup h) fun σ H Q ⟨t, p, G, S, ow, r, h⟩ => ?_
  refine ⟨t, p, G, S, ow, r, okR.seq h fun d S1 v p1 G1 H1 e1 dn r1 x1 h1 => ?_⟩
  unfold tupD at h1
  split at h1
  · exact ⟨by rw [dn.length]; assumption, fun l hl => okR.tup h1 r1 hl dn⟩
  · exact h1.elim
theorem de_lst (h : DA X W es ms) : DE X W (.List es pos) (fun t => do let xs ← ms t; lstD xs) := by
  refine PE.imp (pe_lst h) fun σ H Q ⟨t, p, G, S, ow, r, h⟩ => ?_
  refine ⟨t, p, G, S, ow, r, okR.seq h fun d S1 v p1 G1 H1 e1 dn r1 x1 h1 => ?_⟩
  unfold lstD at h1
  split at h1
  · exact ⟨by rw [dn.length]; assumption, fun l hl => okR.lst h1 r1 hl dn⟩
  · exact h1.elim
theorem de_callB {x : Str} {id : String} {r1 : List V → Hp → VK → Prop} {f : List D → M D} {p : Pos} (hc : CallR X (.builtin id) r1) (hb : ByA X.K r1 f) (hg : Gl X x) (hm : X.mg x = none) (hv : bootBuiltins x = some (.builtin id)) (ha : DA X W (a :: es) ms) (hn : x ≠ "__name__" := by decide) (hdb : (x == ("__debug__" : Str)) = false := by decide)
    (he : starEach (a :: es) X.env = (false, eval a X.env) :: starEach es X.env := by rfl) (hpl : (backTo pos (starEach es X.env)).any (·.1) = false := by rfl) : DE X W (.Call (.Name x p) (a :: es) [] pos) (fun t => do let xs ← ms t; f xs) := by
  refine PE.imp (pe_callB hc hg hm hv ha hn hdb he hpl) fun σ H Q ⟨t, p, G, S, ow, r, h⟩ => ?_
  exact ⟨t, p, G, S, ow, r, okR.seq h fun d S1 v p1 G1 H1 e1 dn r1 x1 h1 => hb d v p1 G1 H1 S1 _ Q dn r1 h1⟩
theorem de_callTy {x : Str} {T : String} {r1 : List V → Hp → VK → Prop} {f : List D → M D} {p : Pos} (hc : CallR X (.type T) r1) (hb : ByA X.K r1 f) (hg : Gl X x) (hm : X.mg x = none) (hv : bootBuiltins x = some (.type T)) (ha : DA X W (a :: es) ms) (hn : x ≠ "__name__" := by decide) (hdb : (x == ("__debug__" : Str)) = false := by decide)
    (he : starEach (a :: es) X.env = (false, eval a X.env) :: starEach es X.env := by rfl) (hpl : (backTo pos (starEach es X.env)).any (·.1) = false := by rfl) : DE X W (.Call (.Name x p) (a :: es) [] pos) (fun t => do let xs ← ms t; f xs) := by
  refine PE.imp (pe_callTy hc hg hm hv ha hn hdb he hpl) fun σ H Q ⟨t, p, G, S, ow, r, h⟩ => ?_
  exact ⟨t, p, G, S, ow, r, okR.seq h fun d S1 v p1 G1 H1 e1 dn r1 x1 h1 => hb d v p1 G1 H1 S1 _ Q dn r1 h1⟩
end
end RM

namespace RM
open PySem PySem.Spec PyProof.Rows L2
variable [PgW]

def addD : D → D → M D
  | .int i, .int j => pure (.int (i + j))
  | .str x, .str y => if x.length + y.length ≤ sizeLine then pure (.str (x ++ y)) else stuck
  | .lst xs, .lst ys => if xs.length + ys.length ≤ sizeLine then pure (.lst (xs ++ ys)) else stuck
  | .tup xs, .tup ys => if xs.length + ys.length ≤ sizeLine then pure (.tup (xs ++ ys)) else stuck
  | _, _ => stuck
def subD : D → D → M D
  | .int i, .int j => pure (.int (i - j))
  | _, _ => stuck
def mulD : D → D → M D
  | .int i, .int j => if (-(2 ^ 64) < i ∧ i < 2 ^ 64) ∨ (-(2 ^ 64) < j ∧ j < 2 ^ 64) then pure (.int (i * j)) else stuck
  | .lst xs, .int k => if -(2 ^ 63) ≤ k ∧ k < 2 ^ 63 ∧ xs.length * k.toNat ≤ sizeLine then pure (.lst (List.replicate k.toNat xs).flatten) else stuck
  | _, _ => stuck
def modD : D → D → M D
  | .int i, .int j => if 0 < j then pure (.int (i % j)) else stuck
  | _, _ => stuck
def fdivD : D → D → M D
  | .int i, .int j => if 0 < j ∧ j.natAbs.log2 < 9000 then pure (.int (i / j)) else stuck
  | _, _ => stuck
def powD : D → D → M D
  | .int i, .int j => if 0 ≤ j ∧ j ≤ 1000000 ∧ i.natAbs < 2 ^ 64 then pure (.int (i ^ j.toNat)) else stuck
  | _, _ => stuck
def negD : D → M D
  | .int i => pure (.int (-i))
  | _ => stuck
section
variable {K : PySem.W.Frag}
theorem DenL.nil_iff {p : List (List Addr)} {G : Hp} {ds : List D} {vs : List V} (h : DenL K p G ds vs) : vs = [] ↔ ds = [] := by
  have e := h.length
  constructor
  · intro z
    rw [z] at e
    exact List.length_eq_zero_iff.mp e.symm
  · intro z
    rw [z] at e
    exact List.length_eq_zero_iff.mp e
theorem by_add : By2 K (fun x y H Q => rI0 (fun i j => .int (i + j)) x y H Q ∨ (∃ i j, x = .str i ∧ y = .str j ∧ i.length + j.length ≤ sizeLine ∧ Q (.str (i ++ j)) H) ∨ rCat x y H Q ∨ rCatA K x y H Q) addD := by
  intro d e v u p G H S W Q hd he r h
  cases d <;> cases e <;> try exact h.elim
  · exact .inl ⟨_, _, hd, he, okR.fin (v := V.int _) h rfl r⟩
  · unfold addD at h
    dsimp only at h
    split at h
    · rename_i hz
      exact .inr (.inl ⟨_, _, hd, he, hz, okR.fin (v := V.str _) h rfl r⟩)
    · exact h.elim
  · unfold addD at h
    dsimp only at h
    split at h
    · rename_i hz
      obtain ⟨a, vs, rfl, ha, hv⟩ := hd
      obtain ⟨b, us, rfl, hb, hu⟩ := he
      refine .inr (.inr (.inr ⟨a, b, vs, us, rfl, rfl, SqT.mono r.sub ha, SqT.mono r.sub hb, by rw [hv.length, hu.length]; exact hz, fun z => ?_, fun _ z => ?_, fun _ z l hl => okR.tup h r hl (hv.append hu)⟩))
      · subst z
        rw [(hv.nil_iff.mp rfl), List.nil_append] at h
        exact okR.fin h ⟨b, us, rfl, hb, hu⟩ r
      · subst z
        rw [(hu.nil_iff.mp rfl), List.append_nil] at h
        exact okR.fin h ⟨a, vs, rfl, ha, hv⟩ r
    · exact h.elim
  · unfold addD at h
    dsimp only at h
    split at h
    · rename_i hz
      obtain ⟨a, vs, rfl, ha, hv⟩ := hd
      obtain ⟨b, us, rfl, hb, hu⟩ := he
      exact .inr (.inr (.inl ⟨a, b, vs, us, rfl, rfl, r.sub _ _ ha, r.sub _ _ hb, by rw [hv.length, hu.length]; exact hz, fun l hl => okR.lst h r hl (hv.append hu)⟩))
    · exact h.elim
theorem by_sub : By2 K (rI0 fun i j => .int (i - j)) subD := by
  intro d e v u p G H S W Q hd he r h
  cases d <;> cases e <;> try exact h.elim
  exact ⟨_, _, hd, he, okR.fin (v := V.int _) h rfl r⟩
theorem DenL.replicate {p : List (List Addr)} {G : Hp} {ds : List D} {vs : List V} (h : DenL K p G ds vs) : ∀ k : Nat, DenL K p G (List.replicate k ds).flatten (List.replicate k vs).flatten
  | 0 => rfl
  | k + 1 => by
    rw [List.replicate_succ, List.replicate_succ, List.flatten_cons, List.flatten_cons]
    exact h.append (DenL.replicate h k)
theorem by_mul : By2 K (fun x y H Q => rI CMul (fun i j => .int (i * j)) x y H Q ∨ rRep x y H Q) mulD := by
  intro d e v u p G H S W Q hd he r h
  cases d <;> cases e <;> try exact h.elim
  · unfold mulD at h
    dsimp only at h
    split at h
    · rename_i hz
      exact .inl ⟨_, _, hd, he, hz, okR.fin (v := V.int _) h rfl r⟩
    · exact h.elim
  · unfold mulD at h
    dsimp only at h
    split at h
    · rename_i hz
      obtain ⟨a, vs, rfl, ha, hv⟩ := hd
      exact .inr ⟨a, _, vs, rfl, he, r.sub _ _ ha, hz.1, hz.2.1, by rw [hv.length]; exact hz.2.2, fun l hl => okR.lst h r hl (hv.replicate _)⟩
    · exact h.elim
theorem by_mod : By2 K (rI (fun _ j => 0 < j) fun i j => .int (i % j)) modD := by
  intro d e v u p G H S W Q hd he r h
  cases d <;> cases e <;> try exact h.elim
  unfold modD at h
  dsimp only at h
  split at h
  · rename_i hz
    exact ⟨_, _, hd, he, hz, okR.fin (v := V.int _) h rfl r⟩
  · exact h.elim
theorem by_fdiv : By2 K (rI CDivW fun i j => .int (i / j)) fdivD := by
  intro d e v u p G H S W Q hd he r h
  cases d <;> cases e <;> try exact h.elim
  unfold fdivD at h
  dsimp only at h
  split at h
  · rename_i hz
    exact ⟨_, _, hd, he, hz, okR.fin (v := V.int _) h rfl r⟩
  · exact h.elim
theorem by_pow : By2 K (rI CPow fun i j => .int (i ^ j.toNat)) powD := by
  intro d e v u p G H S W Q hd he r h
  cases d <;> cases e <;> try exact h.elim
  unfold powD at h
  dsimp only at h
  split at h
  · rename_i hz
    exact ⟨_, _, hd, he, hz, okR.fin (v := V.int _) h rfl r⟩
  · exact h.elim
theorem by_neg : By1 K (rU fun i => .int (-i)) negD := by
  intro d v p G H S W Q hd r h
  cases d <;> try exact h.elim
  exact ⟨_, hd, okR.fin (v := V.int _) h rfl r⟩
end
section
variable {X : Cx} {W : WX} {a b c : Expr} {es : List Expr} {ma mb mc : DSt → M D} {pos : Pos}
theorem de_add (ha : DE X W a ma) (hb : DE X W b mb) : DE X W (.BinOp a .Add b pos) (fun t => do let x ← ma t; let y ← mb t; addD x y) := de_op (op_add.or (op_add_str.or (op_cat.or op_catA))) by_add ha hb
theorem de_sub (ha : DE X W a ma) (hb : DE X W b mb) : DE X W (.BinOp a .Sub b pos) (fun t => do let x ← ma t; let y ← mb t; subD x y) := de_op op_sub by_sub ha hb
theorem de_mul (ha : DE X W a ma) (hb : DE X W b mb) : DE X W (.BinOp a .Mult b pos) (fun t => do let x ← ma t; let y ← mb t; mulD x y) := de_op (op_mul.or op_rep) by_mul ha hb
theorem de_mod (ha : DE X W a ma) (hb : DE X W b mb) : DE X W (.BinOp a .Mod b pos) (fun t => do let x ← ma t; let y ← mb t; modD x y) := de_op op_mod by_mod ha hb
theorem de_fdiv (ha : DE X W a ma) (hb : DE X W b mb) : DE X W (.BinOp a .FloorDiv b pos) (fun t => do let x ← ma t; let y ← mb t; fdivD x y) := de_op op_fdivW by_fdiv ha hb
theorem de_pow (ha : DE X W a ma) (hb : DE X W b mb) : DE X W (.BinOp a .Pow b pos) (fun t => do let x ← ma t; let y ← mb t; powD x y) := de_op op_pow by_pow ha hb
theorem de_neg (ha : DE X W a ma) : DE X W (.UnaryOp .USub a pos) (fun t => do let x ← ma t; negD x) := de_un un_neg by_neg ha
end
def isNonD : D → D → M D
  | d, .non => pure (.bl (match d with | .non => true | _ => false))
  | _, _ => stuck
def notNonD : D → D → M D
  | d, .non => pure (.bl (match d with | .non => false | _ => true))
  | _, _ => stuck
def strLt (x y : Str) : Bool := decide (x.cps.toList < y.cps.toList)
def ltD : D → D → M D
  | .int i, .int j => pure (.bl (decide (i < j)))
  | .str i, .str j => pure (.bl (strLt i j))
  | _, _ => stuck
def leD : D → D → M D
  | .int i, .int j => pure (.bl (decide (i ≤ j)))
  | _, _ => stuck
def gtD : D → D → M D
  | .int i, .int j => pure (.bl (decide (j < i)))
  | _, _ => stuck
def geD : D → D → M D
  | .int i, .int j => pure (.bl (decide (j ≤ i)))
  | _, _ => stuck
mutual
def toPy : D → Option PyData
  | .non => some .none
  | .bl b => some (.bool b)
  | .int i => some (.int i)
  | .str x => some (.str x)
  | .tup xs => (toPyL xs).map .tuple
  | .lst xs => (toPyL xs).map .list
  | .ins _ _ _ => none
  | .mref _ => none
  | .dic _ _ => none
  | .scr _ => none
  | .xcp _ _ _ => none
  | .dct _ _ => none
def toPyL : List D → Option (List PyData)
  | [] => some []
  | x :: xs => match toPy x, toPyL xs with
    | some y, some ys => some (y :: ys)
    | _, _ => none
end
def eqDeep (neg : Bool) (d e : D) : M D := match toPy d, toPy e with
  | some x, some y => if SeqAt.shaped x = true ∧ SeqAt.shaped y = true then pure (.bl (if neg then !PyData.eqv x y else PyData.eqv x y)) else stuck
  | _, _ => stuck
def eqD : D → D → M D
  | .int i, .int j => pure (.bl (i == j))
  | .str i, .str j => pure (.bl (i == j))
  | .bl i, .bl j => pure (.bl (i == j))
  | d, e => eqDeep false d e
def neD : D → D → M D
  | .int i, .int j => pure (.bl (!(i == j)))
  | .str i, .str j => pure (.bl (!(i == j)))
  | .bl i, .bl j => pure (.bl (!(i == j)))
  | d, e => eqDeep true d e
section
variable {K : PySem.W.Frag}
mutual
theorem toPy_dp {p : List (List Addr)} {G H : Hp} (sub : Same G H) : ∀ {d : D} {v : V} {x : PyData}, Den K p G d v → toPy d = some x → Dp K H v x
  | .non, _, _, h, e => by
    cases (show _ = _ from h); cases e; exact .non
  | .bl b, _, _, h, e => by
    cases (show _ = _ from h); cases e; exact .bl b
  | .int i, _, _, h, e => by
    cases (show _ = _ from h); cases e; exact .int i
  | .str i, _, _, h, e => by
    cases (show _ = _ from h); cases e; exact .str i
  | .tup xs, _, _, ⟨a, vs, h1, h2, h3⟩, e => by
    subst h1
    obtain ⟨ys, e1, e2⟩ := Option.map_eq_some_iff.mp (show (toPyL xs).map PyData.tuple = some _ from e)
    subst e2
    exact .tup (SqT.mono sub h2) (toPyL_dp sub h3 e1)
  | .lst xs, _, _, ⟨a, vs, h1, h2, h3⟩, e => by
    subst h1
    obtain ⟨ys, e1, e2⟩ := Option.map_eq_some_iff.mp (show (toPyL xs).map PyData.list = some _ from e)
    subst e2
    exact .lst (SqL.of (sub _ _ h2)) (toPyL_dp sub h3 e1)
  | .ins _ _ _, _, _, _, e => by cases e
  | .mref _, _, _, _, e => by cases e
  | .dic _ _, _, _, _, e => by cases e
  | .scr _, _, _, _, e => by cases e
  | .xcp _ _ _, _, _, _, e => by cases e
  | .dct _ _, _, _, _, e => by cases e
theorem toPyL_dp {p : List (List Addr)} {G H : Hp} (sub : Same G H) : ∀ {d : List D} {v : List V} {x : List PyData}, DenL K p G d v → toPyL d = some x → DpAll K H v x
  | [], _, _, h, e => by
    cases (show _ = [] from h); cases e; exact .nil
  | y :: ys, _, _, ⟨v, r, h1, h2, h3⟩, e => by
    subst h1
    have e' : (match toPy y, toPyL ys with
      | some y, some ys => some (y :: ys)
      | _, _ => none) = some _ := e
    cases q1 : toPy y with
    | none => rw [q1] at e'; cases e'
    | some z =>
      cases q2 : toPyL ys with
      | none => rw [q1, q2] at e'; cases e'
      | some zs =>
        rw [q1, q2] at e'
        cases e'
        exact .cons (toPy_dp sub h2 q1) (toPyL_dp sub h3 q2)
end
theorem deep_split {neg : Bool} {p : List (List Addr)} {G H : Hp} {S : Sto} {W : Value → Option Addr → Hp → Prop} {Q : VK} {d e : D} {v u : V} (hd : Den K p G d v) (he : Den K p G e u) (r : Rel0 K p S G H) (h : okR (Den K) K p G H W (eqDeep neg d e S) Q) :
    ∃ x y, Dp K H v x ∧ Dp K H u y ∧ SeqAt.shaped x = true ∧ SeqAt.shaped y = true ∧ Q (.bl (if neg then !PyData.eqv x y else PyData.eqv x y)) H := by
  unfold eqDeep at h
  cases q1 : toPy d with
  | none => rw [q1] at h; exact h.elim
  | some x =>
    cases q2 : toPy e with
    | none => rw [q1, q2] at h; exact h.elim
    | some y =>
      rw [q1, q2] at h
      dsimp only at h
      split at h
      · rename_i hz
        exact ⟨x, y, toPy_dp r.sub hd q1, toPy_dp r.sub he q2, hz.1, hz.2, okR.fin (v := V.bl _) h rfl r⟩
      · exact h.elim
theorem by_eq : By2 K (fun x y H Q => rEq x y H Q ∨ rEqD K x y H Q) eqD := by
  intro d e v u p G H S W Q hd he r h
  unfold eqD at h
  split at h
  · cases (show v = _ from hd); cases (show u = _ from he)
    refine .inl ⟨rfl, ?_⟩
    rw [dec_int]
    exact okR.fin (v := V.bl _) h rfl r
  · cases (show v = _ from hd); cases (show u = _ from he)
    refine .inl ⟨rfl, ?_⟩
    rw [dec_str]
    exact okR.fin (v := V.bl _) h rfl r
  · cases (show v = _ from hd); cases (show u = _ from he)
    refine .inl ⟨rfl, ?_⟩
    rw [dec_bl]
    exact okR.fin (v := V.bl _) h rfl r
  · obtain ⟨x, y, k1, k2, k3, k4, k5⟩ := deep_split hd he r h
    exact .inr ⟨x, y, k1, k2, k3, k4, k5⟩
theorem by_ne : By2 K (fun x y H Q => rNe x y H Q ∨ rNeD K x y H Q) neD := by
  intro d e v u p G H S W Q hd he r h
  unfold neD at h
  split at h
  · cases (show v = _ from hd); cases (show u = _ from he)
    refine .inl ⟨rfl, ?_⟩
    rw [dec_int]
    exact okR.fin (v := V.bl _) h rfl r
  · cases (show v = _ from hd); cases (show u = _ from he)
    refine .inl ⟨rfl, ?_⟩
    rw [dec_str]
    exact okR.fin (v := V.bl _) h rfl r
  · cases (show v = _ from hd); cases (show u = _ from he)
    refine .inl ⟨rfl, ?_⟩
    rw [dec_bl]
    exact okR.fin (v := V.bl _) h rfl r
  · obtain ⟨x, y, k1, k2, k3, k4, k5⟩ := deep_split hd he r h
    exact .inr ⟨x, y, k1, k2, k3, k4, k5⟩
theorem by_lt : By2 K (fun x y H Q => rI0 (fun i j => .bl (decide (i < j))) x y H Q ∨ ∃ i j, x = .str i ∧ y = .str j ∧ Q (.bl (decide (i.cps.toList < j.cps.toList))) H) ltD := by
  intro d e v u p G H S W Q hd he r h
  cases d <;> cases e <;> try exact h.elim
  · exact .inl ⟨_, _, hd, he, okR.fin (v := V.bl _) h rfl r⟩
  · exact .inr ⟨_, _, hd, he, okR.fin (v := V.bl _) h rfl r⟩
theorem by_le : By2 K (rI0 fun i j => .bl (decide (i ≤ j))) leD := by
  intro d e v u p G H S W Q hd he r h
  cases d <;> cases e <;> try exact h.elim
  exact ⟨_, _, hd, he, okR.fin (v := V.bl _) h rfl r⟩
theorem by_gt : By2 K (rI0 fun i j => .bl (decide (j < i))) gtD := by
  intro d e v u p G H S W Q hd he r h
  cases d <;> cases e <;> try exact h.elim
  exact ⟨_, _, hd, he, okR.fin (v := V.bl _) h rfl r⟩
theorem by_ge : By2 K (rI0 fun i j => .bl (decide (j ≤ i))) geD := by
  intro d e v u p G H S W Q hd he r h
  cases d <;> cases e <;> try exact h.elim
  exact ⟨_, _, hd, he, okR.fin (v := V.bl _) h rfl r⟩
theorem den_non {p : List (List Addr)} {G : Hp} {d : D} {v : V} (h : Den K p G d v) : decide (v = .non) = (match d with | .non => true | _ => false) := by
  cases d with
  | non => cases (show v = _ from h); rfl
  | bl b => cases (show v = _ from h); rfl
  | int b => cases (show v = _ from h); rfl
  | str b => cases (show v = _ from h); rfl
  | tup xs => obtain ⟨a, vs, rfl, _⟩ := h; rfl
  | lst xs => obtain ⟨a, vs, rfl, _⟩ := h; rfl
  | ins c ns fs => obtain ⟨a, dx, vs, rfl, _⟩ := h; rfl
  | mref i => obtain ⟨a, r, _, rfl⟩ := h; rfl
  | dic k xs => obtain ⟨a, _, vs, rfl, _⟩ := h; rfl
  | scr xs => obtain ⟨a, rfl, _⟩ := h; rfl
  | xcp c ns fs => obtain ⟨a, dd, vs, rfl, _⟩ := h; rfl
  | dct ks xs => obtain ⟨a, _, _, rfl, _⟩ := h; rfl
theorem by_isN : By2 K (fun x y H Q => y = .non ∧ Q (.bl (decide (x = .non))) H) isNonD := by
  intro d e v u p G H S W Q hd he r h
  cases e with
  | non =>
    refine ⟨he, ?_⟩
    rw [den_non hd]
    refine okR.fin (d := D.bl _) (v := V.bl _) h ?_ r
    cases d <;> rfl
  | _ => cases d <;> exact h.elim
theorem by_notN : By2 K (fun x y H Q => y = .non ∧ Q (.bl (!decide (x = .non))) H) notNonD := by
  intro d e v u p G H S W Q hd he r h
  cases e with
  | non =>
    refine ⟨he, ?_⟩
    rw [den_non hd]
    refine okR.fin (d := D.bl _) (v := V.bl _) h ?_ r
    cases d <;> rfl
  | _ => cases d <;> exact h.elim
end
section
variable {X : Cx} {W : WX} {a b c : Expr} {es : List Expr} {ma mb mc : DSt → M D} {pos : Pos}
theorem de_eq (hu : X.A.units + 64 < cLine) (ha : DE X W a ma) (hb : DE X W b mb) : DE X W (.Compare a [.Eq] [b] pos) (fun t => do let x ← ma t; let y ← mb t; eqD x y) := de_cmp (op_eq.or (op_eqD hu)) by_eq ha hb (nomark _)
theorem de_lt (ha : DE X W a ma) (hb : DE X W b mb) : DE X W (.Compare a [.Lt] [b] pos) (fun t => do let x ← ma t; let y ← mb t; ltD x y) := de_cmp (op_lt.or op_lt_str) by_lt ha hb (nomark _)
theorem de_le (ha : DE X W a ma) (hb : DE X W b mb) : DE X W (.Compare a [.LtE] [b] pos) (fun t => do let x ← ma t; let y ← mb t; leD x y) := de_cmp op_le by_le ha hb (nomark _)
theorem de_gt (ha : DE X W a ma) (hb : DE X W b mb) : DE X W (.Compare a [.Gt] [b] pos) (fun t => do let x ← ma t; let y ← mb t; gtD x y) := de_cmp op_gt by_gt ha hb (nomark _)
theorem de_ge (ha : DE X W a ma) (hb : DE X W b mb) : DE X W (.Compare a [.GtE] [b] pos) (fun t => do let x ← ma t; let y ← mb t; geD x y) := de_cmp op_ge by_ge ha hb (nomark _)
theorem de_is (ha : DE X W a ma) (hb : DE X W b mb) : DE X W (.Compare a [.Is] [b] pos) (fun t => do let x ← ma t; let y ← mb t; isNonD x y) := de_cmp op_isN by_isN ha hb (nomark _)
theorem de_isnot (ha : DE X W a ma) (hb : DE X W b mb) : DE X W (.Compare a [.IsNot] [b] pos) (fun t => do let x ← ma t; let y ← mb t; notNonD x y) := de_cmp op_notN by_notN ha hb (nomark _)
theorem dt_eq (hu : X.A.units + 64 < cLine) (ha : DE X W a ma) (hb : DE X W b mb) : DT X W (.Compare a [.Eq] [b] pos) (fun t => do let x ← (do let x ← ma t; let y ← mb t; eqD x y); asB x) := dt_cmp (op_eq.or (op_eqD hu)) by_eq ha hb (nomark _)
theorem dt_ne (hu : X.A.units + 64 < cLine) (ha : DE X W a ma) (hb : DE X W b mb) : DT X W (.Compare a [.NotEq] [b] pos) (fun t => do let x ← (do let x ← ma t; let y ← mb t; neD x y); asB x) := dt_cmp (op_ne.or (op_neD hu)) by_ne ha hb (nomark _)
theorem dt_lt (ha : DE X W a ma) (hb : DE X W b mb) : DT X W (.Compare a [.Lt] [b] pos) (fun t => do let x ← (do let x ← ma t; let y ← mb t; ltD x y); asB x) := dt_cmp (op_lt.or op_lt_str) by_lt ha hb (nomark _)
theorem dt_gt (ha : DE X W a ma) (hb : DE X W b mb) : DT X W (.Compare a [.Gt] [b] pos) (fun t => do let x ← (do let x ← ma t; let y ← mb t; gtD x y); asB x) := dt_cmp op_gt by_gt ha hb (nomark _)
theorem dt_ge (ha : DE X W a ma) (hb : DE X W b mb) : DT X W (.Compare a [.GtE] [b] pos) (fun t => do let x ← (do let x ← ma t; let y ← mb t; geD x y); asB x) := dt_cmp op_ge by_ge ha hb (nomark _)
theorem dt_is (ha : DE X W a ma) (hb : DE X W b mb) : DT X W (.Compare a [.Is] [b] pos) (fun t => do let x ← (do let x ← ma t; let y ← mb t; isNonD x y); asB x) := dt_cmp op_isN by_isN ha hb (nomark _)
theorem dt_isnot (ha : DE X W a ma) (hb : DE X W b mb) : DT X W (.Compare a [.IsNot] [b] pos) (fun t => do let x ← (do let x ← ma t; let y ← mb t; notNonD x y); asB x) := dt_cmp op_notN by_notN ha hb (nomark _)
end
end RM

namespace RM
open PySem PySem.Spec PyProof.Rows L2
variable [PgW]

inductive Ctl where
  | nx (t : DSt) | rt (d : D) | bk (t : DSt) | ct (t : DSt) | rl (xs : List D)
structure Snap where
  p : List (List Addr)
  G : Hp
  H : Hp
  pF : List (List Addr)
  GF : Hp
structure RelF (K : PySem.W.Frag) (n : Snap) (p : List (List Addr)) (G : Hp) (S : Sto) (H : Hp) (t : DSt) (σ : L2.St) (ow : List Addr) : Prop where
  rs : RelS K p G S H t σ ow
  ext : Ext n.p n.G n.H p G H
  own : ∀ a ∈ ow, n.H a = none
  fp : ∃ r, p = n.pF ++ r
  fg : Same n.GF G
theorem RelF.step {K : PySem.W.Frag} {n : Snap} {p p1 : List (List Addr)} {G H G1 H1 : Hp} {S S1 : Sto} {t : DSt} {σ : L2.St} {ow : List Addr} (r : RelF K n p G S H t σ ow) (e : Ext p G H p1 G1 H1) (r1 : Rel0 K p1 S1 G1 H1) : RelF K n p1 G1 S1 H1 t σ ow := by
  obtain ⟨q, e1⟩ := r.fp
  obtain ⟨q2, e2⟩ := e.pp
  exact ⟨r.rs.ext e r1, r.ext.trans e, r.own, ⟨q ++ q2, by rw [e2, e1, List.append_assoc]⟩, r.fg.trans e.g⟩
abbrev Wf := Value → Option Addr → Hp → Prop
abbrev Wf.x (W : Wf) : WX := fun c d _ H => W c d H
def okS (K : PySem.W.Frag) (W : Wf) (n : Snap) (r : Res Ctl) (E : Ends) : Prop := match r with
  | .ok (.nx t') S' => ∀ p' G' H' σ' ow', RelF K n p' G' S' H' t' σ' ow' → E.nx σ' H'
  | .ok (.bk t') S' => ∀ p' G' H' σ' ow', RelF K n p' G' S' H' t' σ' ow' → E.bk σ' H'
  | .ok (.ct t') S' => ∀ p' G' H' σ' ow', RelF K n p' G' S' H' t' σ' ow' → E.ct σ' H'
  | .ok (.rt d) S' => ∀ v p' G' H', Den K p' G' d v → Rel0 K p' S' G' H' → Ext n.p n.G n.H p' G' H' → E.rt v H'
  | .ok (.rl xs) S' => ∀ a vs p' G' H', n.H a = none → H' a = some (.lst vs) → DenL K p' G' xs vs → G' a = none → a ∉ p'.flatten → Rel0 K p' S' G' H' → Ext n.p n.G n.H p' G' H' → E.rt (.ref a) H'
  | .exc e S' => ∀ cls dd p' G' H', ExcAt K p' G' e cls dd → Rel0 K p' S' G' H' → Ext n.p n.G n.H p' G' H' → W cls dd H'
  | .stuck => False
def tDS (K : PySem.W.Frag) (W : Wf) (m : DSt → M Ctl) : TS := fun E σ H => ∃ n t p G S ow, RelF K n p G S H t σ ow ∧ okS K W n (m t S) E
abbrev DS (X : Cx) (W : Wf) (st : Stmt) (m : DSt → M Ctl) : Prop := PS X st (tDS X.K W m)
abbrev DSs (X : Cx) (W : Wf) (st : List Stmt) (m : DSt → M Ctl) : Prop := PSs X st (tDS X.K W m)
theorem PS.imp {X : Cx} {st : Stmt} {t t' : TS} (h : PS X st t) (k : ∀ E σ H, t' E σ H → t E σ H) : PS X st t' := ⟨fun pins s σ H E I q => h.run pins s σ H E I (k _ _ _ q)⟩
theorem PSs.imp {X : Cx} {st : List Stmt} {t t' : TS} (h : PSs X st t) (k : ∀ E σ H, t' E σ H → t E σ H) : PSs X st t' := ⟨fun pins s σ H E I q => h.run pins s σ H E I (k _ _ _ q)⟩
theorem okS.seq {α β : Type} {R1 : List (List Addr) → Hp → α → β → Prop} {K : PySem.W.Frag} {W : Wf} {n : Snap} {E : Ends} {p : List (List Addr)} {G H : Hp} {S : Sto} {t : DSt} {σ : L2.St} {ow : List Addr} {m : M α} {f : α → M Ctl} {Q1 : β → Hp → Prop}
    (h : okS K W n ((m >>= f) S) E) (r : RelF K n p G S H t σ ow)
    (k : ∀ d S1 v p1 G1 H1, m S = .ok d S1 → R1 p1 G1 d v → RelF K n p1 G1 S1 H1 t σ ow → Ext p G H p1 G1 H1 → okS K W n (f d S1) E → Q1 v H1) : okR R1 K p G H (fun c d H' => W c d H') (m S) Q1 := by
  have h' : okS K W n ((m S).andThen f) E := h
  cases e : m S with
  | ok d S1 =>
    rw [e] at h'
    exact fun v p1 G1 H1 a b c => k d S1 v p1 G1 H1 e a (r.step c b) c h'
  | exc x S1 =>
    rw [e] at h'
    exact fun cls dd p1 G1 H1 a b c => h' cls dd p1 G1 H1 a b (r.ext.trans c)
  | stuck =>
    rw [e] at h'
    exact h'
def seqC (u : DSt → M Ctl) : Ctl → M Ctl
  | .nx t => u t
  | c => pure c
section
variable {X : Cx} {W : Wf} {st : Stmt} {rest : List Stmt} {m u : DSt → M Ctl} {a b c e : Expr} {ma mb : DSt → M D} {mt : DSt → M Bool} {pos : Pos}
theorem ds_nil : DSs X W [] (fun t => pure (.nx t)) := PSs.imp pss_nil fun E σ H ⟨n, t, p, G, S, ow, r, h⟩ => h p G H σ ow r
theorem okS.imp {K : PySem.W.Frag} {W : Wf} {n : Snap} {E E' : Ends} {r : Res Ctl} (h : okS K W n r E) (k1 : ∀ σ H, E.nx σ H → E'.nx σ H) (k2 : ∀ σ H, E.bk σ H → E'.bk σ H) (k3 : ∀ σ H, E.ct σ H → E'.ct σ H) (k4 : ∀ v H, E.rt v H → E'.rt v H) : okS K W n r E' := by
  cases r with
  | ok c S' =>
    cases c with
    | nx t => exact fun p' G' H' σ' ow' r => k1 _ _ (h p' G' H' σ' ow' r)
    | bk t => exact fun p' G' H' σ' ow' r => k2 _ _ (h p' G' H' σ' ow' r)
    | ct t => exact fun p' G' H' σ' ow' r => k3 _ _ (h p' G' H' σ' ow' r)
    | rt d => exact fun v p' G' H' a b c => k4 _ _ (h v p' G' H' a b c)
    | rl xs => exact fun l vs p' G' H' a b c d e f g => k4 _ _ (h l vs p' G' H' a b c d e f g)
  | exc x S' => exact h
  | stuck => exact h
theorem okS.then {K : PySem.W.Frag} {W : Wf} {n : Snap} {E E1 : Ends} {r : Res Ctl} (h : okS K W n (r.andThen (seqC u)) E) (kb : E.bk = E1.bk) (kc : E.ct = E1.ct) (kr : E.rt = E1.rt)
    (k : ∀ t' S' p' G' H' σ' ow', RelF K n p' G' S' H' t' σ' ow' → okS K W n (u t' S') E → E1.nx σ' H') : okS K W n r E1 := by
  cases r with
  | ok c S' =>
    cases c with
    | nx t => exact fun p' G' H' σ' ow' r => k t S' p' G' H' σ' ow' r h
    | bk t => intro p' G' H' σ' ow' r; rw [← kb]; exact h p' G' H' σ' ow' r
    | ct t => intro p' G' H' σ' ow' r; rw [← kc]; exact h p' G' H' σ' ow' r
    | rt d => intro v p' G' H' a b c; rw [← kr]; exact h v p' G' H' a b c
    | rl xs => intro l vs p' G' H' a b c d e f g; rw [← kr]; exact h l vs p' G' H' a b c d e f g
  | exc x S' => exact h
  | stuck => exact h
theorem ds_cons (h1 : DS X W st m) (h2 : DSs X W rest u) : DSs X W (st :: rest) (fun t => do let c ← m t; seqC u c) := by
  refine PSs.imp (pss_cons h1 h2) fun E σ H ⟨n, t, p, G, S, ow, r, h⟩ => ?_
  refine ⟨n, t, p, G, S, ow, r, okS.then (u := u) h rfl rfl rfl fun t' S' p' G' H' σ' ow' r' h' => ?_⟩
  exact ⟨n, t', p', G', S', ow', r', h'⟩
theorem ds_one (h1 : DS X W st m) : DSs X W [st] m := pss_one h1
theorem ds_ret (he : DE X W.x e ma) : DS X W (.Return (some e) pos) (fun t => do let x ← ma t; pure (.rt x)) := by
  refine PS.imp (ps_ret he) fun E σ H ⟨n, t, p, G, S, ow, r, h⟩ => ?_
  exact ⟨t, p, G, S, ow, r.rs, okS.seq h r fun d S1 v p1 G1 H1 e1 dn r1 x1 h1 => h1 v p1 G1 H1 dn r1.rs.rel r1.ext⟩
theorem ds_if {xs ys : List Stmt} (hc : DT X W.x c mt) (ha : DSs X W xs m) (hb : DSs X W ys u) : DS X W (.If c xs ys pos) (fun t => do if ← mt t then m t else u t) := by
  refine PS.imp (ps_if hc ha hb) fun E σ H ⟨n, t, p, G, S, ow, r, h⟩ => ?_
  refine ⟨t, p, G, S, ow, r.rs, okS.seq h r fun d S1 v p1 G1 H1 e1 dn r1 x1 h1 => ?_⟩
  cases dn
  cases d with
  | true => exact iteT ⟨n, t, p1, G1, S1, ow, r1, h1⟩
  | false => exact iteF ⟨n, t, p1, G1, S1, ow, r1, h1⟩
theorem SlotsR.len {K : PySem.W.Frag} {p : List (List Addr)} {G H : Hp} : ∀ {t : DSt} {σ : L2.St} {ow : List Addr}, SlotsR K p G H t σ ow → σ.length = t.length
  | [], _, _, h => by rw [h.1]; rfl
  | _ :: _, _, _, ⟨v, r, l, k, h1, h2, h3, h4⟩ => by rw [h1, List.length_cons, List.length_cons, SlotsR.len h4]
theorem SlotsR.set {K : PySem.W.Frag} {p : List (List Addr)} {G H : Hp} {s : Option DV} {v : Option V} {l' : List Addr} (hs : SlotR K p G H s v l') : ∀ {t : DSt} {σ : L2.St} {ow : List Addr} (i : Nat), i < t.length → SlotsR K p G H t σ ow →
    ∃ a l b, ow = a ++ l ++ b ∧ SlotsR K p G H (t.set i s) (σ.set i v) (a ++ l' ++ b)
  | _ :: _, _, _, 0, _, ⟨v0, r, l, k, h1, h2, h3, h4⟩ => by
    refine ⟨[], l, k, by rw [h2]; rfl, ?_⟩
    rw [h1]
    exact ⟨v, r, l', k, rfl, rfl, hs, h4⟩
  | _ :: _, _, _, i + 1, hi, ⟨v0, r, l, k, h1, h2, h3, h4⟩ => by
    obtain ⟨a, x, b, e, q⟩ := SlotsR.set hs i (by simpa using hi) h4
    refine ⟨l ++ a, x, b, by rw [h2, e]; simp, ?_⟩
    rw [h1]
    refine ⟨v0, _, l, a ++ l' ++ b, rfl, by simp, h3, q⟩
theorem nodup_mid {α : Type} {P a l b : List α} (h : (P ++ (a ++ l ++ b)).Nodup) : (P ++ (a ++ [] ++ b)).Nodup := by
  have : (P ++ (a ++ [] ++ b)).Sublist (P ++ (a ++ l ++ b)) := by
    refine List.Sublist.append (List.Sublist.refl _) (List.Sublist.append (List.Sublist.append (List.Sublist.refl _) (List.nil_sublist _)) (List.Sublist.refl _))
  exact h.sublist this
theorem RelS.set0 {K : PySem.W.Frag} {p : List (List Addr)} {G H : Hp} {S : Sto} {t : DSt} {σ : L2.St} {ow : List Addr} {s : Option DV} {v : Option V} (r : RelS K p G S H t σ ow) {i : Nat} (hi : i < t.length) (hs : SlotR K p G H s v []) :
    ∃ ow', (∀ a ∈ ow', a ∈ ow) ∧ RelS K p G S H (t.set i s) (σ.set i v) ow' := by
  obtain ⟨a, l, b, e, q⟩ := SlotsR.set hs i hi r.sl
  subst e
  refine ⟨a ++ [] ++ b, fun x hx => ?_, r.rel, q, nodup_mid r.nd, fun x hx => r.gn x ?_⟩
  · simp at hx ⊢; rcases hx with z | z <;> simp [z]
  · simp at hx ⊢; rcases hx with z | z <;> simp [z]
theorem RelF.set0 {K : PySem.W.Frag} {n : Snap} {p : List (List Addr)} {G H : Hp} {S : Sto} {t : DSt} {σ : L2.St} {ow : List Addr} {s : Option DV} {v : Option V} (r : RelF K n p G S H t σ ow) {i : Nat} (hi : i < t.length) (hs : SlotR K p G H s v []) :
    ∃ ow', RelF K n p G S H (t.set i s) (σ.set i v) ow' := by
  obtain ⟨ow', k, q⟩ := r.rs.set0 hi hs
  exact ⟨ow', q, r.ext, fun a ha => r.own a (k a ha), r.fp, r.fg⟩
def setV (t : DSt) (i : Nat) (d : D) : Option DSt := if i < t.length then some (t.set i (some (.val d))) else none
def liftO {α : Type} : Option α → M α
  | some x => pure x
  | none => stuck
def gD (K : PySem.W.Frag) (W : Wf) (g : D → DSt → Option DSt) : TG := fun v σ H Q => ∃ n d t p G S ow, RelF K n p G S H t σ ow ∧ Den K p G d v ∧ ∃ t', g d t = some t' ∧ ∀ p' G' H' σ' ow', RelF K n p' G' S H' t' σ' ow' → Q σ' H'
abbrev DG (X : Cx) (W : Wf) (tg : Expr) (g : D → DSt → Option DSt) : Prop := PG X tg (gD X.K W g)
theorem PG.imp {X : Cx} {e : Expr} {t t' : TG} (h : PG X e t) (k : ∀ v σ H Q, t' v σ H Q → t v σ H Q) : PG X e t' := ⟨fun pins s σ H v u Q I r q => h.run pins s σ H v u Q I r (k _ _ _ _ q)⟩
theorem ds_set (i : Nat) {x : Str} {pos' : Pos} (hN : X.N.Nodup) (hi : X.N[i]? = some x) (hx : Loc X.env.scope x) (he : DE X W.x e ma) (hs : swapsWith e (some (.Name x pos')) pos.line X.env = pure false := by rfl) (hf : X.fn x = true ∨ X.env.scope.names.lookup x = some .local := by first | exact .inl rfl | exact .inr rfl | assumption) :
    DS X W (.Assign [.Name x pos'] e pos) (fun t => do let d ← ma t; let t' ← liftO (setV t i d); pure (.nx t')) := by
  refine PS.imp (L2.ps_set hN hi hx he hs hf) fun E σ H ⟨n, t, p, G, S, ow, r, h⟩ => ?_
  refine ⟨t, p, G, S, ow, r.rs, okS.seq h r fun d S1 v p1 G1 H1 e1 dn r1 x1 h1 => ?_⟩
  unfold setV at h1
  by_cases hi : i < t.length
  · rw [if_pos hi] at h1
    obtain ⟨ow', r'⟩ := r1.set0 hi (s := some (.val d)) (v := some v) ⟨rfl, v, rfl, dn⟩
    exact h1 p1 G1 H1 _ ow' r'
  · rw [if_neg hi] at h1
    exact h1.elim
end
def startD (n : Nat) (ds : List D) : DSt := ds.map (fun d => some (.val d)) ++ List.replicate (n - ds.length) none
def endC : Ctl → M D
  | .nx _ => pure .non
  | .rt d => pure d
  | _ => stuck
def runB (n : Nat) (m : DSt → M Ctl) (ds : List D) : M D := do let c ← m (startD n ds); endC c
def spD (K : PySem.W.Frag) (k : Nat) (f : List D → M D) : Sp := fun vs H Q E => ∃ ds p G S, ds.length = k ∧ DenL K p G ds vs ∧ Rel0 K p S G H ∧ okR (Den K) K p G H E (f ds S) Q
theorem spD.len {K : PySem.W.Frag} {k : Nat} {f : List D → M D} (vs : List V) (H : Hp) (Q : VK) (E : XK) (h : spD K k f vs H Q E) : vs.length = k := by
  obtain ⟨ds, p, G, S, e, dn, _⟩ := h
  rw [dn.length, e]
theorem slots_rep {K : PySem.W.Frag} {p : List (List Addr)} {G H : Hp} : ∀ k : Nat, SlotsR K p G H (List.replicate k none) (List.replicate k none) []
  | 0 => ⟨rfl, rfl⟩
  | k + 1 => ⟨none, List.replicate k none, [], [], rfl, rfl, rfl, slots_rep k⟩
theorem slots_start {K : PySem.W.Frag} {p : List (List Addr)} {G H : Hp} {k : Nat} : ∀ {ds : List D} {vs : List V}, DenL K p G ds vs → SlotsR K p G H (ds.map (fun d => some (.val d)) ++ List.replicate k none) (vs.map some ++ List.replicate k none) []
  | [], _, h => by
    cases (show _ = [] from h)
    exact slots_rep k
  | d :: ds, _, ⟨v, r, h1, h2, h3⟩ => by
    subst h1
    exact ⟨some v, _, [], [], rfl, rfl, ⟨rfl, v, rfl, h2⟩, slots_start h3⟩
section
variable {P : Program} {w : World} {K : PySem.W.Frag} {mg : Str → Option Value} {base : Heap} {x qual : Str} {params : Arguments} {body : List Stmt} {scope : Scope} {dvs : List V} {kws : List (Str × V)} {f : Addr} {fd : FuncData}
theorem tDS.enter {K : PySem.W.Frag} {N : List Str} {m : DSt → M Ctl} {ds : List D} {vs : List V} {p : List (List Addr)} {G H : Hp} {S : Sto} {Q : VK} {E : XK} (dn : DenL K p G ds vs) (r : Rel0 K p S G H) (h : okR (Den K) K p G H E (runB N.length m ds S) Q) :
    tDS K E m { nx := fun _ H' => Q .non H', rt := Q } (L2.start N vs) H := by
  refine ⟨⟨p, G, H, p, G⟩, startD N.length ds, p, G, S, [], ⟨⟨r, ?_, by simpa using r.nd, by simp⟩, Ext.refl _ _ _, by simp, ⟨[], by simp⟩, Same.refl _⟩, ?_⟩
  · unfold L2.start startD
    rw [← dn.length]
    exact slots_start dn
  · have h' : okR (Den K) K p G H E (((m (startD N.length ds)) S).andThen endC) Q := h
    cases e : m (startD N.length ds) S with
    | ok c S' =>
      rw [e] at h'
      cases c with
      | nx t => exact fun p' G' H' σ' ow' r' => h' .non p' G' H' rfl r'.rs.rel r'.ext
      | rt d => exact fun v p' G' H' a b c => h' v p' G' H' a b c
      | bk t => exact h'.elim
      | ct t => exact h'.elim
      | rl xs => exact h'.elim
    | exc z S' =>
      rw [e] at h'
      exact h'
    | stuck =>
      rw [e] at h'
      exact h'
end
end RM

namespace RM
open PySem PySem.Spec PyProof.Rows L2
variable [PgW]

abbrev W0 : WX := fun _ _ _ _ => False
abbrev F0 : Wf := fun _ _ _ => False
def noE {α : Type} (m : M α) : M α := fun s => match m s with
  | .exc _ _ => .stuck
  | r => r
def argsD (n : Nat) (g : List D → M D) (xs : List D) : M D := if xs.length = n then g xs else stuck
section
variable {X : Cx} {W : WX} {a b c : Expr} {es : List Expr} {ma mb mc : DSt → M D} {ms : DSt → M (List D)} {pos p : Pos} {k : Nat} {f : Addr} {fd : FuncData} {ps : List Str} {g : List D → M D} {x : Str} {dvs : List V} {ds : List Value} {dds : List D}
theorem okR.args {K : PySem.W.Frag} {q : List (List Addr)} {G H : Hp} {S : Sto} {Q : VK} {xs : List D} {n : Nat} {W : Value → Option Addr → Hp → Prop} (h : okR (Den K) K q G H W (argsD n g xs S) Q) : xs.length = n ∧ okR (Den K) K q G H W (g xs S) Q := by
  unfold argsD at h
  by_cases e : xs.length = n
  · rw [if_pos e] at h
    exact ⟨e, h⟩
  · rw [if_neg e] at h
    exact h.elim
end

structure ItOk (K : PySem.W.Frag) (p : List (List Addr)) (G : Hp) (ds : List D) (J : It) : Prop where
  go : ∀ i H, Same G H → i < ds.length → J.go i H
  stop : ∀ H, Same G H → J.stop ds.length H
  yld : ∀ (i : Nat) (d : D) (H : Hp) (x : V) (H' : Hp), ds[i]? = some d → Same G H → J.yld i H x H' → (H' = H ∧ Den K p G d x) ∨ (∃ T vs es, x = .ref T ∧ H T = none ∧ H' = upd H T (.tup vs) ∧ d = .tup es ∧ DenL K p G es vs)
def tDI (K : PySem.W.Frag) (W : WX) (m : DSt → M (List D)) : TI := fun σ H R => ∃ t p G S ow, RelS K p G S H t σ ow ∧ okR (ItOk K) K p G H (fun c d H' => W c d σ H') (m t S) R
abbrev DI (X : Cx) (W : WX) (tg e : Expr) (m : DSt → M (List D)) : Prop := PI X tg e (tDI X.K W m)
theorem PI.imp {X : Cx} {tg e : Expr} {t t' : TI} (h : PI X tg e t) (k : ∀ σ H Q, t' σ H Q → t σ H Q) : PI X tg e t' := ⟨fun pins s σ H Q I q => h.run pins s σ H Q I (k _ _ _ q)⟩
theorem PI.or {X : Cx} {tg e : Expr} {t t' : TI} (h : PI X tg e t) (h' : PI X tg e t') : PI X tg e (fun σ H Q => t σ H Q ∨ t' σ H Q) := ⟨fun pins s σ H Q I q => by
  rcases q with q | q
  · exact h.run pins s σ H Q I q
  · exact h'.run pins s σ H Q I q⟩
def signs (x : Str) : List D := x.cps.toList.map fun c => .str ⟨#[c]⟩
def iterD : D → M (List D)
  | .lst xs => pure xs
  | .tup xs => pure xs
  | .str x => pure (signs x)
  | .scr ns => pure (ns.map .int)
  | _ => stuck
section
variable {K : PySem.W.Frag} {p : List (List Addr)} {G : Hp}
theorem itok_list {a : Addr} {ds : List D} {vs : List V} (h : SqL K G a vs) (dn : DenL K p G ds vs) : ItOk K p G ds (Itl K a) where
  go := fun i H s hi => by
    have hl := dn.length
    exact ⟨vs, vs[i], s.seq h, by simp [hl, hi]⟩
  stop := fun H s => ⟨vs, s.seq h, by rw [dn.length]; exact Nat.le_refl _⟩
  yld := fun i d H x H' e s y => by
    obtain ⟨rfl, y⟩ := y
    obtain ⟨v, e1, e2⟩ := dn.get e
    have := y vs (s.seq h)
    rw [e1] at this
    cases this
    exact .inl ⟨rfl, e2⟩
theorem itok_tup {a : Addr} {ds : List D} {vs : List V} (h : SqT K G a vs) (dn : DenL K p G ds vs) : ItOk K p G ds (Itt K a) where
  go := fun i H s hi => by
    have hl := dn.length
    exact ⟨vs, vs[i], SqT.mono s h, by simp [hl, hi]⟩
  stop := fun H s => ⟨vs, SqT.mono s h, by rw [dn.length]; exact Nat.le_refl _⟩
  yld := fun i d H x H' e s y => by
    obtain ⟨rfl, y⟩ := y
    obtain ⟨v, e1, e2⟩ := dn.get e
    have := y vs (SqT.mono s h)
    rw [e1] at this
    cases this
    exact .inl ⟨rfl, e2⟩
theorem itok_str {x : Str} : ItOk K p G (signs x) (Its x) where
  go := fun i H s hi => by
    unfold signs at hi
    rw [List.length_map] at hi
    exact hi
  stop := fun H s => by
    show x.cps.size ≤ (signs x).length
    unfold signs
    rw [List.length_map]
    exact Nat.le_refl _
  yld := fun i d H v H' e s y => by
    obtain ⟨rfl, c, y1, y2⟩ := y
    refine .inl ⟨rfl, ?_⟩
    unfold signs at e
    rw [List.getElem?_map] at e
    have : x.cps.toList[i]? = some c := by rw [Array.getElem?_toList]; exact y1
    rw [this] at e
    cases e
    exact y2
theorem denL_ints : ∀ ns : List Int, DenL K p G (ns.map .int) (ns.map .int)
  | [] => rfl
  | n :: ns => ⟨_, _, rfl, rfl, denL_ints ns⟩
end
section
variable {X : Cx} {W : WX} {tg a b : Expr} {ma mb : DSt → M D} {ms : DSt → M (List D)} {pos pp : Pos}
theorem di_any (ha : DE X W a ma) : DI X W tg a (fun t => do let x ← ma t; iterD x) := by
  refine PI.imp (PI.or (pi_list ha) (PI.or (pi_tup ha) (pi_str ha))) fun σ H R ⟨t, p, G, S, ow, r, h⟩ => ?_
  have h' : okR (ItOk X.K) X.K p G H (fun c d H' => W c d σ H') ((ma t S).andThen iterD) R := h
  cases e : ma t S with
  | stuck => rw [e] at h'; exact h'.elim
  | exc z S1 =>
    rw [e] at h'
    exact .inl ⟨t, p, G, S, ow, r, by rw [e]; exact h'⟩
  | ok d S1 =>
    rw [e] at h'
    cases d with
    | lst xs =>
      refine .inl ⟨t, p, G, S, ow, r, ?_⟩
      rw [e]
      intro v p1 G1 H1 dn r1 x1
      obtain ⟨l, vs, rfl, hl, hv⟩ := dn
      exact ⟨l, rfl, ⟨vs, SqL.of (r1.sub _ _ hl)⟩, h' _ p1 G1 H1 (itok_list (SqL.of hl) hv) r1 x1⟩
    | scr ns =>
      refine .inl ⟨t, p, G, S, ow, r, ?_⟩
      rw [e]
      intro v p1 G1 H1 dn r1 x1
      obtain ⟨l, rfl, hl⟩ := dn
      exact ⟨l, rfl, ⟨_, r1.sub.seq hl⟩, h' _ p1 G1 H1 (itok_list hl (denL_ints ns)) r1 x1⟩
    | tup xs =>
      refine .inr (.inl ⟨t, p, G, S, ow, r, ?_⟩)
      rw [e]
      intro v p1 G1 H1 dn r1 x1
      obtain ⟨l, vs, rfl, hl, hv⟩ := dn
      exact ⟨l, rfl, ⟨vs, SqT.mono r1.sub hl⟩, h' _ p1 G1 H1 (itok_tup hl hv) r1 x1⟩
    | str x =>
      refine .inr (.inr ⟨t, p, G, S, ow, r, ?_⟩)
      rw [e]
      intro v p1 G1 H1 dn r1 x1
      exact ⟨x, dn, h' _ p1 G1 H1 itok_str r1 x1⟩
    | _ => exact h'.elim
def rangeL (lo hi : Int) : List D := (List.range (hi - lo).toNat).map fun i => .int (lo + (i : Nat))
def rangeD : List D → M (List D)
  | [.int j] => if -(2 ^ 62) ≤ j ∧ j < 2 ^ 62 then pure (rangeL 0 j) else stuck
  | [.int i, .int j] => if -(2 ^ 62) ≤ i ∧ i < 2 ^ 62 ∧ -(2 ^ 62) ≤ j ∧ j < 2 ^ 62 then pure (rangeL i j) else stuck
  | _ => stuck
theorem itok_range {K : PySem.W.Frag} {p : List (List Addr)} {G : Hp} (lo hi : Int) : ItOk K p G (rangeL lo hi) (Itr lo (hi - lo).toNat) where
  go := fun i H s h => by
    unfold rangeL at h
    rw [List.length_map, List.length_range] at h
    exact h
  stop := fun H s => by
    unfold rangeL
    rw [List.length_map, List.length_range]
    exact Nat.le_refl _
  yld := fun i d H v H' e s y => by
    obtain ⟨rfl, y⟩ := y
    refine .inl ⟨rfl, ?_⟩
    unfold rangeL at e
    rw [List.getElem?_map] at e
    obtain ⟨j, e1, e2⟩ := Option.map_eq_some_iff.mp e
    obtain ⟨hl, hj⟩ := List.getElem?_eq_some_iff.mp e1
    rw [List.getElem_range] at hj
    subst e2
    subst y
    rw [← hj]
    rfl
theorem denL1 {K : PySem.W.Frag} {p : List (List Addr)} {G : Hp} {d : D} {vs : List V} (h : DenL K p G [d] vs) : ∃ v, vs = [v] ∧ Den K p G d v := by
  obtain ⟨v, r, h1, h2, h3⟩ := h
  cases (show r = [] from h3)
  exact ⟨v, h1, h2⟩
theorem denL2 {K : PySem.W.Frag} {p : List (List Addr)} {G : Hp} {d e : D} {vs : List V} (h : DenL K p G [d, e] vs) : ∃ v u, vs = [v, u] ∧ Den K p G d v ∧ Den K p G e u := by
  obtain ⟨v, r, h1, h2, h3⟩ := h
  obtain ⟨u, rfl, h4⟩ := denL1 h3
  exact ⟨v, u, h1, h2, h4⟩
theorem rangeD_ok {K : PySem.W.Frag} {p : List (List Addr)} {G H : Hp} {S : Sto} {W : Value → Option Addr → Hp → Prop} {R : It → Hp → Prop} {ds : List D} {vs : List V} (dn : DenL K p G ds vs) (r : Rel0 K p S G H) (h : okR (ItOk K) K p G H W (rangeD ds S) R) :
    (∃ j : Int, vs = [.int j] ∧ -(2 ^ 62) ≤ j ∧ j < 2 ^ 62 ∧ R (Itr 0 j.toNat) H) ∨ (∃ i j : Int, vs = [.int i, .int j] ∧ (-(2 ^ 62) ≤ i ∧ i < 2 ^ 62 ∧ -(2 ^ 62) ≤ j ∧ j < 2 ^ 62) ∧ R (Itr i (j - i).toNat) H) := by
  unfold rangeD at h
  split at h
  · rename_i j
    obtain ⟨v, rfl, e⟩ := denL1 dn
    cases (show v = _ from e)
    by_cases hz : -(2 ^ 62) ≤ j ∧ j < 2 ^ 62
    · rw [if_pos hz] at h
      have q := okR.fin (v := Itr 0 (j - 0).toNat) h (itok_range 0 j) r
      rw [Int.sub_zero] at q
      exact .inl ⟨j, rfl, hz.1, hz.2, q⟩
    · rw [if_neg hz] at h
      exact h.elim
  · rename_i i j
    obtain ⟨v, u, rfl, e1, e2⟩ := denL2 dn
    cases (show v = _ from e1)
    cases (show u = _ from e2)
    by_cases hz : -(2 ^ 62) ≤ i ∧ i < 2 ^ 62 ∧ -(2 ^ 62) ≤ j ∧ j < 2 ^ 62
    · rw [if_pos hz] at h
      exact .inr ⟨i, j, rfl, hz, okR.fin (v := Itr i (j - i).toNat) h (itok_range i j) r⟩
    · rw [if_neg hz] at h
      exact h.elim
  · exact h.elim
theorem di_range1 (hg : Gl X "range") (hm : X.mg "range" = none) (ha : DE X W a ma) (hs : starEach [a] X.env = [(false, eval a X.env)] := by rfl) : DI X W tg (.Call (.Name "range" pp) [a] [] pos) (fun t => do let x ← ma t; rangeD [x]) := by
  refine PI.imp (pi_range1 hg hm (pa_cons ha pa_nil hs) hs) fun σ H R ⟨t, p, G, S, ow, r, h⟩ => ?_
  refine ⟨t, p, G, S, ow, r, okR.seq h fun d S1 v p1 G1 H1 e1 dn r1 x1 h1 => ?_⟩
  rcases rangeD_ok (DenL.one dn) r1 h1 with q | ⟨i, j, e, _⟩
  · exact q
  · cases e
end

section
variable {X : Cx} {W : Wf} {tg it : Expr} {mi : DSt → M (List D)} {g : D → DSt → Option DSt} {mb : DSt → M Ctl} {body : List Stmt} {pos : Pos}
theorem RelF.frozen {K : PySem.W.Frag} {n : Snap} {p : List (List Addr)} {G H : Hp} {S : Sto} {t : DSt} {σ : L2.St} {ow : List Addr} (r : RelF K n p G S H t σ ow) : RelF K ⟨n.p, n.G, n.H, p, G⟩ p G S H t σ ow := ⟨r.rs, r.ext, r.own, ⟨[], by simp⟩, Same.refl _⟩
theorem RelF.thaw {K : PySem.W.Frag} {n : Snap} {p p' : List (List Addr)} {G H G' H' : Hp} {S S' : Sto} {t t' : DSt} {σ σ' : L2.St} {ow ow' : List Addr} (r : RelF K n p G S H t σ ow) (r' : RelF K ⟨n.p, n.G, n.H, p, G⟩ p' G' S' H' t' σ' ow') : RelF K n p' G' S' H' t' σ' ow' := by
  obtain ⟨q, e⟩ := r.fp
  obtain ⟨q', e'⟩ := r'.fp
  refine ⟨r'.rs, r'.ext, r'.own, ⟨q ++ q', ?_⟩, r.fg.trans r'.fg⟩
  have e2 : p' = p ++ q' := e'
  rw [e2, e, List.append_assoc]
theorem RelF.pair {K : PySem.W.Frag} {n : Snap} {p : List (List Addr)} {G H : Hp} {S : Sto} {t : DSt} {σ : L2.St} {ow : List Addr} (r : RelF K n p G S H t σ ow) {T : Addr} (vs : List V) (hT : H T = none) : RelF K n p (upd G T (.tup vs)) S (upd H T (.tup vs)) t σ ow :=
  r.step (r.rs.rel.new _ hT).2 (r.rs.rel.new _ hT).1
end
end RM

namespace RM
open PySem PySem.Spec PyProof.Rows L2
variable [PgW]

inductive Tgt where
  | nm (i : Nat) | tp (is : List Nat) | n2 (i : Nat) (is : List Nat)
def Tgt.slots : Tgt → List Nat
  | .nm i => [i]
  | .tp is => is
  | .n2 i is => i :: is
def gNs : List Nat → TGs
  | [] => gNil
  | i :: is => gCons (gName i) (gNs is)
def Tgt.tg (K : PySem.W.Frag) : Tgt → TG
  | .nm i => gName i
  | .tp is => gTup K is.length (gNs is)
  | .n2 i is => gTup K 2 (gCons (gName i) (gCons (gTup K is.length (gNs is)) gNil))
def setVs : DSt → List Nat → List D → Option DSt
  | t, [], [] => some t
  | t, i :: is, d :: ds => (setV t i d).bind fun t' => setVs t' is ds
  | _, _, _ => none
def setN2 (i : Nat) (is : List Nat) : D → DSt → Option DSt
  | .tup [d, .tup es], t => (setV t i d).bind fun t' => setVs t' is es
  | _, _ => none
def Tgt.set : Tgt → D → DSt → Option DSt
  | .nm i, d, t => setV t i d
  | .tp is, .tup es, t => setVs t is es
  | .tp _, _, _ => none
  | .n2 i is, d, t => setN2 i is d t
theorem wipe_comm {σ : L2.St} {i : Nat} {x : Option V} : ∀ {vs : List Nat}, i ∉ vs → wipe (σ.set i x) vs = (wipe σ vs).set i x
  | [], _ => rfl
  | v :: vs, h => by
    simp only [List.mem_cons, not_or] at h
    unfold wipe
    rw [wipe_comm h.2, List.set_comm _ _ (by exact h.1)]
theorem wipe_set {σ : L2.St} {i : Nat} {x : Option V} : ∀ {vs : List Nat}, i ∈ vs → wipe (σ.set i x) vs = wipe σ vs
  | [], h => by cases h
  | v :: vs, h => by
    unfold wipe
    by_cases hv : i ∈ vs
    · rw [wipe_set hv]
    · have e : i = v := by
        rcases List.mem_cons.mp h with z | z
        · exact z
        · exact absurd z hv
      subst e
      rw [wipe_comm hv, List.set_set]
theorem wipe_idem {σ : L2.St} : ∀ {vs : List Nat}, wipe (wipe σ vs) vs = wipe σ vs := by
  have key : ∀ (ws vs : List Nat) (σ : L2.St), (∀ i ∈ ws, i ∈ vs) → wipe (wipe σ ws) vs = wipe σ vs := by
    intro ws
    induction ws with
    | nil => intro vs σ _; rfl
    | cons w ws ih =>
      intro vs σ h
      show wipe ((wipe σ ws).set w none) vs = _
      rw [wipe_set (h w (by simp)), ih vs σ fun i hi => h i (by simp [hi])]
  intro vs
  exact key vs vs σ fun _ h => h
def wipeD (t : DSt) : List Nat → DSt
  | [] => t
  | v :: vs => (wipeD t vs).set v none
section
variable {K : PySem.W.Frag} {p : List (List Addr)} {G H : Hp} {S : Sto}
theorem RelS.wipe {t : DSt} {σ : L2.St} {ow : List Addr} (r : RelS K p G S H t σ ow) : ∀ vs : List Nat, ∃ ow', (∀ a ∈ ow', a ∈ ow) ∧ RelS K p G S H (wipeD t vs) (L2.wipe σ vs) ow'
  | [] => ⟨ow, fun _ h => h, r⟩
  | v :: vs => by
    obtain ⟨ow1, k1, r1⟩ := RelS.wipe r vs
    show ∃ ow', _ ∧ RelS K p G S H ((wipeD t vs).set v none) ((L2.wipe σ vs).set v none) ow'
    by_cases hv : v < (wipeD t vs).length
    · obtain ⟨ow2, k2, r2⟩ := r1.set0 hv (s := none) (v := none) rfl
      exact ⟨ow2, fun a ha => k1 a (k2 a ha), r2⟩
    · have e1 : (wipeD t vs).set v none = wipeD t vs := List.set_eq_of_length_le (by omega)
      have e2 : (L2.wipe σ vs).set v none = L2.wipe σ vs := List.set_eq_of_length_le (by rw [r1.sl.len]; omega)
      rw [e1, e2]
      exact ⟨ow1, k1, r1⟩
theorem setV_ok {t t' : DSt} {σ : L2.St} {ow : List Addr} {i : Nat} {d : D} {v : V} (r : RelS K p G S H t σ ow) (dn : Den K p G d v) (e : setV t i d = some t') : ∃ ow', (∀ a ∈ ow', a ∈ ow) ∧ RelS K p G S H t' (σ.set i (some v)) ow' := by
  unfold setV at e
  by_cases hi : i < t.length
  · rw [if_pos hi] at e
    cases e
    exact r.set0 hi (s := some (.val d)) (v := some v) ⟨rfl, v, rfl, dn⟩
  · rw [if_neg hi] at e
    cases e
theorem gNs_ok {Q : L2.St → Hp → Prop} : ∀ {is : List Nat} {ds : List D} {vs : List V} {t t' : DSt} {σ : L2.St} {ow : List Addr}, RelS K p G S H t σ ow → DenL K p G ds vs → setVs t is ds = some t' →
    (∀ σ' ow', (∀ a ∈ ow', a ∈ ow) → RelS K p G S H t' σ' ow' → (∀ ws, (∀ i ∈ is, i ∈ ws) → L2.wipe σ' ws = L2.wipe σ ws) → Q σ' H) → gNs is vs σ H Q
  | [], [], vs, t, t', σ, ow, r, dn, e, k => by
    cases (show vs = [] from dn)
    cases e
    exact ⟨rfl, k σ ow (fun _ h => h) r fun _ _ => rfl⟩
  | [], _ :: _, _, _, _, _, _, _, _, e, _ => by cases e
  | _ :: _, [], _, _, _, _, _, _, _, e, _ => by cases e
  | i :: is, d :: ds, vs, t, t', σ, ow, r, dn, e, k => by
    obtain ⟨v, vr, rfl, h2, h3⟩ := dn
    obtain ⟨t1, e1, e2⟩ := Option.bind_eq_some_iff.mp (show (setV t i d).bind (fun t' => setVs t' is ds) = some t' from e)
    obtain ⟨ow1, k1, r1⟩ := setV_ok r h2 e1
    refine ⟨v, vr, rfl, ?_⟩
    show gNs is vr (σ.set i (some v)) H Q
    refine gNs_ok r1 h3 e2 fun σ' ow' k2 r2 hw => k σ' ow' (fun a ha => k1 a (k2 a ha)) r2 fun ws hs => ?_
    rw [hw ws fun j hj => hs j (by simp [hj]), wipe_set (hs i (by simp))]
theorem setVs_len : ∀ {is : List Nat} {ds : List D} {t t' : DSt}, setVs t is ds = some t' → ds.length = is.length
  | [], [], _, _, _ => rfl
  | [], _ :: _, _, _, e => by cases e
  | _ :: _, [], _, _, e => by cases e
  | i :: is, d :: ds, t, t', e => by
    obtain ⟨t1, e1, e2⟩ := Option.bind_eq_some_iff.mp (show (setV t i d).bind (fun t' => setVs t' is ds) = some t' from e)
    rw [List.length_cons, List.length_cons, setVs_len e2]
theorem set_n2 {i : Nat} {is : List Nat} {d : D} {t t' : DSt} (e : (Tgt.n2 i is).set d t = some t') : ∃ x es t1, d = .tup [x, .tup es] ∧ setV t i x = some t1 ∧ setVs t1 is es = some t' := by
  have e : setN2 i is d t = some t' := e
  unfold setN2 at e
  split at e
  · obtain ⟨t1, e1, e2⟩ := Option.bind_eq_some_iff.mp e
    exact ⟨_, _, t1, rfl, e1, e2⟩
  · cases e
theorem Tgt.ok {Q : L2.St → Hp → Prop} {T : Tgt} {d : D} {v : V} {t t' : DSt} {σ : L2.St} {ow : List Addr} (r : RelS K p G S H t σ ow) (dn : Den K p G d v) (e : T.set d t = some t')
    (k : ∀ σ' ow', (∀ a ∈ ow', a ∈ ow) → RelS K p G S H t' σ' ow' → (∀ ws, (∀ i ∈ T.slots, i ∈ ws) → L2.wipe σ' ws = L2.wipe σ ws) → Q σ' H) : T.tg K v σ H Q := by
  cases T with
  | nm i =>
    obtain ⟨ow', k1, r1⟩ := setV_ok r dn e
    exact k _ ow' k1 r1 fun ws hs => wipe_set (hs i (by simp [Tgt.slots]))
  | tp is =>
    cases d with
    | tup es =>
      obtain ⟨a, vs, rfl, ha, hv⟩ := dn
      refine ⟨a, vs, rfl, SqT.mono r.rel.sub ha, by rw [hv.length]; exact setVs_len e, ?_⟩
      exact gNs_ok r hv e k
    | _ => cases e
  | n2 i is =>
    obtain ⟨x, es, t1, rfl, e1, e2⟩ := set_n2 e
    obtain ⟨a, vs, rfl, ha, hv⟩ := dn
    obtain ⟨v1, vr1, rfl, d1, hv⟩ := hv
    obtain ⟨v2, vr2, rfl, d2, hv⟩ := hv
    have hv : vr2 = [] := hv
    subst hv
    obtain ⟨ow1, k1, r1⟩ := setV_ok r d1 e1
    obtain ⟨b, ws, rfl, hb, hw⟩ := d2
    refine ⟨a, [v1, .ref b], rfl, SqT.mono r.rel.sub ha, rfl, ?_⟩
    refine ⟨v1, [.ref b], rfl, ?_⟩
    refine ⟨.ref b, [], rfl, ?_⟩
    refine ⟨b, ws, rfl, SqT.mono r.rel.sub hb, by rw [hw.length]; exact setVs_len e2, ?_⟩
    refine gNs_ok r1 hw e2 fun σ' ow' k2 r2 hwp => ?_
    refine ⟨rfl, k σ' ow' (fun a ha => k1 a (k2 a ha)) r2 fun ws hs => ?_⟩
    rw [hwp ws fun j hj => hs j (by simp [Tgt.slots, hj]), wipe_set (hs i (by simp [Tgt.slots]))]
end
section
variable {X : Cx} {W : Wf} {tg : Expr} {pos : Pos}
theorem dg_tgt {T : Tgt} (h : PG X tg (T.tg X.K)) : DG X W tg T.set := by
  refine PG.imp h fun v σ H Q ⟨n, d, t, p, G, S, ow, r, dn, t', e, h⟩ => ?_
  exact Tgt.ok r.rs dn e fun σ' ow' k r' _ => h p G H σ' ow' ⟨r', r.ext, fun a ha => r.own a (k a ha), r.fp, r.fg⟩
theorem okR.noE {α β : Type} {R : List (List Addr) → Hp → α → β → Prop} {K : PySem.W.Frag} {p : List (List Addr)} {G H : Hp} {W W' : Value → Option Addr → Hp → Prop} {m : M α} {S : Sto} {Q : β → Hp → Prop} (h : okR R K p G H W (RM.noE m S) Q) : okR R K p G H W' (m S) Q := by
  unfold RM.noE at h
  cases e : m S with
  | ok d S1 =>
    rw [e] at h
    exact h
  | exc z S1 =>
    rw [e] at h
    exact h.elim
  | stuck =>
    rw [e] at h
    exact h
def okF (K : PySem.W.Frag) (p : List (List Addr)) (G H : Hp) (W : Value → Option Addr → Hp → Prop) (r : Res (List D)) (Q : VK) : Prop := match r with
  | .ok xs S' => ∀ a vs p' G' H', H a = none → H' a = some (.lst vs) → DenL K p' G' xs vs → G' a = none → a ∉ p'.flatten → Rel0 K p' S' G' H' → Ext p G H p' G' H' → Q (.ref a) H'
  | .exc e S' => ∀ cls dd p' G' H', ExcAt K p' G' e cls dd → Rel0 K p' S' G' H' → Ext p G H p' G' H' → W cls dd H'
  | .stuck => False
theorem okF.ext {K : PySem.W.Frag} {p p1 : List (List Addr)} {G H G1 H1 : Hp} {W : Value → Option Addr → Hp → Prop} {r : Res (List D)} {Q : VK} (h : okF K p G H W r Q) (e : Ext p G H p1 G1 H1) : okF K p1 G1 H1 W r Q := by
  cases r with
  | ok d S' =>
    refine fun a vs p' G' H' h0 a1 a2 a3 a4 b c => h a vs p' G' H' ?_ a1 a2 a3 a4 b (e.trans c)
    cases q : H a with
    | none => rfl
    | some o => exact absurd h0 (e.d a (by rw [q]; simp))
  | exc x S' => exact fun cls dd p' G' H' a b c => h cls dd p' G' H' a b (e.trans c)
  | stuck => exact h
theorem okF.seq {α β : Type} {R1 : List (List Addr) → Hp → α → β → Prop} {K : PySem.W.Frag} {p : List (List Addr)} {G H : Hp} {W : Value → Option Addr → Hp → Prop} {Q : VK} {S : Sto} {m : M α} {f : α → M (List D)} {Q1 : β → Hp → Prop} (h : okF K p G H W ((m >>= f) S) Q)
    (k : ∀ d S1 v p1 G1 H1, m S = .ok d S1 → R1 p1 G1 d v → Rel0 K p1 S1 G1 H1 → Ext p G H p1 G1 H1 → okF K p1 G1 H1 W (f d S1) Q → Q1 v H1) : okR R1 K p G H W (m S) Q1 := by
  have h' : okF K p G H W ((m S).andThen f) Q := h
  cases e : m S with
  | ok d S1 =>
    rw [e] at h'
    exact fun v p1 G1 H1 a b c => k d S1 v p1 G1 H1 e a b c (okF.ext h' c)
  | exc x S1 =>
    rw [e] at h'
    exact h'
  | stuck =>
    rw [e] at h'
    exact h'
theorem okR.toF {K : PySem.W.Frag} {p : List (List Addr)} {G H : Hp} {W : Value → Option Addr → Hp → Prop} {Q : VK} {S : Sto} {m : M (List D)} (h : okR (Den K) K p G H W ((do let xs ← m; pure (D.lst xs) : M D) S) Q) : okF K p G H W (m S) Q := by
  have h' : okR (Den K) K p G H W ((m S).andThen fun xs => pure (D.lst xs)) Q := h
  cases e : m S with
  | ok xs S1 =>
    rw [e] at h'
    intro a vs p' G' H' h0 h1 h2 h3 h4 r x
    refine h' (.ref a) p' (upd G' a (.lst vs)) H' ⟨a, vs, rfl, upd_same, h2.upd h3⟩ ⟨fun b o e => ?_, r.len, fun i as o e1 e2 => (r.mo i as o e1 e2).ice (Same.upd_of h3), r.nd, fun b hb => ?_⟩ ⟨x.g.trans (Same.upd_of h3), fun b hb1 hb2 => ?_, x.h, x.d, x.p⟩
    · by_cases q : b = a
      · subst q; rw [upd_same] at e; cases e; exact h1
      · rw [upd_ne q] at e; exact r.sub b o e
    · have : b ≠ a := by rintro rfl; exact h4 hb
      rw [upd_ne this]; exact r.gn b hb
    · have : b ≠ a := by rintro rfl; exact hb2 h0
      rw [upd_ne this]; exact x.gn b hb1 hb2
  | exc z S1 =>
    rw [e] at h'
    exact h'
  | stuck =>
    rw [e] at h'
    exact h'
def tDF (K : PySem.W.Frag) (W : WX) (m : DSt → M (List D)) : TE := fun σ H Q => ∃ t p G S ow, RelS K p G S H t σ ow ∧ okF K p G H (fun c d H' => W c d σ H') (m t S) Q
abbrev DF (X : Cx) (W : WX) (e : Expr) (m : DSt → M (List D)) : Prop := PE X e (tDF X.K W m)
theorem DF.de {V : WX} {e : Expr} {m : DSt → M (List D)} (h : DF X V e m) : DE X V e (fun t => do let xs ← m t; pure (.lst xs)) :=
  PE.imp h fun σ H Q ⟨t, p, G, S, ow, r, q⟩ => ⟨t, p, G, S, ow, r, okR.toF q⟩
theorem okF.noE {K : PySem.W.Frag} {p : List (List Addr)} {G H : Hp} {W W' : Value → Option Addr → Hp → Prop} {m : M (List D)} {S : Sto} {Q : VK} (h : okF K p G H W (RM.noE m S) Q) : okF K p G H W' (m S) Q := by
  unfold RM.noE at h
  cases e : m S with
  | ok d S1 =>
    rw [e] at h
    exact h
  | exc z S1 =>
    rw [e] at h
    exact h.elim
  | stuck =>
    rw [e] at h
    exact h
end
end RM

namespace RM
open PySem PySem.Spec PyProof.Rows L2
variable [PgW]

structure FnG (P : Program) (w : World) (K : PySem.W.Frag) (mg : Str → Option Value) (base : Heap) (k : Nat) (f : Addr) (fd : FuncData) (ps : List Str) (sp : Sp) : Prop where
  arity : ∀ vs H Q E, sp vs H Q E → vs.length = ps.length
  go : ∀ (A : Around) (fr : List Env) (s : Shared) (H : Hp) (ar : Args) (us : List Value) (vs : List V) (Q : VK) (E : XK), A.guards = some [] → Room k A →
    Env0 P w K mg base A fr s H → BindsTo s fd ar (ps.zip us) → Vals vs us → sp vs H Q E → codeAny (model P w) A (.call (.ref f) ar) (CR (L2.CX P w) fr P w H s Q E) s
theorem FnG.up {P : Program} {w : World} {K : PySem.W.Frag} {mg : Str → Option Value} {base : Heap} {j k : Nat} {f : Addr} {fd : FuncData} {ps : List Str} {sp : Sp} (F : FnG P w K mg base j f fd ps sp) (h : j ≤ k) : FnG P w K mg base k f fd ps sp :=
  ⟨F.arity, fun A fr s H ar us vs Q E g r => F.go A fr s H ar us vs Q E g (r.mono h)⟩
section
variable {P : Program} {w : World} {K : PySem.W.Frag} {mg : Str → Option Value} {base : Heap} {x qual : Str} {params : Arguments} {body : List Stmt} {scope : Scope} {dvs : List V} {kws : List (Str × V)} {f : Addr} {fd : FuncData}
theorem fnG_of {N ps : List Str} {k : Nat} {sp : Sp} (F : FunD K x qual params body scope dvs kws f fd) (S : FnScope N ps scope) (ar : ∀ vs H Q E, sp vs H Q E → vs.length = ps.length)
    (hb : ∀ (cdv : Value) (A : Around) (fr : List Env) (s : Shared) (H : Hp) (vs : List V) (Q : VK) (E : XK), (A.deeper (envOfC qual scope s.heap.objs.size f cdv)).guards = some [] → Room k (A.deeper (envOfC qual scope s.heap.objs.size f cdv)) → sp vs H Q E →
      ∃ t, PSs (cxOf (L2.CX P w) P w K mg base N qual scope f cdv A fr s H E) body t ∧ t { nx := fun _ H' => Q .non H', rt := Q } (L2.start N vs) H) : FnG P w K mg base (k + 1) f fd ps sp := by
  obtain ⟨oc, od, dV, kV, doc, pm, an, cdv, ct, osl, rfl, lk, hcd, _, _⟩ := F.ex
  refine ⟨ar, fun A fr s H arg us vs Q E hG hr e0 bd r hsp => ?_⟩
  have kin : K.In s.heap := e0.mod.kin.keeps fun b o e => (e0.bs b o e).1
  have nol : s.heap.NoLimit := e0.mod.nolimit.keeps fun b o e => (e0.bs b o e).1
  have kinds : ∀ z ∈ ps.zip us, scope.names.lookup z.1 = some .local ∨ (scope.names.lookup z.1 = some .cell ∧ ((cellsFrom (s.heap.objs.size + 1) scope.names []).lookup z.1).isSome = true) := by
    intro ⟨n, v⟩ hz
    have hn := (List.of_mem_zip hz).1
    cases S.par n hn with
    | inl q => exact Or.inl q
    | inr q => exact Or.inr ⟨q, PySem.W.cellsFrom_some _ _ _ (.inl q)⟩
  refine codeAny_call_function hr.depth (kin _ _ lk) rfl S.co S.gen rfl (PySem.W.codeRec_of kin hcd) (bd _ _ _ _ ?_)
  refine wpAny_newFunctionEnv_cells S.kind kinds fun env henv s1 inc => ?_
  subst henv
  refine ⟨nol.keeps inc.toInCall.keep, codeAny_func ?_⟩
  obtain ⟨t, ht, hq⟩ := hb cdv A fr s H vs Q E hG (hr.deeper _) hsp
  have I0 := inv_start (CX := L2.CX P w) (E := E) S hr.hd e0 (ar _ _ _ _ hsp) r inc
  refine wpAny_mono (ht.run [] s1 _ H _ I0 hq) (fun fl s2 q => ?_) fun e s2 q => q
  match fl, q with
  | .ret u, ⟨v, σ2, H2, J, rv, q⟩ => exact ⟨v, H2, J.os, J.bare, J.base, J.hok, rv, q⟩
  | .next, ⟨σ2, H2, J, q⟩ => exact ⟨.non, H2, J.os, J.bare, J.base, J.hok, rfl, q⟩
  | .brk, ⟨_, _, _, q⟩ => exact False.elim q
  | .cont, ⟨_, _, _, q⟩ => exact False.elim q
abbrev FnD (P : Program) (w : World) (K : PySem.W.Frag) (mg : Str → Option Value) (base : Heap) (k : Nat) (f : Addr) (fd : FuncData) (ps : List Str) (g : List D → M D) : Prop := FnG P w K mg base k f fd ps (spD K ps.length g)
structure BodyX (X : Cx) (k : Nat) (W : Wf) : Prop where
  room : Room k X.A
  gd : X.A.guards = some []
  tk : Takes X W.x
  po : PassesOwn (model X.prog X.w) X.A X.env X.xe
  calm : X.calm = true
theorem fnD_of {N ps : List Str} {k : Nat} {m : DSt → M Ctl} {g : List D → M D} (F : FunD K x qual params body scope dvs kws f fd) (S : FnScope N ps scope)
    (hb : ∀ (cdv : Value) (A : Around) (fr : List Env) (s : Shared) (H : Hp) (E : XK), BodyX (cxOf (L2.CX P w) P w K mg base N qual scope f cdv A fr s H E) k E → DSs (cxOf (L2.CX P w) P w K mg base N qual scope f cdv A fr s H E) E body m)
    (hg : g = runB N.length m) : FnD P w K mg base (k + 1) f fd ps g := by
  refine fnG_of F S (fun vs H Q E h => spD.len vs H Q _ h) fun cdv A fr s H vs Q E hG hr h => ?_
  obtain ⟨ds, p, G, St, e, dn, r, h⟩ := h
  refine ⟨_, hb cdv A fr s H E ⟨hr, hG, takes_of rfl rfl rfl rfl, passes_of rfl, rfl⟩, ?_⟩
  rw [hg] at h
  exact tDS.enter dn r h
end
section
variable {X : Cx} {W : WX} {a b c : Expr} {es : List Expr} {kw : List Keyword} {ma mb mc : DSt → M D} {ms mk : DSt → M (List D)} {pos p : Pos} {k : Nat} {f : Addr} {fd : FuncData} {ps ks : List Str} {g : List D → M D} {x : Str} {dvs : List V} {ds : List Value} {dds : List D} {sp : Sp}
theorem run_G {pins : List (Addr × Obj)} {σ : L2.St} {H : Hp} {s : Shared} {Q : VK} {ar : Args} {us : List Value} {vs : List V} (F : FnG X.prog X.w X.K X.mg X.base k f fd ps sp) (hr : Room k X.A) (hG : X.A.guards = some []) (tk : Takes X W)
    (I : Inv X pins σ H s) (bd : BindsTo s fd ar (ps.zip us)) (r : Vals vs us) (h : sp vs H Q fun c d H' => W c d σ H') : codeAny (model X.prog X.w) X.A (.call (.ref f) ar) (fun r s' => match r with
      | .ok (.ret u) => EP X pins σ Q u s'
      | .ok _ => False
      | .error e => X.xe e s') s := by
  refine codeAny_mono (F.go X.A X.stack s H ar us vs Q _ hG hr I.env0 bd r h) fun r s2 q => ?_
  match r, q with
  | .error e, q => exact tk e s2 (XE.of_call I (fun _ _ _ z => z) q)
  | .ok (.ret u), q => exact I.after q
  | .ok .next, q => exact False.elim q
  | .ok .brk, q => exact False.elim q
  | .ok .cont, q => exact False.elim q
theorem call_G {pins : List (Addr × Obj)} {σ : L2.St} {H : Hp} {s : Shared} {Q : VK} {us : List Value} {kv : List (Str × Value)} {zs : List Value} {vs : List V} (F : FnG X.prog X.w X.K X.mg X.base k f fd ps sp) (hr : Room k X.A) (hG : X.A.guards = some []) (tk : Takes X W)
    (I : Inv X pins σ H s) (bd : BindsTo s fd ⟨us, kv⟩ (ps.zip zs)) (r : Vals vs zs) (h : sp vs H Q fun c d H' => W c d σ H') : wpAny (model X.prog X.w) X.A (call (.ref f) us kv) (EP X pins σ Q) X.xe s := by
  refine wpAny_call (codeAny_mono (run_G F hr hG tk I bd r h) fun r s2 q => ?_)
  match r, q with
  | .error e, q => exact q
  | .ok (.ret u), q => exact q
  | .ok .next, q => exact False.elim q
  | .ok .brk, q => exact False.elim q
  | .ok .cont, q => exact False.elim q
theorem de_call (F : FnD X.prog X.w X.K X.mg X.base k f fd ps g) (hr : Room k X.A) (hG : X.A.guards = some []) (tk : Takes X W) (hg : Gl X x) (hm : X.mg x = some (.ref f)) (hk : PySem.W.keepIn X.K (.ref f) = true) (hb : Binds X.K fd ps ds) (hd : Vals dvs ds) (hdd : ∀ q G, DenL X.K q G dds dvs)
    (ha : DA X W (a :: es) ms) (hdb : (x == ("__debug__" : Str)) = false := by decide) (he : starEach (a :: es) X.env = (false, eval a X.env) :: starEach es X.env := by rfl) (hpl : (backTo pos (starEach es X.env)).any (·.1) = false := by rfl) :
    DE X W (.Call (.Name x p) (a :: es) [] pos) (fun t => do let xs ← ms t; argsD ps.length g (xs ++ dds)) := by
  refine ⟨fun pins s σ H Q I ⟨t, q, G, S, ow, r, h⟩ => ?_⟩
  refine wpAny_Call_Name_kw (ld_glob I hg hm (PySem.W.callWith_K (h₀ := X.base) I.ok.mod.kin hk ?_ he hpl) hdb)
  refine thn (ha.run pos pins s σ H (fun vs H1 => spD X.K ps.length g (vs ++ dvs) H1 Q fun c d H' => W c d σ H') I ⟨t, q, G, S, ow, r, okR.seq h fun d S1 v p1 G1 H1 e1 dn r1 x1 h1 => ?_⟩) fun us s1 ⟨vs, H1, I1, rv, q1⟩ => ⟨I1.kIn, ?_⟩
  · obtain ⟨e, h2⟩ := okR.args h1
    exact ⟨d ++ dds, p1, G1, S1, e, dn.append (hdd p1 G1), r1, h2⟩
  · have r2 := rv.append hd
    exact call_G F hr hG tk I1 (hb s1 us I1.kIn (by rw [← r2.length]; exact F.arity _ _ _ _ q1)) r2 q1
theorem de_call0 (F : FnD X.prog X.w X.K X.mg X.base k f fd ps g) (hr : Room k X.A) (hG : X.A.guards = some []) (tk : Takes X W) (hg : Gl X x) (hm : X.mg x = some (.ref f)) (hk : PySem.W.keepIn X.K (.ref f) = true) (hb : Binds X.K fd ps ds) (hd : Vals dvs ds) (hdd : ∀ q G, DenL X.K q G dds dvs)
    (hdb : (x == ("__debug__" : Str)) = false := by decide) : DE X W (.Call (.Name x p) [] [] pos) (fun _ => argsD ps.length g dds) := by
  refine ⟨fun pins s σ H Q I ⟨t, q, G, S, ow, r, h⟩ => ?_⟩
  refine wpAny_Call_Name_kw (ld_glob I hg hm (PySem.W.callWith_K0 I.kIn hk ?_) hdb)
  obtain ⟨e, h2⟩ := okR.args h
  have q1 : spD X.K ps.length g dvs H Q fun c d H' => W c d σ H' := ⟨dds, q, G, S, e, hdd q G, r.rel, h2⟩
  exact call_G (us := []) F hr hG tk I (hb s [] I.kIn (by rw [List.nil_append, ← hd.length]; exact F.arity _ _ _ _ q1)) hd q1
abbrev DK (X : Cx) (W : WX) (kw : List Keyword) (m : DSt → M (List D)) : Prop := PK X kw (tDA X.K W m)
theorem PK.imp {t t' : TA} (h : PK X kw t) (k : ∀ σ H Q, t' σ H Q → t σ H Q) : PK X kw t' := ⟨fun pos pins s σ H Q I q => h.run pos pins s σ H Q I (k _ _ _ q)⟩
def argsK (n m l : Nat) (ar : {α : Type} → List α → List α → List α → List α) (dds : List D) (g : List D → M D) (xs ys : List D) : M D := if xs.length = n ∧ ys.length = m then argsD l g (ar xs ys dds) else stuck
theorem okR.argsK {K : PySem.W.Frag} {q : List (List Addr)} {G H : Hp} {S : Sto} {Q : VK} {xs ys : List D} {n m l : Nat} {ar : {α : Type} → List α → List α → List α → List α} {W : Value → Option Addr → Hp → Prop} (h : okR (Den K) K q G H W (argsK n m l ar dds g xs ys S) Q) :
    xs.length = n ∧ ys.length = m ∧ (ar xs ys dds).length = l ∧ okR (Den K) K q G H W (g (ar xs ys dds) S) Q := by
  unfold RM.argsK at h
  by_cases e : xs.length = n ∧ ys.length = m
  · rw [if_pos e] at h
    obtain ⟨e2, h2⟩ := okR.args h
    exact ⟨e.1, e.2, e2, h2⟩
  · rw [if_neg e] at h
    exact h.elim
variable {ar : {α : Type} → List α → List α → List α → List α} {n : Nat}
end
end RM

namespace RM
open PySem PySem.Spec PyProof.Rows L2
variable [PgW]

def toBools : List D → Option (List Bool)
  | [] => some []
  | .bl b :: r => (toBools r).map (b :: ·)
  | _ :: _ => none
def toInts : List D → Option (List Int)
  | [] => some []
  | .int b :: r => (toInts r).map (b :: ·)
  | _ :: _ => none
def toStrs : List D → Option (List Str)
  | [] => some []
  | .str b :: r => (toStrs r).map (b :: ·)
  | _ :: _ => none
section
variable {K : PySem.W.Frag} {p : List (List Addr)} {G H : Hp}
theorem toBools_den : ∀ {ds : List D} {vs : List V} {bs : List Bool}, DenL K p G ds vs → toBools ds = some bs → vs = bs.map V.bl
  | [], _, _, h, e => by
    cases (show _ = [] from h); cases e; rfl
  | .bl b :: r, _, _, ⟨v, w, h1, h2, h3⟩, e => by
    obtain ⟨cs, e1, e2⟩ := Option.map_eq_some_iff.mp (show (toBools r).map (b :: ·) = some _ from e)
    subst e2
    cases (show v = _ from h2)
    rw [h1, toBools_den h3 e1]
    rfl
  | .non :: _, _, _, _, e => by cases e
  | .int _ :: _, _, _, _, e => by cases e
  | .str _ :: _, _, _, _, e => by cases e
  | .tup _ :: _, _, _, _, e => by cases e
  | .lst _ :: _, _, _, _, e => by cases e
  | .ins _ _ _ :: _, _, _, _, e => by cases e
  | .mref _ :: _, _, _, _, e => by cases e
  | .dic _ _ :: _, _, _, _, e => by cases e
  | .scr _ :: _, _, _, _, e => by cases e
  | .xcp _ _ _ :: _, _, _, _, e => by cases e
  | .dct _ _ :: _, _, _, _, e => by cases e
theorem toInts_den : ∀ {ds : List D} {vs : List V} {bs : List Int}, DenL K p G ds vs → toInts ds = some bs → vs = bs.map V.int
  | [], _, _, h, e => by
    cases (show _ = [] from h); cases e; rfl
  | .int b :: r, _, _, ⟨v, w, h1, h2, h3⟩, e => by
    obtain ⟨cs, e1, e2⟩ := Option.map_eq_some_iff.mp (show (toInts r).map (b :: ·) = some _ from e)
    subst e2
    cases (show v = _ from h2)
    rw [h1, toInts_den h3 e1]
    rfl
  | .non :: _, _, _, _, e => by cases e
  | .bl _ :: _, _, _, _, e => by cases e
  | .str _ :: _, _, _, _, e => by cases e
  | .tup _ :: _, _, _, _, e => by cases e
  | .lst _ :: _, _, _, _, e => by cases e
  | .ins _ _ _ :: _, _, _, _, e => by cases e
  | .mref _ :: _, _, _, _, e => by cases e
  | .dic _ _ :: _, _, _, _, e => by cases e
  | .scr _ :: _, _, _, _, e => by cases e
  | .xcp _ _ _ :: _, _, _, _, e => by cases e
  | .dct _ _ :: _, _, _, _, e => by cases e
end
def lenD : List D → M D
  | [.lst xs] => pure (.int xs.length)
  | [.tup xs] => pure (.int xs.length)
  | [.str x] => if x.length ≤ sizeLine then pure (.int x.length) else stuck
  | [.scr ns] => pure (.int ns.length)
  | _ => stuck
def intD : List D → M D
  | [.int i] => pure (.int i)
  | _ => stuck
def allD : List D → M D
  | [.lst xs] => match toBools xs with
    | some bs => pure (.bl (bs.all id))
    | none => stuck
  | _ => stuck
def leastI : Int → List Int → Int
  | a, [] => a
  | a, b :: r => leastI (if b < a then b else a) r
def mostI : Int → List Int → Int
  | a, [] => a
  | a, b :: r => mostI (if b > a then b else a) r
def minD : List D → M D
  | [.int i, .int j] => pure (.int (if j < i then j else i))
  | [.lst xs] => match toInts xs with
    | some (n :: ns) => pure (.int (leastI n ns))
    | _ => stuck
  | _ => stuck
def maxD : List D → M D
  | [.int i, .int j] => pure (.int (if j > i then j else i))
  | [.lst xs] => match toInts xs with
    | some (n :: ns) => pure (.int (mostI n ns))
    | _ => stuck
  | _ => stuck
def tupleD : List D → M D
  | [.lst xs] => pure (.tup xs)
  | [.tup xs] => pure (.tup xs)
  | _ => stuck
def listD : List D → M D
  | [.lst xs] => pure (.lst xs)
  | [.tup xs] => pure (.lst xs)
  | _ => stuck
theorem leastI_of {m : Int} : ∀ (ns : List Int) (n : Int), m ∈ n :: ns → (∀ y ∈ n :: ns, m ≤ y) → m = leastI n ns
  | [], n, h, _ => by
    rcases List.mem_cons.mp h with z | z
    · exact z
    · cases z
  | b :: r, n, h, k => by
    unfold leastI
    refine leastI_of r _ ?_ fun y hy => ?_
    · have h1 := k n (by simp)
      have h2 := k b (by simp)
      rcases List.mem_cons.mp h with z | z
      · by_cases q : b < n
        · omega
        · rw [if_neg q, z]; simp
      · rcases List.mem_cons.mp z with z | z
        · by_cases q : b < n
          · rw [if_pos q, z]; simp
          · rw [if_neg q]
            have : m = n := by omega
            rw [this]; simp
        · exact List.mem_cons_of_mem _ z
    · rcases List.mem_cons.mp hy with z | z
      · rw [z]
        split
        · exact k b (by simp)
        · exact k n (by simp)
      · exact k y (by simp [z])
section
variable {K : PySem.W.Frag}
theorem by_len : ByA K (fun xs H Q => ∃ x n, xs = [x] ∧ LenV K x H n ∧ Q (.int n) H) lenD := by
  intro ds vs p G H S W Q hd r h
  unfold lenD at h
  split at h
  · obtain ⟨v, rfl, a, us, rfl, ha, hv⟩ := denL1 hd
    exact ⟨_, _, rfl, .inl ⟨us, SqL.of (r.sub _ _ ha), rfl⟩, okR.fin (v := V.int us.length) h (by rw [hv.length]; rfl) r⟩
  · obtain ⟨v, rfl, a, us, rfl, ha, hv⟩ := denL1 hd
    exact ⟨_, _, rfl, .inr ⟨us, SqT.mono r.sub ha, rfl⟩, okR.fin (v := V.int us.length) h (by rw [hv.length]; rfl) r⟩
  · rename_i x
    obtain ⟨v, rfl, hv⟩ := denL1 hd
    cases (show v = _ from hv)
    by_cases hz : x.length ≤ sizeLine
    · rw [if_pos hz] at h
      exact ⟨_, _, rfl, ⟨hz, rfl⟩, okR.fin (v := V.int x.length) h rfl r⟩
    · rw [if_neg hz] at h
      exact h.elim
  · rename_i ns
    obtain ⟨v, rfl, a, rfl, ha⟩ := denL1 hd
    exact ⟨_, _, rfl, .inl ⟨_, r.sub.seq ha, rfl⟩, okR.fin (v := V.int _) h (by rw [List.length_map]; rfl) r⟩
  · exact h.elim
theorem by_int : ByA K (fun xs H Q => (∃ i, xs = [.int i] ∧ Q (.int i) H) ∨ ∃ k, xs = [.bl k] ∧ Q (.int (if k then 1 else 0)) H) intD := by
  intro ds vs p G H S W Q hd r h
  unfold intD at h
  split at h
  · rename_i i
    obtain ⟨v, rfl, hv⟩ := denL1 hd
    cases (show v = _ from hv)
    exact .inl ⟨i, rfl, okR.fin (v := V.int _) h rfl r⟩
  · exact h.elim
theorem by_all : ByA K (rAll K) allD := by
  intro ds vs p G H S W Q hd r h
  unfold allD at h
  split at h
  · rename_i xs
    obtain ⟨v, rfl, a, us, rfl, ha, hv⟩ := denL1 hd
    cases e : toBools xs with
    | none => rw [e] at h; exact h.elim
    | some bs =>
      rw [e] at h
      rw [toBools_den hv e] at ha
      exact ⟨a, bs, rfl, SqL.of (r.sub _ _ ha), okR.fin (v := V.bl _) h rfl r⟩
  · exact h.elim
theorem by_min : ByA K (fun xs H Q => (∃ i j, xs = [.int i, .int j] ∧ Q (.int (if j < i then j else i)) H) ∨ rMin K xs H Q) minD := by
  intro ds vs p G H S W Q hd r h
  unfold minD at h
  split at h
  · rename_i i j
    obtain ⟨v, u, rfl, h1, h2⟩ := denL2 hd
    cases (show v = _ from h1)
    cases (show u = _ from h2)
    exact .inl ⟨i, j, rfl, okR.fin (v := V.int _) h rfl r⟩
  · rename_i xs
    obtain ⟨v, rfl, a, us, rfl, ha, hv⟩ := denL1 hd
    cases e : toInts xs with
    | none => rw [e] at h; exact h.elim
    | some ns =>
      rw [e] at h
      cases ns with
      | nil => exact h.elim
      | cons n ns =>
        rw [toInts_den hv e] at ha
        refine .inr ⟨a, n :: ns, rfl, SqL.of (r.sub _ _ ha), by simp, fun m h1 h2 => ?_⟩
        rw [leastI_of ns n h1 h2]
        exact okR.fin (v := V.int _) h rfl r
  · exact h.elim
theorem by_tuple : ByA K (fun xs H Q => ∃ p ys, xs = [.ref p] ∧ ((SqL K H p ys ∧ ∀ l, H l = none → Q (.ref l) (upd H l (.tup ys))) ∨ (SqT K H p ys ∧ Q (.ref p) H))) tupleD := by
  intro ds vs p G H S W Q hd r h
  unfold tupleD at h
  split at h
  · obtain ⟨v, rfl, a, us, rfl, ha, hv⟩ := denL1 hd
    exact ⟨a, us, rfl, .inl ⟨SqL.of (r.sub _ _ ha), fun l hl => okR.tup h r hl hv⟩⟩
  · obtain ⟨v, rfl, a, us, rfl, ha, hv⟩ := denL1 hd
    exact ⟨a, us, rfl, .inr ⟨SqT.mono r.sub ha, okR.fin h ⟨a, us, rfl, ha, hv⟩ r⟩⟩
  · exact h.elim
end
section
variable {X : Cx} {W : WX} {a b : Expr} {es : List Expr} {ma mb : DSt → M D} {ms : DSt → M (List D)} {pos p : Pos}
theorem CallR.or {f : Value} {r r' : List V → Hp → VK → Prop} (h : CallR X f r) (h' : CallR X f r') : CallR X f (fun xs H Q => r xs H Q ∨ r' xs H Q) := by
  intro pins s σ H xs us Q I rv q
  rcases q with q | q
  · exact h pins s σ H xs us Q I rv q
  · exact h' pins s σ H xs us Q I rv q
theorem de_len (hg : Gl X "len") (hm : X.mg "len" = none) (ha : DA X W [a] ms) (he : starEach [a] X.env = [(false, eval a X.env)] := by rfl) : DE X W (.Call (.Name "len" p) [a] [] pos) (fun t => do let xs ← ms t; lenD xs) := de_callB call_len by_len hg hm boot_len ha (by decide) (by decide) he rfl
theorem de_int_ (hg : Gl X "int") (hm : X.mg "int" = none) (ha : DA X W [a] ms) (he : starEach [a] X.env = [(false, eval a X.env)] := by rfl) : DE X W (.Call (.Name "int" p) [a] [] pos) (fun t => do let xs ← ms t; intD xs) := de_callTy call_int1 by_int hg hm (by decide +kernel) ha (by decide) (by decide) he rfl
theorem de_all (hc : X.calm = true) (hg : Gl X "all") (hm : X.mg "all" = none) (ha : DA X W [a] ms) (he : starEach [a] X.env = [(false, eval a X.env)] := by rfl) : DE X W (.Call (.Name "all" p) [a] [] pos) (fun t => do let xs ← ms t; allD xs) := de_callB (cr_all hc) by_all hg hm (by decide +kernel) ha (by decide) (by decide) he rfl
theorem de_min (hc : X.calm = true) (hg : Gl X "min") (hm : X.mg "min" = none) (ha : DA X W (a :: es) ms) (he : starEach (a :: es) X.env = (false, eval a X.env) :: starEach es X.env := by rfl) (hpl : (backTo pos (starEach es X.env)).any (·.1) = false := by rfl) : DE X W (.Call (.Name "min" p) (a :: es) [] pos) (fun t => do let xs ← ms t; minD xs) :=
  de_callB ((call_min2 hc).or (cr_min hc)) by_min hg hm (by decide +kernel) ha (by decide) (by decide) he hpl
theorem de_tuple_ (hg : Gl X "tuple") (hm : X.mg "tuple" = none) (ha : DA X W [a] ms) (he : starEach [a] X.env = [(false, eval a X.env)] := by rfl) : DE X W (.Call (.Name "tuple" p) [a] [] pos) (fun t => do let xs ← ms t; tupleD xs) := de_callTy call_tuple_of by_tuple hg hm (by decide +kernel) ha (by decide) (by decide) he rfl
end
def idxD : D → D → M D
  | .lst xs, .int i => match atI xs i with
    | some d => pure d
    | none => stuck
  | .tup xs, .int i => match atI xs i with
    | some d => pure d
    | none => stuck
  | .str z, .int i => if z.length ≤ sizeLine then match atI z.cps.toList i with
      | some c => pure (.str ⟨#[c]⟩)
      | none => stuck
    else stuck
  | _, _ => stuck
theorem atI_den {K : PySem.W.Frag} {p : List (List Addr)} {G : Hp} {ds : List D} {vs : List V} {i : Int} {d : D} (h : DenL K p G ds vs) (e : atI ds i = some d) : ∃ v, atI vs i = some v ∧ Den K p G d v := by
  unfold atI at e ⊢
  obtain ⟨j, e1, e2⟩ := Option.bind_eq_some_iff.mp e
  obtain ⟨v, e3, e4⟩ := h.get e2
  exact ⟨v, by rw [h.length, e1]; exact e3, e4⟩
theorem by_idx {K : PySem.W.Frag} : By2 K (rIx K) idxD := by
  intro d e v u p G H S W Q hd he r h
  cases d <;> cases e <;> try exact h.elim
  · rename_i z i
    unfold idxD at h
    dsimp only at h
    split at h
    · rename_i hz
      cases q : atI z.cps.toList i with
      | none => rw [q] at h; exact h.elim
      | some c =>
        rw [q] at h
        exact .inr (.inr ⟨z, i, c, hd, he, hz, q, okR.fin (v := V.str _) h rfl r⟩)
    · exact h.elim
  · rename_i xs i
    unfold idxD at h
    dsimp only at h
    cases q : atI xs i with
    | none => rw [q] at h; exact h.elim
    | some c =>
      rw [q] at h
      obtain ⟨a, vs, rfl, ha, hv⟩ := hd
      obtain ⟨w, e1, e2⟩ := atI_den hv q
      exact .inr (.inl ⟨a, vs, i, w, rfl, he, SqT.mono r.sub ha, e1, okR.fin h e2 r⟩)
  · rename_i xs i
    unfold idxD at h
    dsimp only at h
    cases q : atI xs i with
    | none => rw [q] at h; exact h.elim
    | some c =>
      rw [q] at h
      obtain ⟨a, vs, rfl, ha, hv⟩ := hd
      obtain ⟨w, e1, e2⟩ := atI_den hv q
      exact .inl ⟨a, vs, i, w, rfl, he, SqL.of (r.sub _ _ ha), e1, okR.fin h e2 r⟩
def cutL {α : Type} (xs : List α) (lo hi : Option Int) : List α := (xs.drop (HT.sIx xs.length 0 lo)).take (HT.sIx xs.length xs.length hi - HT.sIx xs.length 0 lo)
def sliceD : D → Option Int → Option Int → M D
  | .lst xs, lo, hi => pure (.lst (cutL xs lo hi))
  | .tup xs, lo, hi => pure (.tup (cutL xs lo hi))
  | .str z, lo, hi => if z.length ≤ sizeLine then pure (.str (cutS z lo hi)) else stuck
  | _, _, _ => stuck
def partD : D → M (Option Int)
  | .int i => pure (some i)
  | _ => stuck
def rO : List (List Addr) → Hp → Option Int → Option Int → Prop := fun _ _ a b => a = b
def tDO (K : PySem.W.Frag) (W : WX) (m : DSt → M (Option Int)) : TO := fun σ H Q => ∃ t p G S ow, RelS K p G S H t σ ow ∧ okR rO K p G H (fun c d H' => W c d σ H') (m t S) Q
abbrev DO (X : Cx) (W : WX) (e : Option Expr) (m : DSt → M (Option Int)) : Prop := PO X e (tDO X.K W m)
section
variable {X : Cx} {W : WX} {a b e : Expr} {ma mb : DSt → M D} {ml mh : DSt → M (Option Int)} {lo hi : Option Expr} {pos p2 : Pos}
theorem PO.imp {e : Option Expr} {t t' : TO} (h : PO X e t) (k : ∀ σ H Q, t' σ H Q → t σ H Q) : PO X e t' := ⟨fun pins s σ H Q I q => h.run pins s σ H Q I (k _ _ _ q)⟩
theorem do_none : DO X W none (fun _ => pure none) := PO.imp po_none fun σ H Q ⟨t, p, G, S, ow, r, h⟩ => okR.fin (d := none) h rfl r.rel
theorem do_some (ha : DE X W a ma) : DO X W (some a) (fun t => do let x ← ma t; partD x) := by
  refine PO.imp (po_some ha) fun σ H Q ⟨t, p, G, S, ow, r, h⟩ => ?_
  refine ⟨t, p, G, S, ow, r, okR.seq h fun d S1 v p1 G1 H1 e1 dn r1 x1 h1 => ?_⟩
  cases d with
  | int i => exact ⟨i, dn, okR.fin (d := some i) h1 rfl r1⟩
  | _ => exact h1.elim
theorem de_idx (ha : DE X W a ma) (hb : DE X W b mb) (hs : PlainIx b) : DE X W (.Subscript a b pos) (fun t => do let x ← ma t; let y ← mb t; idxD x y) := PE.imp (pe_ix ix_seq ha hb hs) fun _ _ _ h => tD2 by_idx h
theorem de_slice (ha : DE X W a ma) (hl : DO X W lo ml) (hh : DO X W hi mh) : DE X W (.Subscript a (.Slice lo hi none p2) pos) (fun t => do let x ← ma t; let l ← ml t; let h ← mh t; sliceD x l h) := by
  refine PE.imp (pe_slice (sl_list.or (sl_str.or sl_tupA)) ha hl hh) fun σ H Q ⟨t, p, G, S, ow, r, h⟩ => ?_
  refine ⟨t, p, G, S, ow, r, okR.seq h fun d S1 v p1 G1 H1 e1 dn r1 x1 h1 => ?_⟩
  refine ⟨t, p1, G1, S1, ow, r.ext x1 r1, okR.seq h1 fun l S2 l' p2 G2 H2 e2 dl r2 x2 h2 => ?_⟩
  refine ⟨t, p2, G2, S2, ow, (r.ext x1 r1).ext x2 r2, okR.seq h2 fun u S3 u' p3 G3 H3 e3 du r3 x3 h3 => ?_⟩
  cases dl
  cases du
  have dn' := (dn.mono x2.pp x2.g).mono x3.pp x3.g
  clear dn
  cases d <;> try exact h3.elim
  · rename_i z
    unfold sliceD at h3
    dsimp only at h3
    split at h3
    · rename_i hz
      exact .inr (.inl ⟨z, dn', hz, okR.fin (v := V.str _) h3 rfl r3⟩)
    · exact h3.elim
  · rename_i xs
    obtain ⟨b, vs, rfl, hb, hv⟩ := dn'
    have hlen := hv.length
    refine .inr (.inr ⟨b, vs, rfl, SqT.mono r3.sub hb, fun q => ?_, fun q l' hl' => okR.tup h3 r3 hl' ?_⟩)
    · have e : cutL xs l u = xs := by
        unfold cutL
        rw [hlen] at q
        rw [q.1, q.2, List.drop_zero, Nat.sub_zero, List.take_length]
      have h4 : okR (Den X.K) X.K p3 G3 H3 (fun c d H' => W c d σ H') (.ok (.tup (cutL xs l u)) S3) Q := h3
      rw [e] at h4
      exact okR.fin h4 ⟨b, vs, rfl, hb, hv⟩ r3
    · unfold cutL cutV
      rw [hlen]
      exact (hv.drop _).take _
  · rename_i xs
    obtain ⟨b, vs, rfl, hb, hv⟩ := dn'
    have hlen := hv.length
    refine .inl ⟨b, vs, rfl, SqL.of (r3.sub _ _ hb), fun l' hl' => okR.lst h3 r3 hl' ?_⟩
    unfold cutL cutV
    rw [hlen]
    exact (hv.drop _).take _
end
def flatD : D → Bool
  | .non => true
  | .bl _ => true
  | .int _ => true
  | .str _ => true
  | _ => false
def eqF : D → D → Bool
  | .non, .non => true
  | .bl a, .bl b => a == b
  | .bl a, .int b => (if a then 1 else 0) == b
  | .int a, .bl b => a == (if b then 1 else 0)
  | .int a, .int b => a == b
  | .str a, .str b => a == b
  | _, _ => false
def memD (x : D) (xs : List D) : Bool := xs.any fun y => eqF y x
def signIn (neg : Bool) (z : Str) : List Nat → M D
  | [c] => pure (.bl (if neg then !decide (c ∈ z.cps.toList) else decide (c ∈ z.cps.toList)))
  | _ => stuck
def inD (neg : Bool) : D → D → M D
  | .str x, .str z => signIn neg z x.cps.toList
  | x, .lst xs => if flatD x = true ∧ xs.all flatD = true then pure (.bl (if neg then !memD x xs else memD x xs)) else stuck
  | x, .tup xs => if flatD x = true ∧ xs.all flatD = true then pure (.bl (if neg then !memD x xs else memD x xs)) else stuck
  | _, _ => stuck
section
variable {K : PySem.W.Frag} {p : List (List Addr)} {G : Hp}
theorem flat_den {d : D} {v : V} (h : Den K p G d v) (f : flatD d = true) : flatV v = true := by
  cases d <;> first | (cases (show v = _ from h); rfl) | cases f
theorem flat_all : ∀ {ds : List D} {vs : List V}, DenL K p G ds vs → ds.all flatD = true → vs.all flatV = true
  | [], _, h, _ => by cases (show _ = [] from h); rfl
  | d :: ds, _, ⟨v, r, h1, h2, h3⟩, f => by
    rw [List.all_cons, Bool.and_eq_true] at f
    rw [h1, List.all_cons, Bool.and_eq_true]
    exact ⟨flat_den h2 f.1, flat_all h3 f.2⟩
theorem eqF_den {d e : D} {v u : V} (h : Den K p G d v) (k : Den K p G e u) (f : flatD d = true) (g : flatD e = true) : eqV v u = eqF d e := by
  cases d <;> first | (cases (show v = _ from h); cases e <;> first | (cases (show u = _ from k); rfl) | cases g) | cases f
theorem mem_den {x : D} {v : V} (hx : Den K p G x v) (fx : flatD x = true) : ∀ {ds : List D} {vs : List V}, DenL K p G ds vs → ds.all flatD = true → inV v vs = memD x ds
  | [], _, h, _ => by cases (show _ = [] from h); rfl
  | d :: ds, _, ⟨u, r, h1, h2, h3⟩, f => by
    rw [List.all_cons, Bool.and_eq_true] at f
    have := mem_den hx fx h3 f.2
    unfold inV memD at this ⊢
    rw [h1, List.any_cons, List.any_cons, this, eqF_den h2 hx f.1 fx]
end
theorem by_in {K : PySem.W.Frag} (neg : Bool) : By2 K (fun x y H Q => (∃ (c : Nat) (z : Str), x = .str ⟨#[c]⟩ ∧ y = .str z ∧ Q (.bl (if neg then !decide (c ∈ z.cps.toList) else decide (c ∈ z.cps.toList))) H) ∨ rIn K neg x y H Q) (inD neg) := by
  intro d e v u p G H S W Q hd he r h
  unfold inD at h
  split at h
  · rename_i x z
    cases ex : x.cps.toList with
    | nil => rw [ex] at h; exact h.elim
    | cons c cs =>
      cases cs with
      | cons c2 cs => rw [ex] at h; exact h.elim
      | nil =>
        rw [ex] at h
        refine .inl ⟨c, z, ?_, he, okR.fin (v := V.bl _) h rfl r⟩
        rw [(show v = _ from hd)]
        obtain ⟨xs⟩ := x
        have : xs = #[c] := Array.ext' ex
        rw [this]
  · rename_i xs
    by_cases hz : flatD d = true ∧ xs.all flatD = true
    · rw [if_pos hz] at h
      obtain ⟨a, vs, rfl, ha, hv⟩ := he
      refine .inr ⟨a, vs, rfl, .inl (SqL.of (r.sub _ _ ha)), flat_den hd hz.1, flat_all hv hz.2, ?_⟩
      rw [mem_den hd hz.1 hv hz.2]
      exact okR.fin (v := V.bl _) h rfl r
    · rw [if_neg hz] at h
      exact h.elim
  · rename_i xs
    by_cases hz : flatD d = true ∧ xs.all flatD = true
    · rw [if_pos hz] at h
      obtain ⟨a, vs, rfl, ha, hv⟩ := he
      refine .inr ⟨a, vs, rfl, .inr (SqT.mono r.sub ha), flat_den hd hz.1, flat_all hv hz.2, ?_⟩
      rw [mem_den hd hz.1 hv hz.2]
      exact okR.fin (v := V.bl _) h rfl r
    · rw [if_neg hz] at h
      exact h.elim
  · exact h.elim
section
variable {X : Cx} {W : WX} {a b : Expr} {ma mb : DSt → M D} {pos : Pos}
theorem op_inA : OpR X (compareOp .In) (fun x y H Q => (∃ (c : Nat) (z : Str), x = .str ⟨#[c]⟩ ∧ y = .str z ∧ Q (.bl (if false then !decide (c ∈ z.cps.toList) else decide (c ∈ z.cps.toList))) H) ∨ rIn X.K false x y H Q) := op_in_sign.or op_in_seq
theorem op_notInA : OpR X (compareOp .NotIn) (fun x y H Q => (∃ (c : Nat) (z : Str), x = .str ⟨#[c]⟩ ∧ y = .str z ∧ Q (.bl (if true then !decide (c ∈ z.cps.toList) else decide (c ∈ z.cps.toList))) H) ∨ rIn X.K true x y H Q) := op_notIn_sign.or op_notIn_seq
theorem de_in (ha : DE X W a ma) (hb : DE X W b mb) (hm : behindInMarks .In b = false := by rfl) : DE X W (.Compare a [.In] [b] pos) (fun t => do let x ← ma t; let y ← mb t; inD false x y) := de_cmp op_inA (by_in false) ha hb hm
theorem dt_in (ha : DE X W a ma) (hb : DE X W b mb) (hm : behindInMarks .In b = false := by rfl) : DT X W (.Compare a [.In] [b] pos) (fun t => do let x ← (do let x ← ma t; let y ← mb t; inD false x y); asB x) := dt_cmp op_inA (by_in false) ha hb hm
theorem dt_notin (ha : DE X W a ma) (hb : DE X W b mb) (hm : behindInMarks .NotIn b = false := by rfl) : DT X W (.Compare a [.NotIn] [b] pos) (fun t => do let x ← (do let x ← ma t; let y ← mb t; inD true x y); asB x) := dt_cmp op_notInA (by_in true) ha hb hm
end
def joinD : D → D → M D
  | .str a, .lst xs => match toStrs xs with
    | some ys => if (ys.map (·.length)).sum + ys.length * a.length ≤ 16777216 then pure (.str (Txt.join a ys)) else stuck
    | none => stuck
  | .str a, .tup xs => match toStrs xs with
    | some ys => if (ys.map (·.length)).sum + ys.length * a.length ≤ 16777216 then pure (.str (Txt.join a ys)) else stuck
    | none => stuck
  | _, _ => stuck
section
variable {X : Cx} {W : WX} {a b : Expr} {ma mb : DSt → M D} {pos apos : Pos}
def strD : D → M Str
  | .str a => pure a
  | _ => stuck
end
end RM

namespace RM
open PySem PySem.Spec PyProof.Rows L2
variable [PgW]

inductive Ty where
  | b (n : String) | o (c : Str)
  deriving DecidableEq
def builtinKinds : List String := ["NoneType", "bool", "int", "str", "tuple", "list", "dict"]
def askedTypes : List String := ["int", "bool", "str", "tuple", "list", "dict"]
def kindD : D → Option Ty
  | .non => some (.b "NoneType")
  | .bl _ => some (.b "bool")
  | .int _ => some (.b "int")
  | .str _ => some (.b "str")
  | .tup _ => some (.b "tuple")
  | .lst _ => some (.b "list")
  | .dic _ _ => some (.b "dict")
  | .ins c _ _ => some (.o c)
  | .mref _ => none
  | .scr _ => none
  | .xcp _ _ _ => none
  | .dct _ _ => none
def isKind : Ty → Ty → Bool
  | .b n, .b m => n == m || (n == "bool" && m == "int")
  | .o c, .o e => decide (c = e)
  | _, _ => false
def tyOk (cs : List Str) : Ty → Bool
  | .b n => decide (n ∈ askedTypes)
  | .o c => decide (c ∈ cs)
def kindOk (cs : List Str) : Ty → Bool
  | .b n => decide (n ∈ builtinKinds)
  | .o c => decide (c ∈ cs)
def kindZ : D → Option Ty
  | .dct _ _ => some (.b "dict")
  | d => kindD d
def isiD (cs : List Str) (ts : List Ty) (d : D) : M D := match kindZ d with
  | some k => if kindOk cs k = true ∧ ts.all (tyOk cs) = true then pure (.bl (ts.any fun t => isKind k t)) else stuck
  | none => stuck
def tyVal (K : PySem.W.Frag) : Ty → Value
  | .b n => .type n
  | .o c => .ref (He.ga K c)
def tyV' (K : PySem.W.Frag) : Ty → V
  | .b n => .ty n
  | .o c => .ref (He.ga K c)
def clsB (K : PySem.W.Frag) (cs : List Str) : Bool := cs.all fun c =>
  (He.Fa.cls c).ok K && He.eqO (PySem.W.findIn K (.ref (He.ga K c)) "__class__") (some (some (.builtin "object.__class__"))) &&
  He.eqO (PySem.W.specialIn K (.builtin "object.__class__") "__get__") (some (some (.builtin "getset_descriptor.__get__"))) && decide (PySem.W.takesIn K (.builtin "object.__class__") = some true) &&
  decide (PySem.W.mroIn K (He.ga K c) (.type "object") = some true) && (askedTypes.all fun n => decide (PySem.W.kitOne K (.ref (He.ga K c)) (.type n) = some false)) &&
  (builtinKinds.all fun n => decide (PySem.W.kitOne K (.type n) (.ref (He.ga K c)) = some false)) && cs.all fun e => decide (PySem.W.kitOne K (.ref (He.ga K c)) (.ref (He.ga K e)) = some (decide (c = e)))
structure ClsT (K : PySem.W.Frag) (cs : List Str) : Prop where
  cl : ∀ c ∈ cs, Cls K (He.ga K c)
  ha : ∀ c ∈ cs, PySem.W.findIn K (.ref (He.ga K c)) "__class__" = some (some (.builtin "object.__class__"))
  hn : ∀ c ∈ cs, PySem.W.specialIn K (.builtin "object.__class__") "__get__" = some (some (.builtin "getset_descriptor.__get__"))
  ht : ∀ c ∈ cs, PySem.W.takesIn K (.builtin "object.__class__") = some true
  hm : ∀ c ∈ cs, PySem.W.mroIn K (He.ga K c) (.type "object") = some true
  ob : ∀ c ∈ cs, ∀ n ∈ askedTypes, PySem.W.kitOne K (.ref (He.ga K c)) (.type n) = some false
  bo : ∀ c ∈ cs, ∀ n ∈ builtinKinds, PySem.W.kitOne K (.type n) (.ref (He.ga K c)) = some false
  oo : ∀ c ∈ cs, ∀ e ∈ cs, PySem.W.kitOne K (.ref (He.ga K c)) (.ref (He.ga K e)) = some (decide (c = e))
theorem clsB_ok {K : PySem.W.Frag} {cs : List Str} (h : clsB K cs = true) : ClsT K cs := by
  have k : ∀ c ∈ cs, _ := fun c hc => List.all_eq_true.mp h c hc
  simp only [Bool.and_eq_true, List.all_eq_true, decide_eq_true_eq] at k
  exact ⟨fun c hc => He.cls_ok (k c hc).1.1.1.1.1.1.1, fun c hc => He.eqO_ok (k c hc).1.1.1.1.1.1.2, fun c hc => He.eqO_ok (k c hc).1.1.1.1.1.2, fun c hc => (k c hc).1.1.1.1.2, fun c hc => (k c hc).1.1.1.2,
    fun c hc n hn => (k c hc).1.1.2 n hn, fun c hc n hn => (k c hc).1.2 n hn, fun c hc e he => (k c hc).2 e he⟩
theorem kit_bb : ∀ n ∈ builtinKinds, ∀ m ∈ askedTypes, kitB n m = some (n == m || (n == "bool" && m == "int")) := by decide +kernel
theorem kit_all {K : PySem.W.Frag} {cs : List Str} (T : ClsT K cs) {k t : Ty} (hk : kindOk cs k = true) (ht : tyOk cs t = true) : PySem.W.kitOne K (tyVal K k) (tyVal K t) = some (isKind k t) := by
  cases k with
  | b n =>
    cases t with
    | b m => exact kit_ty (kit_bb n (of_decide_eq_true hk) m (of_decide_eq_true ht))
    | o c => exact T.bo c (of_decide_eq_true ht) n (of_decide_eq_true hk)
  | o c =>
    cases t with
    | b m => exact T.ob c (of_decide_eq_true hk) m (of_decide_eq_true ht)
    | o e => exact T.oo c (of_decide_eq_true hk) e (of_decide_eq_true ht)
theorem kit_anyD {K : PySem.W.Frag} {cs : List Str} (T : ClsT K cs) {k : Ty} (hk : kindOk cs k = true) : ∀ {ts : List Ty}, ts.all (tyOk cs) = true → PySem.W.kitAny K (tyVal K k) (ts.map (tyVal K)) = some (ts.any fun t => isKind k t)
  | [], _ => kitAny_nil
  | t :: ts, h => by
    rw [List.all_cons, Bool.and_eq_true] at h
    refine kitAny_cons (kit_all T hk h.1) (fun e => ?_) fun e => ?_
    · rw [List.any_cons, e, Bool.false_or]
      exact kit_anyD T hk h.2
    · rw [List.any_cons, e, Bool.true_or]
theorem SqL.tyx {K : PySem.W.Frag} {H : Hp} {a : Addr} {vs : List V} (h : SqL K H a vs) : TyX K H (.ref a) (.type "list") := by
  rcases h with (h | ⟨o, h⟩) | ⟨o, its, n, hk, hc, _⟩
  · exact .base (.lst h)
  · exact .base (.frz h)
  · exact .kList hk hc
theorem SqT.tyx {K : PySem.W.Frag} {H : Hp} {a : Addr} {vs : List V} (h : SqT K H a vs) : TyX K H (.ref a) (.type "tuple") := by
  rcases h with (h | ⟨o, h⟩) | ⟨o, its, n, hk, hc, _⟩
  · exact .base (.tup h)
  · exact .fTuple h
  · exact .kTuple hk hc
theorem kind_ty {K : PySem.W.Frag} {cs : List Str} {p : List (List Addr)} {S : Sto} {G H : Hp} (T : ClsT K cs) {d : D} {v : V} {k : Ty} (hd : Den K p G d v) (r : Rel0 K p S G H) (e : kindD d = some k) (hk : kindOk cs k = true) : TyX K H v (tyVal K k) := by
  cases d <;> cases e
  · cases (show v = _ from hd); exact .base .non
  · cases (show v = _ from hd); exact .base (.bl _)
  · cases (show v = _ from hd); exact .base (.int _)
  · cases (show v = _ from hd); exact .base (.str _)
  · obtain ⟨a, vs, rfl, ha, _⟩ := hd
    exact SqT.tyx (SqT.mono r.sub ha)
  · obtain ⟨a, vs, rfl, ha, _⟩ := hd
    exact .base (.lst (r.sub _ _ ha))
  · rename_i c ns fs
    obtain ⟨a, dx, vs, rfl, ha, _⟩ := hd
    have hc : c ∈ cs := of_decide_eq_true hk
    exact .base (.ins (r.sub _ _ ha) (T.cl c hc) (T.ha c hc) (T.hn c hc) (T.ht c hc) (T.hm c hc))
  · obtain ⟨a, o, vs, rfl, ha, _⟩ := hd
    exact .fDict (r.sub _ _ ha)
inductive TyY (K : PySem.W.Frag) (H : Hp) : V → Value → Prop where
  | x {v : V} {t : Value} (h : TyX K H v t) : TyY K H v t
  | d {a : Addr} {o : Obj} {P : Program} {w : World} {xs : XD} (e : H a = some (.frz o (DTx P w a xs))) : TyY K H (.ref a) (.type "dict")
  | o {a : Addr} {o : Obj} (e : H a = some (.frz o (DOx a))) : TyY K H (.ref a) (.type "dict")
theorem kit_ofY {X : Cx} {pins : List (Addr × Obj)} {σ : L2.St} {H : Hp} {s : Shared} {x : V} {u t : Value} (I : Inv X pins σ H s) (rx : RelV x u) (ty : TyY X.K H x t) : ∃ P : Heap → Prop, PySem.W.KitX X.K u t P ∧ P s.heap ∧ u ≠ .builtin "__main__.__loader__#opaque" := by
  cases ty with
  | x h => exact kit_of I rx h
  | @d a ob P w xs ea =>
    cases (show u = Value.ref a from rx)
    obtain ⟨_, ⟨_, _, o, es, ep, h1, h2, _⟩, _⟩ := (show ObjOk X.prog X.w H s.heap a (.frz ob (DTx P w a xs)) from I.hok a _ ea)
    exact ⟨_, PySem.W.kitx_dict, ⟨o, h1, h2.1⟩, fun z => nomatch z⟩
  | @o a ob ea =>
    cases (show u = Value.ref a from rx)
    obtain ⟨_, ⟨o, h1, h2⟩, _⟩ := (show ObjOk X.prog X.w H s.heap a (.frz ob (DOx a)) from I.hok a _ ea)
    exact ⟨_, PySem.W.kitx_dict, ⟨o, h1, h2.1⟩, fun z => nomatch z⟩
def rIsiY (K : PySem.W.Frag) : List V → Hp → VK → Prop := fun xs H Q => ∃ (x c : V) (t u : Value) (b : Bool), xs = [x, c] ∧ ClsV c u ∧ TyY K H x t ∧ PySem.W.kitOne K t u = some b ∧ Q (.bl b) H
def rIsiTY (K : PySem.W.Frag) : List V → Hp → VK → Prop := fun xs H Q => ∃ (x : V) (tp : Addr) (cs : List V) (t : Value) (us : List Value) (b : Bool), xs = [x, .ref tp] ∧ H tp = some (.tup cs) ∧ Paired ClsV cs us ∧ TyY K H x t ∧ PySem.W.kitAny K t us = some b ∧ Q (.bl b) H
theorem call_isiY {X : Cx} : CallR X (.builtin "isinstance") (rIsiY X.K) := by
  intro pins s σ H xs us Q I r h
  obtain ⟨x, c, t, u, b, rfl, k, ty, e, q⟩ := h
  obtain ⟨u1, u2, rfl, r1, r2⟩ := vals2 r
  have e2 := k.eq r2
  subst e2
  obtain ⟨P, Z, p, hx⟩ := kit_ofY I r1 ty
  exact PySem.W.kia_one Z I.kIn p e hx fun tk => ⟨.bl b, H, I.tok tk, rfl, q⟩
theorem call_isiTY {X : Cx} : CallR X (.builtin "isinstance") (rIsiTY X.K) := by
  intro pins s σ H xs us Q I r h
  obtain ⟨x, tp, cs, t, ws, b, rfl, hT, k, ty, e, q⟩ := h
  obtain ⟨u1, u2, rfl, r1, r2⟩ := vals2 r
  cases (show u2 = Value.ref tp from r2)
  obtain ⟨P, Z, p, hx⟩ := kit_ofY I r1 ty
  obtain ⟨_, its, rv, o, h1, h2, n, h3⟩ := (show ObjOk X.prog X.w H s.heap tp (.tup cs) from I.hok tp _ hT)
  have e3 := ClsV.all k rv
  subst e3
  obtain ⟨oc, od, dt, sl⟩ := o
  simp only at h2 h3
  subst h2 h3
  exact PySem.W.kia_tup Z I.kIn p h1 e hx fun tk => ⟨.bl b, H, I.tok tk, rfl, q⟩
theorem kind_tyZ {K : PySem.W.Frag} {cs : List Str} {p : List (List Addr)} {S : Sto} {G H : Hp} (T : ClsT K cs) {d : D} {v : V} {k : Ty} (hd : Den K p G d v) (r : Rel0 K p S G H) (e : kindZ d = some k) (hk : kindOk cs k = true) : TyY K H v (tyVal K k) := by
  cases d with
  | dct ks xs =>
    cases e
    obtain ⟨a, o, u, rfl, ha, ⟨_, _, rfl⟩ | ⟨es, vs, rfl, _⟩⟩ := hd
    · exact .o (r.sub _ _ ha)
    · exact .d (r.sub _ _ ha)
  | _ => exact .x (kind_ty T hd r e hk)
theorem clsV_of {K : PySem.W.Frag} (t : Ty) : ClsV (tyV' K t) (tyVal K t) := by
  cases t with
  | b n => exact .ty n
  | o c => exact .own _
section
variable {X : Cx} {W : WX} {a b b2 : Expr} {ma : DSt → M D} {pos p pt : Pos} {cs : List Str} {x1 : Nat}
theorem isi_split {K : PySem.W.Frag} {p : List (List Addr)} {G H : Hp} {S : Sto} {Wf : Value → Option Addr → Hp → Prop} {Q : VK} {ts : List Ty} {d : D} (h : okR (Den K) K p G H Wf (isiD cs ts d S) Q) : ∃ k, kindZ d = some k ∧ kindOk cs k = true ∧ ts.all (tyOk cs) = true ∧ okR (Den K) K p G H Wf (.ok (.bl (ts.any fun t => isKind k t)) S) Q := by
  unfold isiD at h
  cases e : kindZ d with
  | none => rw [e] at h; exact h.elim
  | some k =>
    rw [e] at h
    dsimp only at h
    by_cases hz : kindOk cs k = true ∧ ts.all (tyOk cs) = true
    · rw [if_pos hz] at h
      exact ⟨k, rfl, hz.1, hz.2, h⟩
    · rw [if_neg hz] at h
      exact h.elim
theorem de_isi (T : ClsT X.K cs) (t : Ty) (hg : Gl X "isinstance") (hm : X.mg "isinstance" = none) (ha : DE X W a ma) (hb : PE X b (tC (tyV' X.K t))) (hs : starEach [a, b] X.env = (false, eval a X.env) :: starEach [b] X.env := by rfl) (hs2 : starEach [b] X.env = [(false, eval b X.env)] := by rfl)
    (hpl : (backTo pos (starEach [b] X.env)).any (·.1) = false := by rfl) : DE X W (.Call (.Name "isinstance" p) [a, b] [] pos) (fun s => do let x ← ma s; isiD cs [t] x) := by
  refine PE.imp (pe_callB call_isiY hg hm (by decide +kernel) (pa_cons ha (pa_cons hb pa_nil hs2) hs) (by decide) (by decide) hs hpl) fun σ H Q ⟨s, q, G, S, ow, r, h⟩ => ?_
  refine ⟨s, q, G, S, ow, r, okR.seq h fun d S1 v p1 G1 H1 e1 dn r1 x1 h1 => ?_⟩
  obtain ⟨k, e, hk, ht, h2⟩ := isi_split h1
  rw [List.all_cons, List.all_nil, Bool.and_true] at ht
  refine ⟨v, tyV' X.K t, tyVal X.K k, tyVal X.K t, isKind k t, rfl, clsV_of t, kind_tyZ T dn r1 e hk, kit_all T hk ht, ?_⟩
  have h3 : okR (Den X.K) X.K p1 G1 H1 (fun c d H' => W c d σ H') (.ok (.bl ([t].any fun t => isKind k t)) S1) Q := h2
  rw [List.any_cons, List.any_nil, Bool.or_false] at h3
  exact okR.fin (v := V.bl _) h3 rfl r1
theorem de_isi2 (T : ClsT X.K cs) (t u : Ty) (hg : Gl X "isinstance") (hm : X.mg "isinstance" = none) (ha : DE X W a ma) (hb : PE X b (tC (tyV' X.K t))) (hb2 : PE X b2 (tC (tyV' X.K u))) (hs : starEach [a, .Tuple [b, b2] x1 pt] X.env = (false, eval a X.env) :: starEach [.Tuple [b, b2] x1 pt] X.env := by rfl)
    (hs2 : starEach [.Tuple [b, b2] x1 pt] X.env = [(false, eval (.Tuple [b, b2] x1 pt) X.env)] := by rfl) (hs3 : starEach [b, b2] X.env = (false, eval b X.env) :: starEach [b2] X.env := by rfl) (hs4 : starEach [b2] X.env = [(false, eval b2 X.env)] := by rfl)
    (hpl : (backTo pos (starEach [.Tuple [b, b2] x1 pt] X.env)).any (·.1) = false := by rfl) : DE X W (.Call (.Name "isinstance" p) [a, .Tuple [b, b2] x1 pt] [] pos) (fun s => do let x ← ma s; isiD cs [t, u] x) := by
  refine PE.imp (pe_callB call_isiTY hg hm (by decide +kernel) (pa_cons ha (pa_cons (pe_tup (pa_cons hb (pa_cons hb2 pa_nil hs4) hs3)) pa_nil hs2) hs) (by decide) (by decide) hs hpl) fun σ H Q ⟨s, q, G, S, ow, r, h⟩ => ?_
  refine ⟨s, q, G, S, ow, r, okR.seq h fun d S1 v p1 G1 H1 e1 dn r1 x1 h1 => ?_⟩
  obtain ⟨k, e, hk, ht, h2⟩ := isi_split h1
  refine ⟨by show 2 ≤ sizeLine; decide, fun l hl => ?_⟩
  have nw := r1.new (.tup [tyV' X.K t, tyV' X.K u]) hl
  have dn2 := dn.upd (o := .tup [tyV' X.K t, tyV' X.K u]) (r1.gfree hl)
  exact ⟨v, l, [tyV' X.K t, tyV' X.K u], tyVal X.K k, [t, u].map (tyVal X.K), _, rfl, upd_same, .cons (clsV_of t) (.cons (clsV_of u) .nil), kind_tyZ T dn2 nw.1 e hk, kit_anyD T hk ht, h2 (V.bl _) _ _ _ rfl nw.1 nw.2⟩
theorem pe_ty (n : String) {x : Str} (hg : Gl X x) (hm : X.mg x = none) (hv : bootBuiltins x = some (.type n)) (hn : x ≠ "__name__" := by decide) (hd : (x == ("__debug__" : Str)) = false := by decide) : PE X (.Name x pos) (tC (tyV' X.K (.b n))) := pe_bltn hg hm hv rfl hn hd
theorem pe_own (c : Str) (hg : Gl X c) (hm : X.mg c = some (.ref (He.ga X.K c))) (hd : (c == ("__debug__" : Str)) = false := by decide) : PE X (.Name c pos) (tC (tyV' X.K (.o c))) := pe_glob hg hm rfl hd
end
end RM

namespace RM
open PySem PySem.Spec PyProof.Rows L2
variable [PgW]

section
variable {X : Cx} {W : WX} {a b : Expr} {es : List Expr} {ma mb : DSt → M D} {ms : DSt → M (List D)} {pos p : Pos}
theorem okF.lay {K : PySem.W.Frag} {p : List (List Addr)} {G H : Hp} {W : Value → Option Addr → Hp → Prop} {xs : List D} {vs : List V} {S : Sto} {Q : VK} {l : Addr} (h : okF K p G H W (.ok xs S) Q) (r : Rel0 K p S G H) (hl : H l = none) (dn : DenL K p G xs vs) : Q (.ref l) (upd H l (.lst vs)) := by
  have gl := r.gfree hl
  have pl : l ∉ p.flatten := fun z => r.dom z hl
  refine h l vs p G _ hl upd_same dn gl pl (r.own _ pl gl) ⟨Same.refl _, fun _ z _ => z, fun b o e _ => ?_, fun b e => ?_, [], by simp, by simp⟩
  · rw [upd_ne (ne_of_none e hl)]; exact e
  · by_cases q : b = l
    · subst q; rw [upd_same]; simp
    · rw [upd_ne q]; exact e
def sizeL (xs : List D) : M (List D) := if xs.length ≤ sizeLine then pure xs else stuck
theorem df_lst (h : DA X W es ms) : DF X W (.List es pos) (fun t => do let xs ← ms t; sizeL xs) := by
  refine PE.imp (pe_lst h) fun σ H Q ⟨t, p, G, S, ow, r, h⟩ => ?_
  refine ⟨t, p, G, S, ow, r, okF.seq h fun d S1 v p1 G1 H1 e1 dn r1 x1 h1 => ?_⟩
  unfold sizeL at h1
  split at h1
  · exact ⟨by rw [dn.length]; assumption, fun l hl => okF.lay h1 r1 hl dn⟩
  · exact h1.elim
def listF : D → M (List D)
  | .lst xs => pure xs
  | .tup xs => pure xs
  | _ => stuck
theorem df_list (hg : Gl X "list") (hm : X.mg "list" = none) (ha : DE X W a ma) (he : starEach [a] X.env = [(false, eval a X.env)] := by rfl) : DF X W (.Call (.Name "list" p) [a] [] pos) (fun t => do let x ← ma t; listF x) := by
  refine PE.imp (pe_callTy call_list_of hg hm (by decide +kernel) (pa_cons ha pa_nil he) (by decide) (by decide) he rfl) fun σ H Q ⟨t, p, G, S, ow, r, h⟩ => ?_
  refine ⟨t, p, G, S, ow, r, okF.seq h fun d S1 v p1 G1 H1 e1 dn r1 x1 h1 => ?_⟩
  cases d <;> try exact h1.elim
  · obtain ⟨l, vs, rfl, hl, hv⟩ := dn
    exact ⟨l, vs, rfl, .inr (SqT.mono r1.sub hl), fun q hq => okF.lay h1 r1 hq hv⟩
  · obtain ⟨l, vs, rfl, hl, hv⟩ := dn
    exact ⟨l, vs, rfl, .inl (SqL.of (r1.sub _ _ hl)), fun q hq => okF.lay h1 r1 hq hv⟩
end
def getO (t : DSt) (i : Nat) : M (List D) := match t[i]? with
  | some (some (.own xs)) => pure xs
  | _ => stuck
theorem getO_of (t : DSt) (i : Nat) : (∃ xs, t[i]? = some (some (.own xs)) ∧ getO t i = pure xs) ∨ getO t i = stuck := by
  unfold getO
  split
  · rename_i d e
    exact .inl ⟨d, e, rfl⟩
  · exact .inr rfl
theorem SlotsR.getO {K : PySem.W.Frag} {p : List (List Addr)} {G H : Hp} : ∀ {t : DSt} {σ : L2.St} {ow : List Addr} {i : Nat} {xs : List D}, SlotsR K p G H t σ ow → t[i]? = some (some (.own xs)) → ∃ a vs, σ[i]? = some (some (.ref a)) ∧ a ∈ ow ∧ H a = some (.lst vs) ∧ DenL K p G xs vs
  | [], _, _, _, _, _, e => by simp at e
  | _ :: _, _, _, 0, d, ⟨v, r, l, m, h1, h2, h3, h4⟩, e => by
    simp at e; subst e
    obtain ⟨a, vs, e1, e2, e3, e4⟩ := h3
    exact ⟨a, vs, by rw [h1, e2]; rfl, by rw [h2, e1]; simp, e3, e4⟩
  | _ :: _, _, _, i + 1, d, ⟨v, r, l, m, h1, h2, h3, h4⟩, e => by
    obtain ⟨a, vs, e1, e2, e3, e4⟩ := SlotsR.getO (i := i) h4 (by simpa using e)
    exact ⟨a, vs, by rw [h1]; simpa using e1, by rw [h2]; exact List.mem_append_right _ e2, e3, e4⟩
theorem SlotsR.putO {K : PySem.W.Frag} {p : List (List Addr)} {G H H' : Hp} {a : Addr} {ys : List D} {us : List V} (hk : ∀ b, b ≠ a → H' b = H b) (ha : H' a = some (.lst us)) (dn : DenL K p G ys us) : ∀ {t : DSt} {σ : L2.St} {ow : List Addr} {i : Nat} {xs : List D},
    SlotsR K p G H t σ ow → ow.Nodup → t[i]? = some (some (.own xs)) → σ[i]? = some (some (.ref a)) → SlotsR K p G H' (t.set i (some (.own ys))) σ ow
  | [], _, _, _, _, _, _, e, _ => by simp at e
  | _ :: _, _, _, 0, xs, ⟨v, r, l, m, h1, h2, h3, h4⟩, nd, e, eσ => by
    simp at e; subst e
    obtain ⟨b, vs, e1, e2, e3, e4⟩ := h3
    rw [h1] at eσ
    simp at eσ
    rw [e2] at eσ
    cases eσ
    subst e1
    rw [h2] at nd
    refine ⟨v, r, [a], m, h1, h2, ⟨a, us, rfl, e2, ha, dn⟩, SlotsR.mono ⟨[], by simp⟩ (Same.refl _) (fun b hb => hk b ?_) h4⟩
    rintro rfl
    simp at nd
    exact nd.1 hb
  | s :: _, _, _, i + 1, xs, ⟨v, r, l, m, h1, h2, h3, h4⟩, nd, e, eσ => by
    rw [h2] at nd
    rw [h1] at eσ
    have nd2 := (List.nodup_append.mp nd).2.1
    obtain ⟨a2, vs, q1, q2, q3, q4⟩ := SlotsR.getO (i := i) h4 (by simpa using e)
    have ea : a2 = a := by
      have : r[i]? = some (some (.ref a)) := by simpa using eσ
      rw [q1] at this
      cases this
      rfl
    subst ea
    refine ⟨v, r, l, m, h1, h2, SlotR.mono ⟨[], by simp⟩ (Same.refl _) (fun b hb => hk b ?_) h3, SlotsR.putO hk ha dn (i := i) h4 nd2 (by simpa using e) (by simpa using eσ)⟩
    rintro rfl
    exact (List.nodup_append.mp nd).2.2 b hb b q2 rfl
theorem RelF.putO {K : PySem.W.Frag} {n : Snap} {p : List (List Addr)} {G H : Hp} {S : Sto} {t : DSt} {σ : L2.St} {ow : List Addr} {i : Nat} {xs ys : List D} {a : Addr} {us : List V} (r : RelF K n p G S H t σ ow) (e : t[i]? = some (some (.own xs))) (eσ : σ[i]? = some (some (.ref a))) (ha : a ∈ ow) (dn : DenL K p G ys us) :
    RelF K n p G S (upd H a (.lst us)) (t.set i (some (.own ys))) σ ow := by
  have ga := r.rs.gn a ha
  have pa : a ∉ p.flatten := fun z => (List.nodup_append.mp r.rs.nd).2.2 a z a ha rfl
  have h0 := r.own a ha
  refine ⟨⟨r.rs.rel.own _ pa ga, SlotsR.putO (fun b hb => upd_ne hb) upd_same dn r.rs.sl (List.nodup_append.mp r.rs.nd).2.1 e eσ, r.rs.nd, r.rs.gn⟩, ⟨r.ext.g, r.ext.gn, fun b o e1 e2 => ?_, fun b e1 => ?_, r.ext.p⟩, r.own, r.fp, r.fg⟩
  · rw [upd_ne (ne_of_none e1 h0)]
    exact r.ext.h b o e1 e2
  · by_cases q : b = a
    · subst q; rw [upd_same]; simp
    · rw [upd_ne q]; exact r.ext.d b e1
theorem RelF.newO {K : PySem.W.Frag} {n : Snap} {p p1 : List (List Addr)} {G H G1 H1 : Hp} {S S1 : Sto} {t : DSt} {σ : L2.St} {ow : List Addr} {i : Nat} {xs : List D} {a : Addr} {vs : List V} (r : RelF K n p G S H t σ ow) (hi : i < t.length) (e : Ext p G H p1 G1 H1) (r1 : Rel0 K p1 S1 G1 H1) (h0 : H a = none)
    (ha : H1 a = some (.lst vs)) (dn : DenL K p1 G1 xs vs) (ga : G1 a = none) (pa : a ∉ p1.flatten) : ∃ ow', RelF K n p1 G1 S1 H1 (t.set i (some (.own xs))) (σ.set i (some (.ref a))) ow' := by
  have r' := r.step e r1
  obtain ⟨u, l, b, eo, q⟩ := SlotsR.set (s := some (.own xs)) (v := some (V.ref a)) (l' := [a]) ⟨a, vs, rfl, rfl, ha, dn⟩ i hi r'.rs.sl
  subst eo
  have nin : a ∉ u ++ l ++ b := fun z => r.rs.sl.dom a z h0
  have nH : n.H a = none := by
    cases z : n.H a with
    | none => rfl
    | some o => exact absurd h0 (r.ext.d a (by rw [z]; simp))
  have nd := nodup_mid r'.rs.nd
  rw [List.append_nil] at nd
  have sub : ∀ x ∈ u ++ b, x ∈ u ++ l ++ b := fun x hx => by simp at hx ⊢; rcases hx with z | z <;> simp [z]
  refine ⟨u ++ [a] ++ b, ⟨r'.rs.rel, q, ?_, fun x hx => ?_⟩, r'.ext, fun x hx => ?_, r'.fp, r'.fg⟩
  · have key : (p1.flatten ++ (u ++ [a] ++ b)).Perm (a :: (p1.flatten ++ (u ++ b))) := by
      have h1 : (u ++ [a] ++ b).Perm (a :: (u ++ b)) := by
        rw [List.append_assoc]
        exact List.perm_middle
      exact (List.Perm.append_left _ h1).trans List.perm_middle
    refine key.symm.nodup (List.nodup_cons.mpr ⟨?_, nd⟩)
    rw [List.mem_append]
    rintro (z | z)
    · exact pa z
    · exact nin (sub a z)
  · simp only [List.append_assoc, List.mem_append, List.mem_cons, List.not_mem_nil, or_false] at hx
    rcases hx with z | z | z
    · exact r'.rs.gn x (by simp [z])
    · rw [z]; exact ga
    · exact r'.rs.gn x (by simp [z])
  · simp only [List.append_assoc, List.mem_append, List.mem_cons, List.not_mem_nil, or_false] at hx
    rcases hx with z | z | z
    · exact r'.own x (by simp [z])
    · rw [z]; exact nH
    · exact r'.own x (by simp [z])
section
variable {X : Cx} {W : Wf} {a b e : Expr} {es : List Expr} {ma mb : DSt → M D} {mf : DSt → M (List D)} {pos apos cpos : Pos} {rest : List Stmt} {u : DSt → M Ctl}
def setO (t : DSt) (i : Nat) (xs : List D) : Option DSt := if i < t.length then some (t.set i (some (.own xs))) else none
theorem okS.newO {K : PySem.W.Frag} {n : Snap} {E : Ends} {p p1 : List (List Addr)} {G H G1 H1 : Hp} {S S1 : Sto} {t : DSt} {σ : L2.St} {ow : List Addr} {i : Nat} {xs : List D} {l : Addr} {vs : List V} (h : okS K W n ((do let t' ← liftO (setO t i xs); pure (.nx t') : M Ctl) S1) E) (r : RelF K n p G S H t σ ow) (e : Ext p G H p1 G1 H1) (r1 : Rel0 K p1 S1 G1 H1) (h0 : H l = none)
    (ha : H1 l = some (.lst vs)) (dn : DenL K p1 G1 xs vs) (ga : G1 l = none) (pa : l ∉ p1.flatten) : E.nx (σ.set i (some (.ref l))) H1 := by
  unfold setO at h
  by_cases hi : i < t.length
  · rw [if_pos hi] at h
    obtain ⟨ow', r'⟩ := r.newO hi e r1 h0 ha dn ga pa
    exact h p1 G1 H1 _ ow' r'
  · rw [if_neg hi] at h
    exact h.elim
theorem okS.seqF {K : PySem.W.Frag} {n : Snap} {E : Ends} {p : List (List Addr)} {G H : Hp} {S : Sto} {t : DSt} {σ : L2.St} {ow : List Addr} {m : M (List D)} {f : List D → M Ctl} {Q1 : VK}
    (h : okS K W n ((m >>= f) S) E) (r : RelF K n p G S H t σ ow)
    (k : ∀ xs S1 l vs p1 G1 H1, H l = none → H1 l = some (.lst vs) → DenL K p1 G1 xs vs → G1 l = none → l ∉ p1.flatten → Rel0 K p1 S1 G1 H1 → Ext p G H p1 G1 H1 → okS K W n (f xs S1) E → Q1 (.ref l) H1) : okF K p G H (fun c d H' => W c d H') (m S) Q1 := by
  have h' : okS K W n ((m S).andThen f) E := h
  cases e : m S with
  | ok d S1 =>
    rw [e] at h'
    exact fun l vs p1 G1 H1 h0 h1 h2 h3 h4 r1 x1 => k d S1 l vs p1 G1 H1 h0 h1 h2 h3 h4 r1 x1 h'
  | exc x S1 =>
    rw [e] at h'
    exact fun cls dd p1 G1 H1 a b c => h' cls dd p1 G1 H1 a b (r.ext.trans c)
  | stuck =>
    rw [e] at h'
    exact h'
theorem ds_setO (i : Nat) {x : Str} {pos' : Pos} (hN : X.N.Nodup) (hi : X.N[i]? = some x) (hx : Loc X.env.scope x) (he : DF X W.x e mf) (hs : swapsWith e (some (.Name x pos')) pos.line X.env = pure false := by rfl) (hf : X.fn x = true ∨ X.env.scope.names.lookup x = some .local := by first | exact .inl rfl | exact .inr rfl | assumption) :
    DS X W (.Assign [.Name x pos'] e pos) (fun t => do let xs ← mf t; let t' ← liftO (setO t i xs); pure (.nx t')) := by
  refine PS.imp (L2.ps_set hN hi hx he hs hf) fun E σ H ⟨n, t, p, G, S, ow, r, h⟩ => ?_
  exact ⟨t, p, G, S, ow, r.rs, okS.seqF h r fun xs S1 l vs p1 G1 H1 h0 h1 h2 h3 h4 r1 x1 hk => okS.newO hk r x1 r1 h0 h1 h2 h3 h4⟩
def freeze (i : Nat) (t : DSt) : DSt := match t[i]? with
  | some (some (.own xs)) => t.set i (some (.val (.lst xs)))
  | _ => t
theorem SlotsR.ice {K : PySem.W.Frag} {p : List (List Addr)} {G H : Hp} : ∀ {t : DSt} {σ : L2.St} {ow : List Addr} {i : Nat} {xs : List D}, SlotsR K p G H t σ ow → t[i]? = some (some (.own xs)) →
    ∃ a vs x y, ow = x ++ a :: y ∧ H a = some (.lst vs) ∧ DenL K p G xs vs ∧ (G a = none → SlotsR K p (upd G a (.lst vs)) H (t.set i (some (.val (.lst xs)))) σ (x ++ y))
  | [], _, _, _, _, _, e => by simp at e
  | _ :: _, _, _, 0, xs, ⟨v, r, l, m, h1, h2, h3, h4⟩, e => by
    simp at e; subst e
    obtain ⟨a, vs, e1, e2, e3, e4⟩ := h3
    refine ⟨a, vs, [], m, by rw [h2, e1]; rfl, e3, e4, fun ga => ?_⟩
    exact ⟨v, r, [], m, h1, rfl, ⟨rfl, _, e2, a, vs, rfl, upd_same, e4.upd ga⟩, SlotsR.mono ⟨[], by simp⟩ (Same.upd_of ga) (fun _ _ => rfl) h4⟩
  | s :: _, _, _, i + 1, xs, ⟨v, r, l, m, h1, h2, h3, h4⟩, e => by
    obtain ⟨a, vs, x, y, e1, e2, e3, e4⟩ := SlotsR.ice (i := i) h4 (by simpa using e)
    refine ⟨a, vs, l ++ x, y, by rw [h2, e1, List.append_assoc], e2, e3, fun ga => ?_⟩
    exact ⟨v, r, l, x ++ y, h1, by rw [List.append_assoc], SlotR.mono ⟨[], by simp⟩ (Same.upd_of ga) (fun _ _ => rfl) h3, e4 ga⟩
theorem RelF.ice {K : PySem.W.Frag} {n : Snap} {p : List (List Addr)} {G H : Hp} {S : Sto} {t : DSt} {σ : L2.St} {ow : List Addr} {i : Nat} {xs : List D} (r : RelF K n p G S H t σ ow) (e : t[i]? = some (some (.own xs))) : ∃ G' ow', RelF K n p G' S H (t.set i (some (.val (.lst xs)))) σ ow' := by
  obtain ⟨a, vs, x, y, eo, hH, dn, q⟩ := r.rs.sl.ice e
  have ha : a ∈ ow := by rw [eo]; simp
  have ga := r.rs.gn a ha
  have pa : a ∉ p.flatten := fun z => (List.nodup_append.mp r.rs.nd).2.2 a z a ha rfl
  have nH := r.own a ha
  have ndo := (List.nodup_append.mp r.rs.nd).2.1
  have sub : ∀ b ∈ x ++ y, b ∈ ow ∧ b ≠ a := fun b hb => by
    rw [eo] at ndo ⊢
    refine ⟨by simp at hb ⊢; rcases hb with z | z <;> simp [z], ?_⟩
    rintro rfl
    have := (List.perm_middle.nodup_iff.mp ndo)
    exact (List.nodup_cons.mp this).1 hb
  have sm : Same G (upd G a (.lst vs)) := Same.upd_of ga
  refine ⟨upd G a (.lst vs), x ++ y, ⟨⟨fun b o z => ?_, r.rs.rel.len, fun i as o e1 e2 => (r.rs.rel.mo i as o e1 e2).ice sm, r.rs.rel.nd, fun b hb => ?_⟩, q ga, ?_, fun b hb => ?_⟩, ⟨r.ext.g.trans sm, fun b h1 h2 => ?_, r.ext.h, r.ext.d, r.ext.p⟩, fun b hb => r.own b (sub b hb).1, r.fp, r.fg.trans sm⟩
  · by_cases w : b = a
    · subst w; rw [upd_same] at z; cases z; exact hH
    · rw [upd_ne w] at z; exact r.rs.rel.sub b o z
  · have : b ≠ a := by rintro rfl; exact pa hb
    rw [upd_ne this]; exact r.rs.rel.gn b hb
  · have : (p.flatten ++ (x ++ y)).Sublist (p.flatten ++ ow) := by
      rw [eo]
      exact List.Sublist.append (List.Sublist.refl _) (List.Sublist.append (List.Sublist.refl _) (List.sublist_cons_self a y))
    exact r.rs.nd.sublist this
  · rw [upd_ne (sub b hb).2]
    exact r.rs.gn b (sub b hb).1
  · have : b ≠ a := by rintro rfl; exact h2 nH
    rw [upd_ne this]; exact r.ext.gn b h1 h2
theorem own_at {K : PySem.W.Frag} {n : Snap} {p : List (List Addr)} {G H : Hp} {S : Sto} {t : DSt} {σ : L2.St} {ow : List Addr} {i : Nat} (r : RelF K n p G S H t σ ow) {β : Type} {f : List D → M β} {Z : Res β → Prop} (hZ : ¬ Z .stuck) (h : Z ((do let xs ← getO t i; f xs : M β) S)) :
    ∃ xs a vs, t[i]? = some (some (.own xs)) ∧ σ[i]? = some (some (.ref a)) ∧ a ∈ ow ∧ H a = some (.lst vs) ∧ DenL K p G xs vs ∧ Z (f xs S) := by
  rcases getO_of t i with ⟨xs, e, q⟩ | q
  · rw [q] at h
    obtain ⟨a, vs, e1, e2, e3, e4⟩ := r.rs.sl.getO e
    exact ⟨xs, a, vs, e, e1, e2, e3, e4, h⟩
  · rw [q] at h
    exact absurd h hZ
theorem own_later {K : PySem.W.Frag} {n : Snap} {p p1 : List (List Addr)} {G H G1 H1 : Hp} {S : Sto} {t : DSt} {σ : L2.St} {ow : List Addr} {a : Addr} {vs : List V} {xs : List D} (r : RelF K n p G S H t σ ow) (e : Ext p G H p1 G1 H1) (ha : a ∈ ow) (hH : H a = some (.lst vs)) (dn : DenL K p G xs vs) : H1 a = some (.lst vs) ∧ DenL K p1 G1 xs vs :=
  ⟨e.h a _ hH fun z => (List.nodup_append.mp r.rs.nd).2.2 a z a ha rfl, dn.mono e.pp e.g⟩
theorem ds_append (i : Nat) {x : Str} {px : Pos} (hN : X.N[i]? = some x := by rfl) (he : DE X W.x e ma) (hv : Vis X.env.scope x := by first | exact Or.inl rfl | exact Or.inr (Or.inl rfl) | exact Or.inr (Or.inr rfl)) (hd : (x == ("__debug__" : Str)) = false := by decide)
    (hcd : (x == ("__classdict__" : Str)) = false := by decide) (hst : starEach [e] X.env = [(false, eval e X.env)] := by rfl) (hfew : ((backTo cpos (starEach [e] X.env)).all (fun x => !x.1) && (backToKw cpos (keywordEach [] X.env)).all (fun x => x.1.isSome)
      && decide ([e].length + ([] : List Keyword).length + (if ([] : List Keyword).isEmpty then 0 else 1) < 30)) = true := by rfl) (hline : (apos.endLine == cpos.line) = true := by rfl) (hs : swapsWith (.Call (.Attribute (.Name x px) "append" apos) [e] [] cpos) none pos.line X.env = pure false := by rfl) :
    DS X W (.Expr (.Call (.Attribute (.Name x px) "append" apos) [e] [] cpos) pos) (fun t => do let xs ← getO t i; let y ← ma t; if xs.length < sizeLine then pure (.nx (t.set i (some (.own (xs ++ [y]))))) else stuck) := by
  refine PS.imp (ps_expr (pe_bm PySem.F.plainAttrs_list PySem.F.slot_list_append PySem.F.type_list_append mt_append (pe_var hN hv hd hcd) (pa_cons he pa_nil hst) rfl hfew hline hst rfl) hs) fun E σ H ⟨n, t, p, G, S, ow, r, h⟩ => ?_
  obtain ⟨xs, l, vs, e1, e2, e3, e4, e5, h⟩ := own_at (Z := fun z => okS X.K W n z E) r (fun z => z) h
  refine ⟨_, e2, .inl ⟨rfl, vs, SqL.of e4⟩, t, p, G, S, ow, r.rs, okS.seq h r fun y S1 v p1 G1 H1 ey dy r1 x1 h1 => ?_⟩
  obtain ⟨f1, f2⟩ := own_later r x1 e3 e4 e5
  by_cases hz : xs.length < sizeLine
  · have h2 : okS X.K W n ((if xs.length < sizeLine then pure (.nx (t.set i (some (.own (xs ++ [y]))))) else stuck : M Ctl) S1) E := h1
    rw [if_pos hz] at h2
    exact ⟨l, vs, v, rfl, rfl, f1, by rw [f2.length]; exact hz, h2 p1 G1 _ σ ow (r1.putO e1 e2 e3 (f2.append (DenL.one dy)))⟩
  · have h2 : okS X.K W n ((if xs.length < sizeLine then pure (.nx (t.set i (some (.own (xs ++ [y]))))) else stuck : M Ctl) S1) E := h1
    rw [if_neg hz] at h2
    exact h2.elim
def popO (xs : List D) : D → Option (D × List D)
  | .int k => if -(2 ^ 63) ≤ k ∧ k < 2 ^ 63 then (seqIndex? k xs.length).bind fun j => (xs[j]?).map fun y => (y, xs.eraseIdx j) else none
  | _ => none
theorem DenL.erase {K : PySem.W.Frag} {p : List (List Addr)} {G : Hp} : ∀ {zs : List D} {us : List V} (i : Nat), DenL K p G zs us → DenL K p G (zs.eraseIdx i) (us.eraseIdx i)
  | [], us, i, q => by
    cases (show us = [] from q)
    exact rfl
  | z :: zs, us, 0, ⟨w, r, e, q2, q3⟩ => by
    subst e
    exact q3
  | z :: zs, us, i + 1, ⟨w, r, e, q2, q3⟩ => by
    subst e
    exact ⟨w, _, rfl, q2, DenL.erase i q3⟩
theorem popO_ok {K : PySem.W.Frag} {p : List (List Addr)} {G : Hp} {xs : List D} {vs : List V} {d : D} {v : V} {y : D} {ys : List D} (dn : DenL K p G xs vs) (dd : Den K p G d v) (h : popO xs d = some (y, ys)) :
    ∃ k j u, v = .int k ∧ -(2 ^ 63) ≤ k ∧ k < 2 ^ 63 ∧ seqIndex? k vs.length = some j ∧ vs[j]? = some u ∧ Den K p G y u ∧ DenL K p G ys (vs.eraseIdx j) := by
  cases d <;> try cases h
  rename_i k
  unfold popO at h
  dsimp only at h
  by_cases hz : -(2 ^ 63) ≤ k ∧ k < 2 ^ 63
  · rw [if_pos hz] at h
    obtain ⟨j, e, h⟩ := Option.bind_eq_some_iff.mp h
    obtain ⟨w, e2, h⟩ := Option.map_eq_some_iff.mp h
    cases h
    obtain ⟨u, e3, e4⟩ := dn.get e2
    exact ⟨k, j, u, dd, hz.1, hz.2, by rw [dn.length]; exact e, e3, e4, dn.erase j⟩
  · rw [if_neg hz] at h
    cases h
def putO (xs : List D) (y : D) : D → Option (List D)
  | .int k => (ixN xs.length k).map fun j => xs.set j y
  | _ => none
theorem ds_setitem (i : Nat) {x : Str} {px pt : Pos} (hN : X.N[i]? = some x := by rfl) (he : DE X W.x e ma) (hb : DE X W.x b mb) (hv : Vis X.env.scope x := by first | exact Or.inl rfl | exact Or.inr (Or.inl rfl) | exact Or.inr (Or.inr rfl)) (hd : (x == ("__debug__" : Str)) = false := by decide)
    (hcd : (x == ("__classdict__" : Str)) = false := by decide) (ha : ∀ v, assign (.Subscript (.Name x px) b pt) X.env v = (do
      let ov ← holding [v] (eval (.Name x px) X.env)
      let iv ← holding [v, ov] (eval b X.env)
      standAt pt
      holding [v, ov, iv] (setItem ov iv v)
      release [v, ov, iv] []) := by intro _; rfl) (hs : swapsWithSole [.Subscript (.Name x px) b pt] e pos.line X.env = pure false := by rfl) (hw : swappedStores [.Subscript (.Name x px) b pt] e X.env = pure none := by rfl)
    (h1 : (assignEach [.Subscript (.Name x px) b pt] X.env).map (·.2) = [assign (.Subscript (.Name x px) b pt) X.env] := by rfl) :
    DS X W (.Assign [.Subscript (.Name x px) b pt] e pos) (fun t => do let y ← ma t; let xs ← getO t i; let k ← mb t; let zs ← liftO (putO xs y k); pure (.nx (t.set i (some (.own zs))))) := by
  refine PS.imp (ps_asg he (pg_sub (pe_var hN hv hd hcd) hb set_list ha) hs hw h1) fun E σ H ⟨n, t, p, G, S, ow, r, h⟩ => ?_
  refine ⟨t, p, G, S, ow, r.rs, okS.seq h r fun y S1 v p1 G1 H1 ey dy r1 x1 h1 => ?_⟩
  obtain ⟨xs, l, vs, e1, e2, e3, e4, e5, h1⟩ := own_at (Z := fun z => okS X.K W n z E) r1 (fun z => z) h1
  refine ⟨_, e2, t, p1, G1, S1, ow, r1.rs, okS.seq h1 r1 fun k S2 kv p2 G2 H2 ek dk r2 x2 h2 => ?_⟩
  obtain ⟨f1, f2⟩ := own_later r1 x2 e3 e4 e5
  cases k <;> try exact h2.elim
  rename_i k
  cases eq : ixN xs.length k with
  | none =>
    have h3 : okS X.K W n ((liftO ((ixN xs.length k).map fun j => xs.set j y) >>= fun zs => (pure (.nx (t.set i (some (.own zs)))) : M Ctl)) S2) E := h2
    rw [eq] at h3
    exact h3.elim
  | some j =>
    have h3 : okS X.K W n ((liftO ((ixN xs.length k).map fun j => xs.set j y) >>= fun zs => (pure (.nx (t.set i (some (.own zs)))) : M Ctl)) S2) E := h2
    rw [eq] at h3
    refine ⟨l, vs, k, j, rfl, dk, f1, by rw [f2.length]; exact eq, ?_⟩
    exact h3 p2 G2 _ σ ow (r2.putO e1 e2 e3 (f2.set (dy.mono x2.pp x2.g) j))
end
end RM

namespace RM
open PySem PySem.Spec PyProof.Rows L2
variable [PgW]

mutual
def D.low (n : Nat) : D → Bool
  | .mref i => decide (i < n)
  | .tup xs => lowL n xs
  | .lst xs => lowL n xs
  | .ins _ _ fs => lowL n fs
  | .dic _ vs => lowL n vs
  | .non => true
  | .bl _ => true
  | .int _ => true
  | .str _ => true
  | .scr _ => true
  | .xcp _ _ fs => lowL n fs
  | .dct _ vs => lowL n vs
def lowL (n : Nat) : List D → Bool
  | [] => true
  | d :: ds => D.low n d && lowL n ds
end
section
variable {K : PySem.W.Frag} {p r : List (List Addr)} {G : Hp}
mutual
theorem Den.shrink : ∀ {d : D} {v : V}, Den K (p ++ r) G d v → d.low p.length = true → Den K p G d v
  | .non, _, h, _ => h
  | .bl _, _, h, _ => h
  | .int _, _, h, _ => h
  | .str _, _, h, _ => h
  | .tup _, _, ⟨a, vs, h1, h2, h3⟩, e => ⟨a, vs, h1, h2, DenL.shrink h3 e⟩
  | .lst _, _, ⟨a, vs, h1, h2, h3⟩, e => ⟨a, vs, h1, h2, DenL.shrink h3 e⟩
  | .ins _ _ _, _, ⟨a, dx, vs, h1, h2, h4, h3⟩, e => ⟨a, dx, vs, h1, h2, h4, DenL.shrink h3 e⟩
  | .mref i, _, ⟨a, q, h1, h2⟩, e => by
    have hi : i < p.length := of_decide_eq_true e
    rw [List.getElem?_append_left hi] at h1
    exact ⟨a, q, h1, h2⟩
  | .dic _ _, _, ⟨a, o, vs, h1, h2, h4, h3⟩, e => ⟨a, o, vs, h1, h2, h4, DenL.shrink h3 e⟩
  | .scr _, _, h, _ => h
  | .xcp _ _ _, _, ⟨a, dd, vs, h1, h2, h3, h4, h5⟩, e => ⟨a, dd, vs, h1, h2, h3, h4, DenL.shrink h5 e⟩
  | .dct _ _, _, ⟨a, o, u, h1, h2, h3⟩, e => ⟨a, o, u, h1, h2, h3.imp id fun ⟨es, vs, h4, h5, h6, h7, h8⟩ => ⟨es, vs, h4, h5, h6, h7, DenL.shrink h8 e⟩⟩
theorem DenL.shrink : ∀ {ds : List D} {vs : List V}, DenL K (p ++ r) G ds vs → lowL p.length ds = true → DenL K p G ds vs
  | [], _, h, _ => h
  | _ :: _, _, ⟨v, q, h1, h2, h3⟩, e => by
    have e' := Bool.and_eq_true_iff.mp e
    exact ⟨v, q, h1, Den.shrink h2 e'.1, DenL.shrink h3 e'.2⟩
end
end
def moLow (n : Nat) : MO → Bool
  | .tape _ => true
  | .inst _ _ fs => lowL n fs
  | .tab _ _ => true
  | .lst xs => lowL n xs
  | .kd kv => lowL n (kv.map (·.2))
theorem lowL_mem {n : Nat} : ∀ {ds : List D}, lowL n ds = true → ∀ d ∈ ds, D.low n d = true
  | [], _, _, h => by cases h
  | x :: xs, h, d, hd => by
    have h' := Bool.and_eq_true_iff.mp (show (D.low n x && lowL n xs) = true from h)
    rcases List.mem_cons.mp hd with rfl | hd
    · exact h'.1
    · exact lowL_mem h'.2 d hd
theorem MoAt.shrink {K : PySem.W.Frag} {p r : List (List Addr)} {G H : Hp} : ∀ {as : List Addr} {o : MO}, MoAt K (p ++ r) G H as o → moLow p.length o = true → MoAt K p G H as o
  | [_, _, _], .tape _, h, _ => h
  | [_], .inst _ _ _, ⟨n, dx, vs, h1, h2, h3⟩, e => ⟨n, dx, vs, h1, h2, h3.shrink e⟩
  | [_], .tab _ _, h, _ => h
  | [_], .lst _, ⟨n, vs, h1, h3⟩, e => ⟨n, vs, h1, h3.shrink e⟩
  | [_], .kd kv, ⟨n, es, h1, h3⟩, e => ⟨n, es, h1, h3.imp (fun _ _ z => z) fun x hx v dv => dv.shrink (lowL_mem e _ (List.mem_map_of_mem hx))⟩

structure FldT (K : PySem.W.Frag) (tab : List (Str × Str)) : Prop where
  cl : ∀ q ∈ tab, Cls K (He.ga K q.1)
  na : ∀ q ∈ tab, NoAttr K (He.ga K q.1) q.2
def fldB (K : PySem.W.Frag) (tab : List (Str × Str)) : Bool := tab.all fun q => (He.Fa.cls q.1).ok K && (He.Fa.noat q.1 q.2).ok K
theorem fldB_ok {K : PySem.W.Frag} {tab : List (Str × Str)} (h : fldB K tab = true) : FldT K tab :=
  ⟨fun q hq => He.cls_ok (Bool.and_eq_true_iff.mp (List.all_eq_true.mp h q hq)).1, fun q hq => He.noat_ok (Bool.and_eq_true_iff.mp (List.all_eq_true.mp h q hq)).2⟩
def lookF : List Str → List D → Str → Option D
  | n :: ns, d :: ds, f => if f = n then some d else lookF ns ds f
  | _, _, _ => none
theorem lookF_den {K : PySem.W.Frag} {p : List (List Addr)} {G : Hp} {f : Str} {d : D} : ∀ {ns : List Str} {fs : List D} {vs : List V}, DenL K p G fs vs → lookF ns fs f = some d → ∃ v, (ns.zip vs).lookup f = some v ∧ Den K p G d v
  | [], fs, _, _, e => by cases fs <;> cases e
  | _ :: _, [], _, _, e => by cases e
  | n :: ns, x :: xs, _, ⟨v, r, h1, h2, h3⟩, e => by
    subst h1
    unfold lookF at e
    show ∃ v', ((n, v) :: ns.zip r).lookup f = some v' ∧ _
    rw [List.lookup_cons]
    by_cases q : f = n
    · rw [if_pos q] at e
      cases e
      have : (f == n) = true := by rw [q]; exact beq_self_eq_true n
      rw [this]
      exact ⟨v, rfl, h2⟩
    · rw [if_neg q] at e
      have : (f == n) = false := beq_eq_false_iff_ne.mpr q
      rw [this]
      exact lookF_den h3 e
def fldD (tab : List (Str × Str)) (f : Str) (d : D) : M D := fun S => match d with
  | .ins c ns fs => if (c, f) ∈ tab then match lookF ns fs f with
      | some x => .ok x S
      | none => .stuck
    else .stuck
  | .mref i => match S[i]? with
    | some (.inst c ns fs) => if (c, f) ∈ tab then match lookF ns fs f with
        | some x => .ok x S
        | none => .stuck
      else .stuck
    | _ => .stuck
  | _ => .stuck
theorem Rel0.inst {K : PySem.W.Frag} {p : List (List Addr)} {S : Sto} {G H : Hp} {i : Nat} {c : Str} {ns : List Str} {fs : List D} {a : Addr} {r : List Addr} (rel : Rel0 K p S G H) (hp : p[i]? = some (a :: r)) (hs : S[i]? = some (.inst c ns fs)) : r = [] ∧ noLstL fs = true ∧ ∃ dx vs, H a = some (.ins (He.ga K c) dx (ns.zip vs)) ∧ vs.length = ns.length ∧ DenL K p G fs vs := by
  have m := rel.mo i _ _ hp hs
  cases r with
  | nil => exact ⟨rfl, m⟩
  | cons b r =>
    cases r with
    | nil => exact m.elim
    | cons c2 r =>
      cases r with
      | nil => exact m.elim
      | cons _ _ => exact m.elim
section
variable {X : Cx} {W : WX} {a : Expr} {ma : DSt → M D} {pos : Pos} {tab : List (Str × Str)}
theorem de_fld (T : FldT X.K tab) (f : Str) (ha : DE X W a ma) (hb : attributeBase a f X.env (eval a X.env) = eval a X.env := by rfl) : DE X W (.Attribute a f pos) (fun t => do let x ← ma t; fldD tab f x) := by
  refine PE.imp (pe_fld ha hb) fun σ H Q ⟨t, p, G, S, ow, r, h⟩ => ?_
  refine ⟨t, p, G, S, ow, r, okR.seq h fun d S1 v p1 G1 H1 e1 dn r1 x1 h1 => ?_⟩
  unfold fldD at h1
  cases d <;> try exact h1.elim
  · rename_i c ns fs
    dsimp only at h1
    by_cases hz : (c, f) ∈ tab
    · rw [if_pos hz] at h1
      cases e : lookF ns fs f with
      | none => rw [e] at h1; exact h1.elim
      | some y =>
        rw [e] at h1
        obtain ⟨l, dx, vs, rfl, hl, hlen, hv⟩ := dn
        obtain ⟨u, e2, e3⟩ := lookF_den hv e
        exact ⟨l, _, dx, _, u, rfl, r1.sub _ _ hl, T.cl _ hz, T.na _ hz, e2, okR.fin h1 e3 r1⟩
    · rw [if_neg hz] at h1
      exact h1.elim
  · rename_i i
    dsimp only at h1
    cases es : S1[i]? with
    | none => rw [es] at h1; exact h1.elim
    | some o =>
      rw [es] at h1
      cases o with
      | tape _ => exact h1.elim
      | kd _ => exact h1.elim
      | tab _ _ => exact h1.elim
      | lst _ => exact h1.elim
      | inst c ns fs =>
        dsimp only at h1
        by_cases hz : (c, f) ∈ tab
        · rw [if_pos hz] at h1
          cases e : lookF ns fs f with
          | none => rw [e] at h1; exact h1.elim
          | some y =>
            rw [e] at h1
            obtain ⟨l, q, hp, rfl⟩ := dn
            obtain ⟨rfl, _, dx, vs, hl, hlen, hv⟩ := r1.inst hp es
            obtain ⟨u, e2, e3⟩ := lookF_den hv e
            exact ⟨l, _, dx, _, u, rfl, hl, T.cl _ hz, T.na _ hz, e2, okR.fin h1 e3 r1⟩
        · rw [if_neg hz] at h1
          exact h1.elim
end
theorem putF_new {f : Str} {v : V} : ∀ {ns : List Str} {vs : List V}, f ∉ ns → vs.length = ns.length → putF f v (ns.zip vs) = (ns ++ [f]).zip (vs ++ [v])
  | [], [], _, _ => rfl
  | [], _ :: _, _, h => by cases h
  | _ :: _, [], _, h => by cases h
  | n :: ns, u :: vs, hn, hl => by
    simp only [List.mem_cons, not_or] at hn
    show putF f v ((n, u) :: ns.zip vs) = (n, u) :: (ns ++ [f]).zip (vs ++ [v])
    unfold putF
    rw [if_neg (fun e => hn.1 e.symm), putF_new hn.2 (by simpa using hl)]
theorem lookup_zipNone {f : Str} : ∀ {ns : List Str} {vs : List V}, f ∉ ns → (ns.zip vs).lookup f = none
  | [], _, _ => rfl
  | _ :: _, [], _ => rfl
  | n :: ns, v :: vs, h => by
    simp only [List.mem_cons, not_or] at h
    show ((n, v) :: ns.zip vs).lookup f = none
    rw [List.lookup_cons, beq_eq_false_iff_ne.mpr h.1]
    exact lookup_zipNone h.2
theorem flat_apart {a : Addr} : ∀ {l : List (List Addr)} {i j : Nat} {x y : List Addr}, l.flatten.Nodup → l[i]? = some x → l[j]? = some y → i ≠ j → a ∈ x → a ∈ y → False
  | [], _, _, _, _, _, e, _, _, _, _ => by simp at e
  | z :: l, 0, 0, _, _, _, _, _, n, _, _ => n rfl
  | z :: l, 0, j + 1, x, y, nd, e1, e2, _, h1, h2 => by
    simp at e1; subst e1
    rw [List.flatten_cons, List.nodup_append] at nd
    exact nd.2.2 a h1 a (List.mem_flatten.mpr ⟨y, List.mem_of_getElem? (by simpa using e2), h2⟩) rfl
  | z :: l, i + 1, 0, x, y, nd, e1, e2, _, h1, h2 => by
    simp at e2; subst e2
    rw [List.flatten_cons, List.nodup_append] at nd
    exact nd.2.2 a h2 a (List.mem_flatten.mpr ⟨x, List.mem_of_getElem? (by simpa using e1), h1⟩) rfl
  | z :: l, i + 1, j + 1, x, y, nd, e1, e2, n, h1, h2 => by
    rw [List.flatten_cons, List.nodup_append] at nd
    exact flat_apart (i := i) (j := j) nd.2.1 (by simpa using e1) (by simpa using e2) (fun e => n (by rw [e])) h1 h2
theorem Rel0.put {K : PySem.W.Frag} {p : List (List Addr)} {S : Sto} {G H : Hp} {i : Nat} {c : Str} {ns ns' : List Str} {fs fs' : List D} {a dx : Addr} {vs' : List V} (r : Rel0 K p S G H) (hp : p[i]? = some [a]) (hs : S[i]? = some (.inst c ns fs)) (hl : vs'.length = ns'.length) (dn : DenL K p G fs' vs') (nl : noLstL fs' = true) :
    Rel0 K p (S.set i (.inst c ns' fs')) G (upd H a (.ins (He.ga K c) dx (ns'.zip vs'))) := by
  have ha : a ∈ p.flatten := List.mem_flatten.mpr ⟨[a], List.mem_of_getElem? hp, by simp⟩
  have ga := r.gn a ha
  have hi : i < S.length := (List.getElem?_eq_some_iff.mp hs).1
  refine ⟨fun b o e => ?_, by rw [List.length_set]; exact r.len, fun j as o e1 e2 => ?_, r.nd, r.gn⟩
  · rw [upd_ne (ne_of_none e ga)]
    exact r.sub b o e
  · by_cases hj : i = j
    · subst hj
      rw [hp] at e1
      cases e1
      rw [List.getElem?_set_self hi] at e2
      cases e2
      exact ⟨nl, dx, vs', upd_same, hl, dn⟩
    · rw [List.getElem?_set_ne hj] at e2
      refine (r.mo j as o e1 e2).mono ⟨[], by simp⟩ (Same.refl _) fun b hb => upd_ne ?_
      rintro rfl
      exact flat_apart r.nd hp e1 hj (by simp) hb
theorem Ext.put {p : List (List Addr)} {G H : Hp} {i : Nat} {a : Addr} {r : List Addr} {o : HO} (hp : p[i]? = some (a :: r)) : Ext p G H p G (upd H a o) := by
  have ha : a ∈ p.flatten := List.mem_flatten.mpr ⟨a :: r, List.mem_of_getElem? hp, by simp⟩
  refine ⟨Same.refl _, fun _ h _ => h, fun b u e hb => ?_, fun b e => ?_, [], by simp, by simp⟩
  · have : b ≠ a := by rintro rfl; exact hb ha
    rw [upd_ne this]; exact e
  · by_cases q : b = a
    · subst q; rw [upd_same]; simp
    · rw [upd_ne q]; exact e
theorem guards_make {A : Around} {C : Addr} {us : List Value} {kw : List (Str × Value)} : (A.under (.builtin "type.__call__" ⟨.ref C :: us, kw⟩)).guards = A.guards := by
  first | rfl | simp [Around.under, Code.guards, Code.isGuard, guardIds, pushGuards]
section
variable {X : Cx} {W : WX} {a b c : Expr} {es : List Expr} {kw : List Keyword} {ms mk : DSt → M (List D)} {pos p : Pos} {k : Nat} {f : Addr} {fd : FuncData} {ps ks : List Str} {g : List D → M D} {dvs : List V} {ds : List Value} {dds : List D} {sp : Sp}
theorem make_G {pins : List (Addr × Obj)} {σ : L2.St} {H : Hp} {s : Shared} {Q : VK} {C : Addr} {us : List Value} {kv : List (Str × Value)} {zs : List Value} {vs : List V} (M : Mk X.K C f) (F : FnG X.prog X.w X.K X.mg X.base k f fd ps sp) (hr : Room (k + 1) X.A) (hG : X.A.guards = some []) (tk : Takes X W)
    (I : Inv X pins σ H s) (bd : ∀ (s : Shared) (u : Value), X.K.In s.heap → BindsTo s fd ⟨u :: us, kv⟩ (ps.zip (u :: zs))) (r : Vals vs zs)
    (h : ∀ x dx, H x = none → H dx = none → dx ≠ x → sp (.ref x :: vs) (upd (upd H dx (.own x)) x (.ins C dx [])) (fun v H2 => v = .non ∧ Q (.ref x) H2) fun c d H' => W c d σ H') :
    wpAny (model X.prog X.w) X.A (call (.ref C) us kv) (EP X pins σ Q) X.xe s := by
  have hq := h (s.heap.objs.size + 1) s.heap.objs.size (I.hok.fresh (Nat.le_succ _)) (I.hok.fresh (Nat.le_refl _)) (Nat.ne_of_lt (Nat.lt_succ_self _))
  have J := Inv.made (C := C) I
  have go := F.go _ X.stack _ _ ⟨Value.ref (s.heap.objs.size + 1) :: us, kv⟩ (Value.ref (s.heap.objs.size + 1) :: zs) (V.ref (s.heap.objs.size + 1) :: vs) _ _ (guards_make (A := X.A) (C := C) (us := us) (kw := kv) ▸ hG) (hr.make C us kv) (J.env0.make C us kv) (bd _ _ J.kIn) (.cons rfl r) hq
  refine wpAny_call (make_map (f := f) I.kIn M.makes M.init (beq_iff_eq.mp M.fn) (codeAny_mono go fun q s2 hs => ?_))
  match q, hs with
  | .error e, hs => exact tk e s2 (XE.of_call J (fun _ _ _ z => z) hs)
  | .ok (.ret u), hs =>
    obtain ⟨v, H2, J2, rv, ev, q2⟩ := J.after hs
    subst ev
    exact ⟨rv, ⟨V.ref (s.heap.objs.size + 1), H2, J2, rfl, q2⟩⟩
  | .ok .next, hs => exact False.elim hs
  | .ok .brk, hs => exact False.elim hs
  | .ok .cont, hs => exact False.elim hs
end
end RM

namespace RM
open PySem PySem.Spec PyProof.Rows L2
variable [PgW]

def whileD (c : DSt → M Bool) (b : DSt → M Ctl) : Nat → DSt → M Ctl
  | 0, _ => stuck
  | n + 1, t => do
    if ← c t then do
      let r ← b t
      match r with
      | .nx t' => whileD c b n t'
      | .ct t' => whileD c b n t'
      | .bk t' => pure (.nx t')
      | .rt x => pure (.rt x)
      | .rl x => pure (.rl x)
    else pure (.nx t)
section
variable {X : Cx} {W : Wf} {c : Expr} {body : List Stmt} {mc : DSt → M Bool} {mb : DSt → M Ctl} {pos : Pos}
theorem ds_while (fuel : Nat) (hp : PassesOwn (model X.prog X.w) X.A X.env X.xe) (hc : DT X W.x c mc) (hb : DSs X W body mb) : DS X W (.While c body [] pos) (fun t => whileD mc mb fuel t) := by
  refine PS.imp (ps_while hp hc hb) fun E σ H ⟨n, t, p, G, S, ow, r, h⟩ => ?_
  refine ⟨fun k σ' H' => ∃ t' p' G' S' ow', RelF X.K n p' G' S' H' t' σ' ow' ∧ okS X.K W n (whileD mc mb k t' S') E, ⟨fuel, t, p, G, S, ow, r, h⟩, ?_⟩
  rintro k σ1 H1 ⟨t1, p1, G1, S1, ow1, r1, h1⟩
  cases k with
  | zero => exact h1.elim
  | succ k =>
    have h2 : okS X.K W n ((mc t1 >>= _) S1) E := h1
    refine ⟨t1, p1, G1, S1, ow1, r1.rs, okS.seq h2 r1 fun b S2 bv p2 G2 H2 eb db r2 x2 h3 => ?_⟩
    cases db
    cases b with
    | false => exact iteF (h3 p2 G2 H2 σ1 ow1 r2)
    | true =>
      refine iteT ⟨fun σ3 H3 => ∃ t3 p3 G3 S3 ow3, RelF X.K n p3 G3 S3 H3 t3 σ3 ow3 ∧ okS X.K W n (whileD mc mb k t3 S3) E, fun σ3 H3 q => ⟨k, Nat.lt_succ_self k, q⟩, n, t1, p2, G2, S2, ow1, r2, ?_⟩
      have h4 : okS X.K W n ((mb t1 S2).andThen _) E := h3
      cases em : mb t1 S2 with
      | stuck => rw [em] at h4; exact h4
      | exc z S3 => rw [em] at h4; exact h4
      | ok q S3 =>
        rw [em] at h4
        cases q with
        | nx t3 => exact fun p4 G4 H4 σ4 ow4 r4 => ⟨t3, p4, G4, S3, ow4, r4, h4⟩
        | ct t3 => exact fun p4 G4 H4 σ4 ow4 r4 => ⟨t3, p4, G4, S3, ow4, r4, h4⟩
        | bk t3 => exact h4
        | rt d => exact h4
        | rl d => exact h4
end
def tapeOf (d : D) : M Tape := fun S => match d with
  | .mref i => match S[i]? with
    | some (.tape t) => .ok t S
    | _ => .stuck
  | _ => .stuck
def tapeSet (d : D) (t : Tape) : M Unit := fun S => match d with
  | .mref i => match S[i]? with
    | some (.tape _) => .ok () (S.set i (.tape t))
    | _ => .stuck
  | _ => .stuck
theorem tapeOf_of (d : D) (S : Sto) : (∃ i t, d = .mref i ∧ S[i]? = some (.tape t) ∧ tapeOf d S = .ok t S) ∨ tapeOf d S = .stuck := by
  unfold tapeOf
  cases d with
  | mref i =>
    dsimp only
    cases e : S[i]? with
    | none => exact .inr rfl
    | some o =>
      cases o with
      | tape t => exact .inl ⟨i, t, rfl, e, rfl⟩
      | inst _ _ _ => exact .inr rfl
      | tab _ _ => exact .inr rfl
      | lst _ => exact .inr rfl
      | kd _ => exact .inr rfl
  | _ => exact .inr rfl
structure TapeAt (H : Hp) (a l c : Addr) (t : Tape) : Prop where
  d : H a = some (.dK [(.inr "large", .ref l), (.inr "cells", .ref c), (.inr "rest", .int t.rest), (.inr "turn", .int t.turn)])
  l : H l = some (.lst (t.large.map .int))
  c : H c = some (.lst (t.cells.map .int))
theorem Rel0.tape {K : PySem.W.Frag} {p : List (List Addr)} {S : Sto} {G H : Hp} {i : Nat} {t : Tape} {a : Addr} {q : List Addr} (r : Rel0 K p S G H) (hp : p[i]? = some (a :: q)) (hs : S[i]? = some (.tape t)) : ∃ l c, q = [l, c] ∧ TapeAt H a l c t := by
  have m := r.mo i _ _ hp hs
  match q, m with
  | [], m => exact m.elim
  | [_], m => exact m.elim
  | [l, c], ⟨h1, h2, h3⟩ => exact ⟨l, c, rfl, h1, h2, h3⟩
  | _ :: _ :: _ :: _, m => exact m.elim
theorem Rel0.wind {K : PySem.W.Frag} {p : List (List Addr)} {S : Sto} {G H H' : Hp} {i : Nat} {t t' : Tape} {a l c : Addr} (r : Rel0 K p S G H) (hp : p[i]? = some [a, l, c]) (hs : S[i]? = some (.tape t)) (k : ∀ b, b ≠ a → b ≠ l → b ≠ c → H' b = H b) (ta : TapeAt H' a l c t') :
    Rel0 K p (S.set i (.tape t')) G H' ∧ Ext p G H p G H' := by
  have mem : ∀ b ∈ [a, l, c], b ∈ p.flatten := fun b hb => List.mem_flatten.mpr ⟨_, List.mem_of_getElem? hp, hb⟩
  have hi : i < S.length := (List.getElem?_eq_some_iff.mp hs).1
  have far : ∀ b, b ∉ p.flatten → H' b = H b := fun b hb => k b (by rintro rfl; exact hb (mem _ (by simp))) (by rintro rfl; exact hb (mem _ (by simp))) (by rintro rfl; exact hb (mem _ (by simp)))
  refine ⟨⟨fun b o e => ?_, by rw [List.length_set]; exact r.len, fun j as o e1 e2 => ?_, r.nd, r.gn⟩, ⟨Same.refl _, fun _ h _ => h, fun b o e hb => by rw [far b hb]; exact e, fun b e => ?_, [], by simp, by simp⟩⟩
  · have nb : b ∉ p.flatten := fun z => by rw [r.gn b z] at e; cases e
    rw [far b nb]
    exact r.sub b o e
  · by_cases hj : i = j
    · subst hj
      rw [hp] at e1; cases e1
      rw [List.getElem?_set_self hi] at e2; cases e2
      exact ⟨ta.d, ta.l, ta.c⟩
    · rw [List.getElem?_set_ne hj] at e2
      refine (r.mo j as o e1 e2).mono ⟨[], by simp⟩ (Same.refl _) fun b hb => k b ?_ ?_ ?_
      · rintro rfl; exact flat_apart r.nd hp e1 hj (by simp) hb
      · rintro rfl; exact flat_apart r.nd hp e1 hj (by simp) hb
      · rintro rfl; exact flat_apart r.nd hp e1 hj (by simp) hb
  · by_cases h1 : b = a
    · subst h1; rw [ta.d]; simp
    · by_cases h2 : b = l
      · subst h2; rw [ta.l]; simp
      · by_cases h3 : b = c
        · subst h3; rw [ta.c]; simp
        · rw [k b h1 h2 h3]; exact e
theorem tape_apart {K : PySem.W.Frag} {p : List (List Addr)} {S : Sto} {G H : Hp} {i : Nat} {a l c : Addr} (r : Rel0 K p S G H) (hp : p[i]? = some [a, l, c]) : a ≠ l ∧ a ≠ c ∧ l ≠ c := by
  have sub : [a, l, c].Sublist p.flatten := by
    obtain ⟨hi, e⟩ := List.getElem?_eq_some_iff.mp hp
    rw [← e]
    exact List.sublist_flatten_of_mem (List.getElem_mem hi)
  have := r.nd.sublist sub
  simp at this
  exact ⟨this.1.1, this.1.2, this.2⟩
theorem state_at {K : PySem.W.Frag} {p : List (List Addr)} {G H : Hp} {S : Sto} {t : DSt} {σ : L2.St} {ow : List Addr} {i : Nat} (r : RelS K p G S H t σ ow) {β : Type} {f : D → Tape → M β} {Z : Res β → Prop} (hZ : ¬ Z .stuck) (h : Z ((do let o ← getV t i; let tp ← tapeOf o; f o tp : M β) S)) :
    ∃ j tp a l c, t[i]? = some (some (.val (.mref j))) ∧ σ[i]? = some (some (.ref a)) ∧ p[j]? = some [a, l, c] ∧ S[j]? = some (.tape tp) ∧ TapeAt H a l c tp ∧ Z (f (.mref j) tp S) := by
  rcases getV_of t i with ⟨d, e, q⟩ | q
  · rw [q] at h
    have h1 : Z ((tapeOf d S).andThen fun tp => f d tp) := h
    rcases tapeOf_of d S with ⟨j, tp, rfl, hs, e2⟩ | e2
    · rw [e2] at h1
      obtain ⟨v, ev, a, q2, hp, rfl⟩ := r.sl.get e
      obtain ⟨l, c, rfl, ta⟩ := r.rel.tape hp hs
      exact ⟨j, tp, a, l, c, e, ev, hp, hs, ta, h1⟩
    · rw [e2] at h1
      exact absurd h1 hZ
  · rw [q] at h
    exact absurd h hZ
theorem vRest {l c : Addr} {r u : Int} : valV ([(.inr "large", .ref l), (.inr "cells", .ref c), (.inr "rest", .int r), (.inr "turn", .int u)] : List (Key × V)) (.inr "rest") = some (.int r) := rfl
theorem vTurn {l c : Addr} {r u : Int} : valV ([(.inr "large", .ref l), (.inr "cells", .ref c), (.inr "rest", .int r), (.inr "turn", .int u)] : List (Key × V)) (.inr "turn") = some (.int u) := rfl
theorem vLarge {l c : Addr} {r u : Int} : valV ([(.inr "large", .ref l), (.inr "cells", .ref c), (.inr "rest", .int r), (.inr "turn", .int u)] : List (Key × V)) (.inr "large") = some (.ref l) := rfl
theorem vCells {l c : Addr} {r u : Int} : valV ([(.inr "large", .ref l), (.inr "cells", .ref c), (.inr "rest", .int r), (.inr "turn", .int u)] : List (Key × V)) (.inr "cells") = some (.ref c) := rfl
theorem pRest {l c : Addr} {r u k : Int} : putK ([(.inr "large", .ref l), (.inr "cells", .ref c), (.inr "rest", .int r), (.inr "turn", .int u)] : List (Key × V)) (.inr "rest") (.int k) = [(.inr "large", .ref l), (.inr "cells", .ref c), (.inr "rest", .int k), (.inr "turn", .int u)] := rfl
theorem pTurn {l c : Addr} {r u k : Int} : putK ([(.inr "large", .ref l), (.inr "cells", .ref c), (.inr "rest", .int r), (.inr "turn", .int u)] : List (Key × V)) (.inr "turn") (.int k) = [(.inr "large", .ref l), (.inr "cells", .ref c), (.inr "rest", .int r), (.inr "turn", .int k)] := rfl
section
variable {X : Cx} {W : WX} {a b e : Expr} {ma mb me : DSt → M D} {pos p1 p2 p3 p4 : Pos} {j : Nat} {x : Str}
theorem de_rest (i : Nat) (hu : X.A.units + 1 < cLine) (hN : X.N[i]? = some x := by rfl) (hv : Vis X.env.scope x := by first | exact Or.inl rfl | exact Or.inr (Or.inl rfl) | exact Or.inr (Or.inr rfl)) (hd : (x == ("__debug__" : Str)) = false := by decide)
    (hcd : (x == ("__classdict__" : Str)) = false := by decide) : DE X W (.Subscript (.Name x p1) (.Constant (.str "rest") j p2) pos) (fun t => do let o ← getV t i; let tp ← tapeOf o; pure (.int tp.rest)) := by
  refine PE.imp (pe_dget hu (pe_var hN hv hd hcd) pe_str (fun _ _ => rfl)) fun σ H Q ⟨t, p, G, S, ow, r, h⟩ => ?_
  obtain ⟨k, tp, l0, l, c, e1, e2, hp, hs, ta, h⟩ := state_at (Z := fun z => okR (Den X.K) X.K p G H (fun c d H' => W c d σ H') z Q) r (fun z => z) h
  exact ⟨_, e2, l0, _, rfl, vRest ▸ DGet.k (k := .inr "rest") ta.d, okR.fin (v := V.int _) h rfl r.rel⟩
theorem de_turn (i : Nat) (hu : X.A.units + 1 < cLine) (hN : X.N[i]? = some x := by rfl) (hv : Vis X.env.scope x := by first | exact Or.inl rfl | exact Or.inr (Or.inl rfl) | exact Or.inr (Or.inr rfl)) (hd : (x == ("__debug__" : Str)) = false := by decide)
    (hcd : (x == ("__classdict__" : Str)) = false := by decide) : DE X W (.Subscript (.Name x p1) (.Constant (.str "turn") j p2) pos) (fun t => do let o ← getV t i; let tp ← tapeOf o; pure (.int tp.turn)) := by
  refine PE.imp (pe_dget hu (pe_var hN hv hd hcd) pe_str (fun _ _ => rfl)) fun σ H Q ⟨t, p, G, S, ow, r, h⟩ => ?_
  obtain ⟨k, tp, l0, l, c, e1, e2, hp, hs, ta, h⟩ := state_at (Z := fun z => okR (Den X.K) X.K p G H (fun c d H' => W c d σ H') z Q) r (fun z => z) h
  exact ⟨_, e2, l0, _, rfl, vTurn ▸ DGet.k (k := .inr "turn") ta.d, okR.fin (v := V.int _) h rfl r.rel⟩
theorem dp_ints {K : PySem.W.Frag} {H : Hp} : ∀ ns : List Int, DpAll K H (ns.map .int) (ns.map .int)
  | [] => .nil
  | n :: ns => .cons (.int n) (dp_ints ns)
theorem lay_ints : ∀ ns : List Int, PyData.canLayAll0 (ns.map PyData.int) = true
  | [] => rfl
  | n :: ns => by
    show (PyData.canLay0 (.int n) && PyData.canLayAll0 (ns.map PyData.int)) = true
    rw [lay_ints ns]; rfl
theorem depth_ints : ∀ ns : List Int, PyData.depthAll (ns.map PyData.int) = 0
  | [] => rfl
  | n :: ns => by
    show max (PyData.depth (.int n)) (PyData.depthAll (ns.map PyData.int)) = 0
    rw [depth_ints ns]; rfl
theorem shaped_ints (ns : List Int) : SeqAt.shaped (.list (ns.map .int)) = true := by
  unfold SeqAt.shaped
  have h1 : PyData.canLay0 (.list (ns.map .int)) = true := lay_ints ns
  have h2 : PyData.depth (.list (ns.map .int)) = 1 := by
    show PyData.depthAll (ns.map PyData.int) + 1 = 1
    rw [depth_ints]
  rw [h1, h2]; rfl
theorem eqv_nil (ns : List Int) : (!PyData.eqv (.list (ns.map .int)) (.list [])) = !ns.isEmpty := by
  cases ns <;> rfl
theorem dt_large (i : Nat) (hu : X.A.units + 64 < cLine) (hN : X.N[i]? = some x := by rfl) (hv : Vis X.env.scope x := by first | exact Or.inl rfl | exact Or.inr (Or.inl rfl) | exact Or.inr (Or.inr rfl)) (hd : (x == ("__debug__" : Str)) = false := by decide)
    (hcd : (x == ("__classdict__" : Str)) = false := by decide) : DT X W (.Compare (.Subscript (.Name x p1) (.Constant (.str "large") j p2) p3) [.NotEq] [.List [] p4] pos) (fun t => do let o ← getV t i; let tp ← tapeOf o; pure (!tp.large.isEmpty)) := by
  refine PT.imp (pt_cmpR (op_neD hu) (pe_dget (by omega) (pe_var hN hv hd hcd) pe_str (fun _ _ => rfl)) (pe_lst pa_nil) (nomark _)) fun σ H Q ⟨t, p, G, S, ow, r, h⟩ => ?_
  obtain ⟨k, tp, l0, l, c, e1, e2, hp, hs, ta, h⟩ := state_at (Z := fun z => okR rB X.K p G H (fun c d H' => W c d σ H') z Q) r (fun z => z) h
  refine ⟨_, e2, l0, _, rfl, vLarge ▸ DGet.k (k := .inr "large") ta.d, Nat.zero_le _, fun q hq => ?_⟩
  have ne : l ≠ q := ne_of_none ta.l hq
  refine ⟨_, _, .lst (SqL.of (by rw [upd_ne ne]; exact ta.l)) (dp_ints _), .lst (SqL.of upd_same) .nil, shaped_ints _, shaped_ints [], _, rfl, ?_⟩
  rw [eqv_nil]
  exact h _ p _ _ rfl (r.rel.new (.lst []) hq).1 (r.rel.new (.lst []) hq).2
theorem dt_cells (i : Nat) (hu : X.A.units + 64 < cLine) (hN : X.N[i]? = some x := by rfl) (hv : Vis X.env.scope x := by first | exact Or.inl rfl | exact Or.inr (Or.inl rfl) | exact Or.inr (Or.inr rfl)) (hd : (x == ("__debug__" : Str)) = false := by decide)
    (hcd : (x == ("__classdict__" : Str)) = false := by decide) : DT X W (.Compare (.Subscript (.Name x p1) (.Constant (.str "cells") j p2) p3) [.NotEq] [.List [] p4] pos) (fun t => do let o ← getV t i; let tp ← tapeOf o; pure (!tp.cells.isEmpty)) := by
  refine PT.imp (pt_cmpR (op_neD hu) (pe_dget (by omega) (pe_var hN hv hd hcd) pe_str (fun _ _ => rfl)) (pe_lst pa_nil) (nomark _)) fun σ H Q ⟨t, p, G, S, ow, r, h⟩ => ?_
  obtain ⟨k, tp, l0, l, c, e1, e2, hp, hs, ta, h⟩ := state_at (Z := fun z => okR rB X.K p G H (fun c d H' => W c d σ H') z Q) r (fun z => z) h
  refine ⟨_, e2, l0, _, rfl, vCells ▸ DGet.k (k := .inr "cells") ta.d, Nat.zero_le _, fun q hq => ?_⟩
  have ne : c ≠ q := ne_of_none ta.c hq
  refine ⟨_, _, .lst (SqL.of (by rw [upd_ne ne]; exact ta.c)) (dp_ints _), .lst (SqL.of upd_same) .nil, shaped_ints _, shaped_ints [], _, rfl, ?_⟩
  rw [eqv_nil]
  exact h _ p _ _ rfl (r.rel.new (.lst []) hq).1 (r.rel.new (.lst []) hq).2
theorem de_lenCells (i : Nat) (hu : X.A.units + 1 < cLine) (hg : Gl X "len") (hm : X.mg "len" = none) (hN : X.N[i]? = some x := by rfl) (hv : Vis X.env.scope x := by first | exact Or.inl rfl | exact Or.inr (Or.inl rfl) | exact Or.inr (Or.inr rfl)) (hd : (x == ("__debug__" : Str)) = false := by decide)
    (hcd : (x == ("__classdict__" : Str)) = false := by decide) (he : starEach [.Subscript (.Name x p1) (.Constant (.str "cells") j p2) p3] X.env = [(false, eval (.Subscript (.Name x p1) (.Constant (.str "cells") j p2) p3) X.env)] := by rfl) :
    DE X W (.Call (.Name "len" p4) [.Subscript (.Name x p1) (.Constant (.str "cells") j p2) p3] [] pos) (fun t => do let o ← getV t i; let tp ← tapeOf o; pure (.int tp.cells.length)) := by
  refine PE.imp (pe_callB call_len hg hm boot_len (pa_cons (pe_dget hu (pe_var hN hv hd hcd) pe_str (fun _ _ => rfl)) pa_nil he) (by decide) (by decide) he rfl) fun σ H Q ⟨t, p, G, S, ow, r, h⟩ => ?_
  obtain ⟨k, tp, l0, l, c, e1, e2, hp, hs, ta, h⟩ := state_at (Z := fun z => okR (Den X.K) X.K p G H (fun c d H' => W c d σ H') z Q) r (fun z => z) h
  refine ⟨_, e2, l0, _, rfl, vCells ▸ DGet.k (k := .inr "cells") ta.d, V.ref c, (tp.cells.map V.int).length, rfl, (Or.inl ⟨_, SqL.of ta.c, rfl⟩ : LenV X.K (.ref c) H (tp.cells.map V.int).length), ?_⟩
  rw [List.length_map]
  exact okR.fin (v := V.int _) h rfl r.rel
def cellD (tp : Tape) : D → M D
  | .int k => match atI tp.cells k with
    | some n => pure (.int n)
    | none => stuck
  | _ => stuck
theorem de_cell (i : Nat) (hu : X.A.units + 1 < cLine) (he : DE X W e me) (hs : PlainIx e) (hN : X.N[i]? = some x := by rfl) (hv : Vis X.env.scope x := by first | exact Or.inl rfl | exact Or.inr (Or.inl rfl) | exact Or.inr (Or.inr rfl)) (hd : (x == ("__debug__" : Str)) = false := by decide)
    (hcd : (x == ("__classdict__" : Str)) = false := by decide) : DE X W (.Subscript (.Subscript (.Name x p1) (.Constant (.str "cells") j p2) p3) e pos) (fun t => do let o ← getV t i; let _ ← tapeOf o; let k ← me t; let tp ← tapeOf o; cellD tp k) := by
  refine PE.imp (pe_ix ix_list (pe_dget hu (pe_var hN hv hd hcd) pe_str (fun _ _ => rfl)) he hs) fun σ H Q ⟨t, p, G, S, ow, r, h⟩ => ?_
  obtain ⟨k, tp, l0, l, c, e1, e2, hp, hs, ta, h⟩ := state_at (f := fun o _ => do let k ← me t; let tp ← tapeOf o; cellD tp k) (Z := fun z => okR (Den X.K) X.K p G H (fun c d H' => W c d σ H') z Q) r (fun z => z) h
  refine ⟨_, e2, l0, _, rfl, vCells ▸ DGet.k (k := .inr "cells") ta.d, tD.next r (Ext.refl _ _ _) r.rel (okR.seq h fun y S1 yv p1 G1 H1 ey dy r1 x1 h1 => ?_)⟩
  have h2 : okR (Den X.K) X.K p1 G1 H1 (fun c d H' => W c d σ H') ((tapeOf (.mref k) S1).andThen fun tp => cellD tp y) Q := h1
  rcases tapeOf_of (.mref k) S1 with ⟨k2, tp2, ek, hs2, e4⟩ | e4
  · cases ek
    rw [e4] at h2
    have hp2 : p1[k]? = some [l0, l, c] := idx_ext x1.pp hp
    obtain ⟨l2, c2, eq, ta2⟩ := r1.tape hp2 hs2
    cases eq
    cases y <;> try exact h2.elim
    rename_i z
    have h3 : okR (Den X.K) X.K p1 G1 H1 (fun c d H' => W c d σ H') (cellD tp2 (.int z) S1) Q := h2
    unfold cellD at h3
    dsimp only at h3
    cases ea : atI tp2.cells z with
    | none => rw [ea] at h3; exact h3.elim
    | some nn =>
      rw [ea] at h3
      refine ⟨c, _, z, .int nn, rfl, dy, SqL.of ta2.c, ?_, okR.fin (v := V.int _) h3 rfl r1⟩
      unfold atI at ea ⊢
      obtain ⟨q, e5, e6⟩ := Option.bind_eq_some_iff.mp ea
      rw [List.length_map, e5]
      show (tp2.cells.map V.int)[q]? = _
      rw [List.getElem?_map, e6]
      rfl
  · rw [e4] at h2
    exact h2.elim
end
section
variable {X : Cx} {W : Wf} {e : Expr} {me : DSt → M D} {pos p1 p2 p3 : Pos} {j : Nat} {x : Str}
def restD (o v : D) : M Unit := match v with
  | .int k => do let tp ← tapeOf o; tapeSet o { tp with rest := k }
  | _ => stuck
def turnD (o v : D) : M Unit := match v with
  | .int k => do let tp ← tapeOf o; tapeSet o { tp with turn := k }
  | _ => stuck
theorem ds_rest (i : Nat) (hu : X.A.units + 1 < cLine) (he : DE X W.x e me) (hs : swapsWith e (some (.Subscript (.Name x p1) (.Constant (.str "rest") j p2) p3)) pos.line X.env = pure false := by rfl) (hN : X.N[i]? = some x := by rfl) (hv : Vis X.env.scope x := by first | exact Or.inl rfl | exact Or.inr (Or.inl rfl) | exact Or.inr (Or.inr rfl)) (hd : (x == ("__debug__" : Str)) = false := by decide)
    (hcd : (x == ("__classdict__" : Str)) = false := by decide) : DS X W (.Assign [.Subscript (.Name x p1) (.Constant (.str "rest") j p2) p3] e pos) (fun t => do let v ← me t; let o ← getV t i; restD o v; pure (.nx t)) := by
  refine PS.imp (ps_dput hu (pe_var hN hv hd hcd) pe_str he hs) fun E σ H ⟨n, t, p, G, S, ow, r, h⟩ => ?_
  refine ⟨t, p, G, S, ow, r.rs, okS.seq h r fun y S1 yv p1 G1 H1 ey dy r1 x1 h1 => ?_⟩
  rcases getV_of t i with ⟨d, e, q⟩ | q
  · rw [q] at h1
    cases y <;> try exact h1.elim
    rename_i k
    have h2 : okS X.K W n ((((tapeOf d S1).andThen fun tp => tapeSet d { tp with rest := k })).andThen fun _ => pure (.nx t)) E := h1
    rcases tapeOf_of d S1 with ⟨m, tp, rfl, hs, e2⟩ | e2
    · rw [e2] at h2
      obtain ⟨v, ev, a, q2, hp, rfl⟩ := r1.rs.sl.get e
      obtain ⟨l, c, rfl, ta⟩ := r1.rs.rel.tape hp hs
      obtain ⟨n1, n2, n3⟩ := tape_apart r1.rs.rel hp
      refine ⟨_, ev, a, _, rfl, DPut.k (k := .inr "rest") ta.d (by show 4 < sizeLine; decide), ?_⟩
      rw [show yv = V.int k from dy, pRest]
      obtain ⟨rr, xx⟩ := r1.rs.rel.wind (t' := { tp with rest := k }) (H' := upd H1 a (.dK [(.inr "large", .ref l), (.inr "cells", .ref c), (.inr "rest", .int k), (.inr "turn", .int tp.turn)])) hp hs (fun b hb _ _ => upd_ne hb) ⟨upd_same, by rw [upd_ne n1.symm]; exact ta.l, by rw [upd_ne n2.symm]; exact ta.c⟩
      have h3 : okS X.K W n (((tapeSet (.mref m) { tp with rest := k }) S1).andThen fun _ => pure (.nx t)) E := h2
      unfold tapeSet at h3
      dsimp only at h3
      rw [hs] at h3
      exact h3 p1 G1 _ σ ow (r1.step xx rr)
    · rw [e2] at h2
      exact h2.elim
  · rw [q] at h1
    exact h1.elim
theorem ds_turn (i : Nat) (hu : X.A.units + 1 < cLine) (he : DE X W.x e me) (hs : swapsWith e (some (.Subscript (.Name x p1) (.Constant (.str "turn") j p2) p3)) pos.line X.env = pure false := by rfl) (hN : X.N[i]? = some x := by rfl) (hv : Vis X.env.scope x := by first | exact Or.inl rfl | exact Or.inr (Or.inl rfl) | exact Or.inr (Or.inr rfl)) (hd : (x == ("__debug__" : Str)) = false := by decide)
    (hcd : (x == ("__classdict__" : Str)) = false := by decide) : DS X W (.Assign [.Subscript (.Name x p1) (.Constant (.str "turn") j p2) p3] e pos) (fun t => do let v ← me t; let o ← getV t i; turnD o v; pure (.nx t)) := by
  refine PS.imp (ps_dput hu (pe_var hN hv hd hcd) pe_str he hs) fun E σ H ⟨n, t, p, G, S, ow, r, h⟩ => ?_
  refine ⟨t, p, G, S, ow, r.rs, okS.seq h r fun y S1 yv p1 G1 H1 ey dy r1 x1 h1 => ?_⟩
  rcases getV_of t i with ⟨d, e, q⟩ | q
  · rw [q] at h1
    cases y <;> try exact h1.elim
    rename_i k
    have h2 : okS X.K W n ((((tapeOf d S1).andThen fun tp => tapeSet d { tp with turn := k })).andThen fun _ => pure (.nx t)) E := h1
    rcases tapeOf_of d S1 with ⟨m, tp, rfl, hs, e2⟩ | e2
    · rw [e2] at h2
      obtain ⟨v, ev, a, q2, hp, rfl⟩ := r1.rs.sl.get e
      obtain ⟨l, c, rfl, ta⟩ := r1.rs.rel.tape hp hs
      obtain ⟨n1, n2, n3⟩ := tape_apart r1.rs.rel hp
      refine ⟨_, ev, a, _, rfl, DPut.k (k := .inr "turn") ta.d (by show 4 < sizeLine; decide), ?_⟩
      rw [show yv = V.int k from dy, pTurn]
      obtain ⟨rr, xx⟩ := r1.rs.rel.wind (t' := { tp with turn := k }) (H' := upd H1 a (.dK [(.inr "large", .ref l), (.inr "cells", .ref c), (.inr "rest", .int tp.rest), (.inr "turn", .int k)])) hp hs (fun b hb _ _ => upd_ne hb) ⟨upd_same, by rw [upd_ne n1.symm]; exact ta.l, by rw [upd_ne n2.symm]; exact ta.c⟩
      have h3 : okS X.K W n (((tapeSet (.mref m) { tp with turn := k }) S1).andThen fun _ => pure (.nx t)) E := h2
      unfold tapeSet at h3
      dsimp only at h3
      rw [hs] at h3
      exact h3 p1 G1 _ σ ow (r1.step xx rr)
    · rw [e2] at h2
      exact h2.elim
  · rw [q] at h1
    exact h1.elim
def popLarge (o : D) : M Unit := do
  let tp ← tapeOf o
  match tp.large with
  | k :: r => tapeSet o { tp with rest := k, large := r }
  | [] => stuck
theorem ds_popL (i : Nat) {p4 p5 p6 p7 p8 p9 : Pos} {j2 j3 : Nat} (hu : X.A.units + 1 < cLine) (hs : swapsWith (.Call (.Attribute (.Subscript (.Name x p4) (.Constant (.str "large") j2 p5) p6) "pop" p7) [.Constant (.int 0) j3 p8] [] p9) (some (.Subscript (.Name x p1) (.Constant (.str "rest") j p2) p3)) pos.line X.env = pure false := by rfl)
    (hst : starEach [.Constant (.int 0) j3 p8] X.env = [(false, eval (.Constant (.int 0) j3 p8) X.env)] := by rfl) (hfew : ((backTo p9 (starEach [.Constant (.int 0) j3 p8] X.env)).all (fun x => !x.1) && (backToKw p9 (keywordEach [] X.env)).all (fun x => x.1.isSome)
      && decide ([Expr.Constant (.int 0) j3 p8].length + ([] : List Keyword).length + (if ([] : List Keyword).isEmpty then 0 else 1) < 30)) = true := by rfl) (hline : (p7.endLine == p9.line) = true := by rfl)
    (hbase : attributeBase (.Subscript (.Name x p4) (.Constant (.str "large") j2 p5) p6) "pop" X.env (eval (.Subscript (.Name x p4) (.Constant (.str "large") j2 p5) p6) X.env) = eval (.Subscript (.Name x p4) (.Constant (.str "large") j2 p5) p6) X.env := by rfl)
    (hN : X.N[i]? = some x := by rfl) (hv : Vis X.env.scope x := by first | exact Or.inl rfl | exact Or.inr (Or.inl rfl) | exact Or.inr (Or.inr rfl)) (hd : (x == ("__debug__" : Str)) = false := by decide) (hcd : (x == ("__classdict__" : Str)) = false := by decide) :
    DS X W (.Assign [.Subscript (.Name x p1) (.Constant (.str "rest") j p2) p3] (.Call (.Attribute (.Subscript (.Name x p4) (.Constant (.str "large") j2 p5) p6) "pop" p7) [.Constant (.int 0) j3 p8] [] p9) pos) (fun t => do let o ← getV t i; popLarge o; pure (.nx t)) := by
  refine PS.imp (ps_dput hu (pe_var hN hv hd hcd) pe_str (pe_bm PySem.F.plainAttrs_list PySem.F.slot_list_pop PySem.F.type_list_pop mt_popAt (pe_dget hu (pe_var hN hv hd hcd) pe_str (fun _ _ => rfl)) (pa_cons pe_int pa_nil hst) hbase hfew hline hst rfl) hs) fun E σ H ⟨n, t, p, G, S, ow, r, h⟩ => ?_
  have h : okS X.K W n ((do let o ← getV t i; popLarge o; pure (.nx t) : M Ctl) S) E := h
  rcases getV_of t i with ⟨d, e, q⟩ | q
  · rw [q] at h
    have h2 : okS X.K W n ((((tapeOf d S).andThen fun tp => match tp.large with
      | k :: r => tapeSet d { tp with rest := k, large := r }
      | [] => stuck)).andThen fun _ => pure (.nx t)) E := h
    rcases tapeOf_of d S with ⟨m, tp, rfl, hs, e2⟩ | e2
    · rw [e2] at h2
      obtain ⟨v, ev, a, q2, hp, rfl⟩ := r.rs.sl.get e
      obtain ⟨l, c, rfl, ta⟩ := r.rs.rel.tape hp hs
      obtain ⟨n1, n2, n3⟩ := tape_apart r.rs.rel hp
      obtain ⟨lg, cs, rs, tn⟩ := tp
      cases lg with
      | nil => exact h2.elim
      | cons k ks =>
        refine ⟨_, ev, a, V.ref l, rfl, vLarge ▸ DGet.k (k := .inr "large") ta.d, (Or.inl ⟨rfl, _, SqL.of ta.l⟩ : tyV X.K "list" (.ref l) H), l, _, 0, 0, .int k, rfl, rfl, ta.l, by decide, by decide, ?_, rfl, ?_⟩
        · rw [List.length_map, List.length_cons]
          show seqIndex? 0 (ks.length + 1) = some 0
          unfold seqIndex?
          simp
        · refine ⟨_, ev, a, _, rfl, DPut.k (k := .inr "rest") (by rw [upd_ne n1]; exact ta.d) (by show 4 < sizeLine; decide), ?_⟩
          rw [pRest]
          obtain ⟨rr, xx⟩ := r.rs.rel.wind (t' := ⟨ks, cs, k, tn⟩) (H' := upd (upd H l (.lst (ks.map V.int))) a (.dK [(.inr "large", .ref l), (.inr "cells", .ref c), (.inr "rest", .int k), (.inr "turn", .int tn)])) hp hs (fun b hb hb2 _ => by rw [upd_ne hb, upd_ne hb2]) ⟨upd_same, by rw [upd_ne n1.symm, upd_same], by rw [upd_ne n2.symm, upd_ne n3.symm]; exact ta.c⟩
          have h3 : okS X.K W n (((tapeSet (.mref m) ⟨ks, cs, k, tn⟩) S).andThen fun _ => pure (.nx t)) E := h2
          unfold tapeSet at h3
          dsimp only at h3
          rw [hs] at h3
          exact h3 p G _ σ ow (r.step xx rr)
    · rw [e2] at h2
      exact h2.elim
  · rw [q] at h
    exact h.elim
end
end RM

namespace RM
open PySem PySem.Spec PyProof.Rows L2
variable [PgW]

def absI (i : Int) : Int := if i < 0 then -i else i
def begun (ns : List Int) : Tape := { large := ((ns.map absI).filter fun c => decide (10 ^ 18 ≤ c)).map fun c => c - 10 ^ 18, cells := ns.map absI, rest := 0, turn := 0 }
def begunD (ds : List D) : M D := fun S => match ds with
  | [.scr ns] => if ns.length ≤ 1000 then .ok (.mref S.length) (S ++ [.tape (begun ns)]) else .stuck
  | _ => .stuck
abbrev rAbs : List V → Hp → VK → Prop := fun xs H Q => ∃ i, xs = [.int i] ∧ Q (.int (if i < 0 then -i else i)) H
abbrev rPow : R2 := rI CPow fun i j => .int (i ^ j.toNat)
abbrev rMinus : R2 := rI0 fun i j => .int (i - j)
abbrev rGeq : R2 := rI0 fun i j => .bl (decide (j ≤ i))
abbrev t1018 : TE := tOp rPow (tC (.int 10)) (tC (.int 18))
def tBegun (K : PySem.W.Frag) : TS := tSeq (tAsg (tLc (iList K (tVar 0)) (gName 2) tYes (tCB rAbs (tCons (tVar 2) tNil)) [2]) (gName 1))
  (tRet (tDisp [(tC (.str "large"), tLc (iList K (tVar 1)) (gName 2) (tTest (tOp rGeq (tVar 2) t1018)) (tOp rMinus (tVar 2) t1018) [2]), (tC (.str "cells"), tVar 1), (tC (.str "rest"), tC (.int 0)), (tC (.str "turn"), tC (.int 0))]))
theorem cpow1018 : CPow 10 18 := ⟨by decide, by decide, by decide⟩
theorem begun_read {K : PySem.W.Frag} {N : List Str} (hN : N.length = 3) (vs : List V) (H : Hp) (Q : VK) (E : XK) (h : spD K 1 begunD vs H Q E) : tBegun K { nx := fun _ H' => Q .non H', rt := Q } (L2.start N vs) H := by
  obtain ⟨ds, p, G, S, el, dn, r, h⟩ := h
  obtain ⟨d, rfl⟩ : ∃ d, ds = [d] := by
    match ds, el with
    | [d], _ => exact ⟨d, rfl⟩
  obtain ⟨v, rfl, dv⟩ := denL1 dn
  have hs : L2.start N [v] = [some v, none, none] := by
    unfold L2.start
    rw [hN]
    rfl
  rw [hs]
  cases d <;> try exact h.elim
  rename_i ns
  · obtain ⟨a, rfl, ha⟩ := dv
    have h1 : okR (Den K) K p G H E (if ns.length ≤ 1000 then .ok (.mref S.length) (S ++ [.tape (begun ns)]) else .stuck) Q := h
    by_cases hl : ns.length ≤ 1000
    · rw [if_pos hl] at h1
      have big : ∀ m : Nat, m ≤ 1000 → m < sizeLine := fun m hm => Nat.lt_of_le_of_lt hm (by decide)
      refine ⟨_, rfl, a, rfl, ⟨_, r.sub.seq ha⟩, fun C hC => ?_⟩
      refine lc_list (K := K) (a := a) (xs := ns.map V.int) (fun i H' => H' = upd H C (.lst ((ns.take i).map fun z => V.int (absI z)))) (by simp) (fun i H' _ e => ?_) (fun i x H' hx e => ?_) fun H' e => ?_
      · subst e
        exact (Same.upd_of hC).seq (r.sub.seq ha)
      · subst e
        rw [List.getElem?_map] at hx
        obtain ⟨z, ez, rfl⟩ := Option.map_eq_some_iff.mp hx
        have hi := (List.getElem?_eq_some_iff.mp ez).1
        refine ⟨rfl, ?_⟩
        refine ⟨_, rfl, z, rfl, _, upd_same, by rw [List.length_map, List.length_take]; exact big _ (by omega), ?_⟩
        rw [upd_upd, List.take_add_one, ez, List.map_append]
        rfl
      · subst e
        rw [List.length_map, List.take_length]
        show tDisp _ [some (.ref a), some (.ref C), none] _ Q
        intro T hT
        have nT : C ≠ T := fun e => by rw [← e, upd_same] at hT; cases hT
        have hT0 : H T = none := by rw [upd_ne nT.symm] at hT; exact hT
        refine ⟨_, rfl, C, rfl, ⟨_, SqL.of (by rw [upd_ne nT, upd_same])⟩, fun L hL => ?_⟩
        have nLT : L ≠ T := fun e => by rw [e, upd_same] at hL; cases hL
        have nLC : L ≠ C := fun e => by rw [e, upd_ne nT, upd_same] at hL; cases hL
        have hL0 : H L = none := by rw [upd_ne nLT, upd_ne nLC] at hL; exact hL
        refine lc_list (K := K) (a := C) (xs := ns.map fun z => V.int (absI z)) (fun i H' => H' = upd (upd (upd H C (.lst (ns.map fun z => V.int (absI z)))) T (.dK [])) L (.lst ((((ns.map absI).take i).filter fun c => decide (10 ^ 18 ≤ c)).map fun c => V.int (c - 10 ^ 18)))) (by simp) (fun i H' _ e => ?_) (fun i x H' hx e => ?_) fun H' e => ?_
        · subst e
          exact SqL.of (by rw [upd_ne nLC.symm, upd_ne nT, upd_same])
        · subst e
          rw [List.getElem?_map] at hx
          obtain ⟨z, ez, rfl⟩ := Option.map_eq_some_iff.mp hx
          have hi := (List.getElem?_eq_some_iff.mp ez).1
          have ez' : (ns.map absI)[i]? = some (absI z) := by rw [List.getElem?_map, ez]; rfl
          have len : ∀ j, ((((ns.map absI).take j).filter fun c => decide ((10 : Int) ^ 18 ≤ c)).map fun c => V.int (c - 10 ^ 18)).length < sizeLine := fun j => by
            rw [List.length_map]
            refine big _ (Nat.le_trans (List.length_filter_le _ _) ?_)
            rw [List.length_take, List.length_map]
            omega
          refine ⟨rfl, _, rfl, 10, 18, rfl, rfl, cpow1018, _, _, rfl, rfl, _, rfl, ?_⟩
          by_cases hc : (10 : Int) ^ 18 ≤ absI z
          · rw [show decide ((10 : Int) ^ (18 : Int).toNat ≤ absI z) = true from decide_eq_true hc]
            refine iteT ⟨_, rfl, 10, 18, rfl, rfl, cpow1018, _, _, rfl, rfl, _, upd_same, len i, ?_⟩
            rw [upd_upd, List.take_add_one, ez', List.filter_append]
            have : (Option.toList (some (absI z))).filter (fun c => decide ((10 : Int) ^ 18 ≤ c)) = [absI z] := by
              show List.filter _ [absI z] = _
              rw [List.filter_cons, decide_eq_true hc]; rfl
            rw [this, List.map_append]
            rfl
          · rw [show decide ((10 : Int) ^ (18 : Int).toNat ≤ absI z) = false from decide_eq_false hc]
            refine iteF ?_
            rw [List.take_add_one, ez', List.filter_append]
            have : (Option.toList (some (absI z))).filter (fun c => decide ((10 : Int) ^ 18 ≤ c)) = [] := by
              show List.filter _ [absI z] = _
              rw [List.filter_cons, decide_eq_false hc]; rfl
            rw [this, List.append_nil]
        · subst e
          rw [List.length_map]
          have et : (ns.map absI).take ns.length = ns.map absI := List.take_of_length_le (by rw [List.length_map]; exact Nat.le_refl _)
          rw [et]
          refine ⟨_, rfl, ?_⟩
          refine ⟨by rw [upd_ne nLT.symm, upd_same], [(.inr "large", .ref L), (.inr "cells", .ref C), (.inr "rest", .int 0), (.inr "turn", .int 0)], rfl, by show 4 ≤ 15; decide, ?_⟩
          have em : mergeK [] [(.inr "large", .ref L), (.inr "cells", .ref C), (.inr "rest", .int 0), (.inr "turn", .int 0)] = ([(.inr "large", .ref L), (.inr "cells", .ref C), (.inr "rest", .int 0), (.inr "turn", .int 0)] : List (Key × V)) := rfl
          rw [em]
          have far : ∀ b o, H b = some o → upd (upd (upd (upd H C (.lst (ns.map fun z => V.int (absI z)))) T (.dK [])) L (.lst (((ns.map absI).filter fun c => decide ((10 : Int) ^ 18 ≤ c)).map fun c => V.int (c - 10 ^ 18)))) T (.dK [(.inr "large", .ref L), (.inr "cells", .ref C), (.inr "rest", .int 0), (.inr "turn", .int 0)]) b = some o := fun b o e => by
            rw [upd_ne (ne_of_none e hT0), upd_ne (ne_of_none e hL0), upd_ne (ne_of_none e hT0), upd_ne (ne_of_none e hC)]
            exact e
          have new : ∀ b ∈ [T, L, C], H b = none := fun b hb => by
            simp at hb
            rcases hb with rfl | rfl | rfl
            · exact hT0
            · exact hL0
            · exact hC
          have old : ∀ b, H b ≠ none → upd (upd (upd (upd H C (.lst (ns.map fun z => V.int (absI z)))) T (.dK [])) L (.lst (((ns.map absI).filter fun c => decide ((10 : Int) ^ 18 ≤ c)).map fun c => V.int (c - 10 ^ 18)))) T (.dK [(.inr "large", .ref L), (.inr "cells", .ref C), (.inr "rest", .int 0), (.inr "turn", .int 0)]) b = H b := fun b e => by
            cases q : H b with
            | none => exact absurd q e
            | some o => exact far b o q
          have fl : (p ++ [[T, L, C]]).flatten = p.flatten ++ [T, L, C] := by simp
          refine h1 (.ref T) (p ++ [[T, L, C]]) G _ ⟨T, [L, C], by rw [← r.len, List.getElem?_append_right (Nat.le_refl _), Nat.sub_self]; rfl, rfl⟩ ⟨fun b o e => far b o (r.sub b o e), by simp [r.len], fun i as o e1 e2 => ?_, ?_, fun b hb => ?_⟩ ⟨Same.refl _, fun _ z _ => z, fun b o e _ => far b o e, fun b e => by rw [old b e]; exact e, [[T, L, C]], rfl, fun b hb => new b (by simpa using hb)⟩
          · by_cases hi : i < p.length
            · rw [List.getElem?_append_left hi] at e1
              rw [List.getElem?_append_left (by rw [← r.len]; exact hi)] at e2
              have m := r.mo i as o e1 e2
              exact m.mono ⟨_, rfl⟩ (Same.refl _) fun b hb => old b (m.dom b hb)
            · have hi2 : i = p.length := by
                have := (List.getElem?_eq_some_iff.mp e1).1
                rw [List.length_append, List.length_singleton] at this
                omega
              subst hi2
              rw [List.getElem?_append_right (Nat.le_refl _), Nat.sub_self] at e1
              rw [r.len, List.getElem?_append_right (Nat.le_refl _), Nat.sub_self] at e2
              cases e1
              cases e2
              refine ⟨upd_same, ?_, ?_⟩
              · rw [upd_ne nLT, upd_same]
                unfold begun
                rw [List.map_map]
                rfl
              · rw [upd_ne nT, upd_ne nLC.symm, upd_ne nT, upd_same]
                unfold begun
                rw [List.map_map]
                rfl
          · rw [fl]
            refine List.nodup_append.mpr ⟨r.nd, by simp; exact ⟨⟨nLT.symm, nT.symm⟩, nLC⟩, fun b hb b' hb' e => ?_⟩
            subst e
            exact r.dom hb (new b hb')
          · rw [fl] at hb
            rcases List.mem_append.mp hb with z | z
            · exact r.gn b z
            · exact r.gfree (new b z)
    · rw [if_neg hl] at h1
      exact h1.elim
end RM

namespace RM
open PySem PySem.Spec PyProof.Rows L2
variable [PgW]

def reprD : List D → M D
  | [d] => match toPy d with
    | some x => if x.showable = true ∧ x.depth ≤ 64 ∧ x.shown.length ≤ sizeLine then pure (.str x.shown) else stuck
    | none => stuck
  | _ => stuck
mutual
theorem toPy_noDict : ∀ {d : D} {x : PyData}, toPy d = some x → x.hasDict = false
  | .non, _, e => by cases e; rfl
  | .bl _, _, e => by cases e; rfl
  | .int _, _, e => by cases e; rfl
  | .str _, _, e => by cases e; rfl
  | .tup xs, _, e => by
    obtain ⟨ys, e1, e2⟩ := Option.map_eq_some_iff.mp (show (toPyL xs).map PyData.tuple = some _ from e)
    subst e2
    exact toPyL_noDict e1
  | .lst xs, _, e => by
    obtain ⟨ys, e1, e2⟩ := Option.map_eq_some_iff.mp (show (toPyL xs).map PyData.list = some _ from e)
    subst e2
    exact toPyL_noDict e1
  | .ins _ _ _, _, e => by cases e
  | .mref _, _, e => by cases e
  | .dic _ _, _, e => by cases e
  | .scr _, _, e => by cases e
  | .xcp _ _ _, _, e => by cases e
  | .dct _ _, _, e => by cases e
theorem toPyL_noDict : ∀ {d : List D} {x : List PyData}, toPyL d = some x → PyData.hasDictAll x = false
  | [], _, e => by cases e; rfl
  | y :: ys, _, e => by
    have e' : (match toPy y, toPyL ys with
      | some y, some ys => some (y :: ys)
      | _, _ => none) = some _ := e
    cases q1 : toPy y with
    | none => rw [q1] at e'; cases e'
    | some z =>
      cases q2 : toPyL ys with
      | none => rw [q1, q2] at e'; cases e'
      | some zs =>
        rw [q1, q2] at e'
        cases e'
        show (z.hasDict || PyData.hasDictAll zs) = false
        rw [toPy_noDict q1, toPyL_noDict q2]
        rfl
end
section
variable {X : Cx} {W : WX} {a b : Expr} {es : List Expr} {ma mb : DSt → M D} {ms : DSt → M (List D)} {pos p p1 p2 : Pos} {x : Str}
theorem own_in {K : PySem.W.Frag} {p : List (List Addr)} {G H : Hp} {S : Sto} {t : DSt} {σ : L2.St} {ow : List Addr} {i : Nat} (r : RelS K p G S H t σ ow) {β : Type} {f : List D → M β} {Z : Res β → Prop} (hZ : ¬ Z .stuck) (h : Z ((do let xs ← getO t i; f xs : M β) S)) :
    ∃ xs a vs, t[i]? = some (some (.own xs)) ∧ σ[i]? = some (some (.ref a)) ∧ a ∈ ow ∧ H a = some (.lst vs) ∧ DenL K p G xs vs ∧ Z (f xs S) := by
  rcases getO_of t i with ⟨xs, e, q⟩ | q
  · rw [q] at h
    obtain ⟨a, vs, e1, e2, e3, e4⟩ := r.sl.getO e
    exact ⟨xs, a, vs, e, e1, e2, e3, e4, h⟩
  · rw [q] at h
    exact absurd h hZ
theorem de_lenO (i : Nat) (hg : Gl X "len") (hm : X.mg "len" = none) (hN : X.N[i]? = some x := by rfl) (hv : Vis X.env.scope x := by first | exact Or.inl rfl | exact Or.inr (Or.inl rfl) | exact Or.inr (Or.inr rfl)) (hd : (x == ("__debug__" : Str)) = false := by decide)
    (hcd : (x == ("__classdict__" : Str)) = false := by decide) (he : starEach [.Name x p1] X.env = [(false, eval (.Name x p1) X.env)] := by rfl) : DE X W (.Call (.Name "len" p2) [.Name x p1] [] pos) (fun t => do let xs ← getO t i; pure (.int xs.length)) := by
  refine PE.imp (pe_callB call_len hg hm boot_len (pa_cons (pe_var hN hv hd hcd) pa_nil he) (by decide) (by decide) he rfl) fun σ H Q ⟨t, p, G, S, ow, r, h⟩ => ?_
  obtain ⟨xs, l, vs, e1, e2, e3, e4, e5, h⟩ := own_in (Z := fun z => okR (Den X.K) X.K p G H (fun c d H' => W c d σ H') z Q) r (fun z => z) h
  refine ⟨_, e2, V.ref l, vs.length, rfl, (Or.inl ⟨_, SqL.of e4, rfl⟩ : LenV X.K (.ref l) H vs.length), ?_⟩
  rw [e5.length]
  exact okR.fin (v := V.int _) h rfl r.rel
theorem de_idxO (i : Nat) (hb : DE X W b mb) (hs : PlainIx b) (hN : X.N[i]? = some x := by rfl) (hv : Vis X.env.scope x := by first | exact Or.inl rfl | exact Or.inr (Or.inl rfl) | exact Or.inr (Or.inr rfl)) (hd : (x == ("__debug__" : Str)) = false := by decide)
    (hcd : (x == ("__classdict__" : Str)) = false := by decide) : DE X W (.Subscript (.Name x p1) b pos) (fun t => do let xs ← getO t i; let y ← mb t; idxD (.lst xs) y) := by
  refine PE.imp (pe_ix ix_list (pe_var hN hv hd hcd) hb hs) fun σ H Q ⟨t, p, G, S, ow, r, h⟩ => ?_
  obtain ⟨xs, l, vs, e1, e2, e3, e4, e5, h⟩ := own_in (Z := fun z => okR (Den X.K) X.K p G H (fun c d H' => W c d σ H') z Q) r (fun z => z) h
  refine ⟨_, e2, tD.next r (Ext.refl _ _ _) r.rel (okR.seq h fun y S1 yv p1 G1 H1 ey dy r1 x1 h1 => ?_)⟩
  have h1' : H1 l = some (.lst vs) := x1.h l _ e4 fun z => (List.nodup_append.mp r.nd).2.2 l z l e3 rfl
  cases y <;> try exact h1.elim
  rename_i k
  unfold idxD at h1
  dsimp only at h1
  cases q : atI xs k with
  | none => rw [q] at h1; exact h1.elim
  | some d =>
    rw [q] at h1
    obtain ⟨w, f1, f2⟩ := atI_den (e5.mono x1.pp x1.g) q
    exact ⟨l, vs, k, w, rfl, dy, SqL.of h1', f1, okR.fin h1 f2 r1⟩
end
def isTape : MO → Bool
  | .tape _ => true
  | _ => false
theorem MoAt.any {K : PySem.W.Frag} {p p' : List (List Addr)} {G G' H : Hp} : ∀ {as : List Addr} {o : MO}, MoAt K p G H as o → isTape o = true → MoAt K p' G' H as o
  | [_, _, _], .tape _, h, _ => h
  | [_], .inst _ _ _, _, e => by cases e
  | [_], .tab _ _, _, e => by cases e
  | [_], .lst _, _, e => by cases e
  | [_], .kd _, _, e => by cases e
end RM

namespace RM
open PySem PySem.Spec PyProof.Rows L2
variable [PgW]
section
variable {X : Cx} {W : Wf} {e tg : Expr} {pos : Pos} {ma mb mc : DSt → M D}
theorem len2 {α : Type} {l : List α} (h : l.length = 2) : ∃ a b, l = [a, b] := by
  match l, h with
  | [a, b], _ => exact ⟨a, b, rfl⟩
theorem len3 {α : Type} {l : List α} (h : l.length = 3) : ∃ a b c, l = [a, b, c] := by
  match l, h with
  | [a, b, c], _ => exact ⟨a, b, c, rfl⟩
end
section
variable {X : Cx} {W : WX} {pos : Pos}
structure DP (X : Cx) (W : WX) (pos : Pos) (keys : List (Option Expr)) (values : List Expr) (ks : List Key) (m : DSt → M (List D)) : Prop where
  ex : ∃ trs, PPs X pos keys values trs ∧ ∀ σ H Q, (tDA X.K W m) σ H (fun vs H' => vs.length = ks.length → Q ((ks.zip vs).map fun kv => (kV kv.1, kv.2)) H') → tPairs trs σ H Q
  len : ∀ t S xs S', m t S = .ok xs S' → xs.length = ks.length
end
end RM

namespace RM
open PySem PySem.Spec PyProof.Rows L2
variable [PgW]
def okM (K : PySem.W.Frag) (p : List (List Addr)) (G H : Hp) (W : Value → Option Addr → Hp → Prop) (r : Res (List DV)) (Q : List V → Hp → Prop) : Prop := match r with
  | .ok xs S' => ∀ vs p' G' H' ow', SlotsR K p' G' H' (xs.map some) (vs.map some) ow' → (p'.flatten ++ ow').Nodup → (∀ a ∈ ow', G' a = none ∧ H a = none) → Rel0 K p' S' G' H' → Ext p G H p' G' H' → Q vs H'
  | .exc e S' => ∀ cls dd p' G' H', ExcAt K p' G' e cls dd → Rel0 K p' S' G' H' → Ext p G H p' G' H' → W cls dd H'
  | .stuck => False
def tDM (K : PySem.W.Frag) (W : WX) (m : DSt → M (List DV)) : TA := fun σ H Q => ∃ t p G S ow, RelS K p G S H t σ ow ∧ okM K p G H (fun c d H' => W c d σ H') (m t S) Q
abbrev DM (X : Cx) (W : WX) (es : List Expr) (m : DSt → M (List DV)) : Prop := PA X es (tDM X.K W m)
section
variable {K : PySem.W.Frag} {p p1 : List (List Addr)} {G H G1 H1 : Hp} {W : Value → Option Addr → Hp → Prop} {Q : List V → Hp → Prop}
theorem Ext.none {a : Addr} (e : Ext p G H p1 G1 H1) (h : H1 a = none) : H a = none := by
  cases q : H a with
  | none => rfl
  | some o => exact absurd h (e.d a (by rw [q]; simp))
theorem okM.ext {r : Res (List DV)} (h : okM K p G H W r Q) (e : Ext p G H p1 G1 H1) : okM K p1 G1 H1 W r Q := by
  cases r with
  | ok d S' => exact fun vs p' G' H' ow' a1 a2 a3 a4 a5 => h vs p' G' H' ow' a1 a2 (fun b hb => ⟨(a3 b hb).1, e.none (a3 b hb).2⟩) a4 (e.trans a5)
  | exc x S' => exact fun cls dd p' G' H' a b c => h cls dd p' G' H' a b (e.trans c)
  | stuck => exact h
theorem okM.seq {α β : Type} {R1 : List (List Addr) → Hp → α → β → Prop} {S : Sto} {m : M α} {f : α → M (List DV)} {Q1 : β → Hp → Prop} (h : okM K p G H W ((m >>= f) S) Q)
    (k : ∀ d S1 v p1 G1 H1, R1 p1 G1 d v → Rel0 K p1 S1 G1 H1 → Ext p G H p1 G1 H1 → okM K p1 G1 H1 W (f d S1) Q → Q1 v H1) : okR R1 K p G H W (m S) Q1 := by
  have h' : okM K p G H W ((m S).andThen f) Q := h
  cases e : m S with
  | ok d S1 =>
    rw [e] at h'
    exact fun v p1 G1 H1 a b c => k d S1 v p1 G1 H1 a b c (okM.ext h' c)
  | exc x S1 => rw [e] at h'; exact h'
  | stuck => rw [e] at h'; exact h'
theorem okM.seqF {S : Sto} {m : M (List D)} {f : List D → M (List DV)} {Q1 : VK} (h : okM K p G H W ((m >>= f) S) Q)
    (k : ∀ xs S1 l vs p1 G1 H1, H l = none → H1 l = some (.lst vs) → DenL K p1 G1 xs vs → G1 l = none → l ∉ p1.flatten → Rel0 K p1 S1 G1 H1 → Ext p G H p1 G1 H1 → okM K p G H W (f xs S1) Q → Q1 (.ref l) H1) : okF K p G H W (m S) Q1 := by
  have h' : okM K p G H W ((m S).andThen f) Q := h
  cases e : m S with
  | ok d S1 =>
    rw [e] at h'
    exact fun l vs p1 G1 H1 h0 h1 h2 h3 h4 r1 x1 => k d S1 l vs p1 G1 H1 h0 h1 h2 h3 h4 r1 x1 h'
  | exc x S1 => rw [e] at h'; exact h'
  | stuck => rw [e] at h'; exact h'
end
section
variable {X : Cx} {W : WX} {a : Expr} {es : List Expr} {ma : DSt → M D} {mf : DSt → M (List D)} {ms : DSt → M (List DV)}
theorem dm_nil : DM X W [] (fun _ => pure []) := PA.imp pa_nil fun σ H Q ⟨t, p, G, S, ow, r, h⟩ => h [] p G H [] ⟨rfl, rfl⟩ (by rw [List.append_nil]; exact r.rel.nd) (fun _ hb => by cases hb) r.rel (Ext.refl _ _ _)
theorem dm_val (ha : DE X W a ma) (hr : DM X W es ms) (hs : starEach (a :: es) X.env = (false, eval a X.env) :: starEach es X.env := by rfl) : DM X W (a :: es) (fun t => do let x ← ma t; let xs ← ms t; pure (.val x :: xs)) := by
  refine PA.imp (pa_cons ha hr hs) fun σ H Q ⟨t, p, G, S, ow, r, h⟩ => ⟨t, p, G, S, ow, r, okM.seq h fun d S1 v p1 G1 H1 dn r1 x1 h1 => ⟨t, p1, G1, S1, ow, r.ext x1 r1, ?_⟩⟩
  have h2 : okM X.K p1 G1 H1 (fun c d H' => W c d σ H') ((ms t S1).andThen fun xs => pure (.val d :: xs)) Q := h1
  cases e : ms t S1 with
  | ok xs S2 =>
    rw [e] at h2
    intro vs p2 G2 H2 ow2 a1 a2 a3 a4 a5
    exact h2 (v :: vs) p2 G2 H2 ow2 ⟨some v, vs.map some, [], ow2, rfl, rfl, ⟨rfl, v, rfl, dn.mono a5.pp a5.g⟩, a1⟩ a2 a3 a4 a5
  | exc x S2 => rw [e] at h2; exact h2
  | stuck => rw [e] at h2; exact h2
theorem dm_own (ha : DF X W a mf) (hr : DM X W es ms) (hs : starEach (a :: es) X.env = (false, eval a X.env) :: starEach es X.env := by rfl) : DM X W (a :: es) (fun t => do let x ← mf t; let xs ← ms t; pure (.own x :: xs)) := by
  refine PA.imp (pa_cons ha hr hs) fun σ H Q ⟨t, p, G, S, ow, r, h⟩ => ⟨t, p, G, S, ow, r, okM.seqF h fun zs S1 l us p1 G1 H1 h0 hl dn gl pl r1 x1 h1 => ⟨t, p1, G1, S1, ow, r.ext x1 r1, ?_⟩⟩
  have h2 : okM X.K p G H (fun c d H' => W c d σ H') ((ms t S1).andThen fun xs => pure (.own zs :: xs)) Q := h1
  cases e : ms t S1 with
  | ok xs S2 =>
    rw [e] at h2
    intro vs p2 G2 H2 ow2 a1 a2 a3 a4 a5
    have l2 : H2 l = some (.lst us) := a5.h l _ hl pl
    have g2 : G2 l = none := a5.gn l gl (by rw [hl]; simp)
    have p2l : l ∉ p2.flatten := by
      obtain ⟨q, eq, fq⟩ := a5.p
      rw [eq, List.flatten_append, List.mem_append]
      rintro (z | z)
      · exact pl z
      · rw [fq l z] at hl; cases hl
    have l3 : l ∉ ow2 := fun z => by rw [(a3 l z).2] at hl; cases hl
    refine h2 (.ref l :: vs) p2 G2 H2 (l :: ow2) ⟨some (.ref l), vs.map some, [l], ow2, rfl, rfl, ⟨l, us, rfl, rfl, l2, dn.mono a5.pp a5.g⟩, a1⟩ ?_ (fun b hb => ?_) a4 (x1.trans a5)
    · refine (List.perm_middle.nodup_iff).mpr (List.nodup_cons.mpr ⟨?_, a2⟩)
      rw [List.mem_append]
      rintro (z | z)
      · exact p2l z
      · exact l3 z
    · rcases List.mem_cons.mp hb with rfl | hb
      · exact ⟨g2, h0⟩
      · exact ⟨(a3 b hb).1, x1.none (a3 b hb).2⟩
  | exc x S2 =>
    rw [e] at h2
    exact fun cls dd p' G' H' y1 y2 y3 => h2 cls dd p' G' H' y1 y2 (x1.trans y3)
  | stuck => rw [e] at h2; exact h2
end
def setMs : DSt → List Nat → List DV → Option DSt
  | t, [], [] => some t
  | t, i :: is, v :: vs => if i < t.length then setMs (t.set i (some v)) is vs else none
  | _, _, _ => none
theorem setMs_len : ∀ {is : List Nat} {t t' : DSt} {ds : List DV}, setMs t is ds = some t' → ds.length = is.length
  | [], _, _, [], _ => rfl
  | [], _, _, _ :: _, e => by cases e
  | _ :: _, _, _, [], e => by cases e
  | i :: is, t, t', d :: ds, e => by
    unfold setMs at e
    by_cases h : i < t.length
    · rw [if_pos h] at e
      rw [List.length_cons, List.length_cons, setMs_len e]
    · rw [if_neg h] at e; cases e
theorem setMs_ok {K : PySem.W.Frag} {n : Snap} {p : List (List Addr)} {G H : Hp} {S : Sto} : ∀ {is : List Nat} {t t' : DSt} {σ : L2.St} {ow ow2 : List Addr} {ds : List DV} {vs : List V}, RelF K n p G S H t σ ow → SlotsR K p G H (ds.map some) (vs.map some) ow2 → (p.flatten ++ (ow ++ ow2)).Nodup → (∀ a ∈ ow2, G a = none ∧ n.H a = none) → setMs t is ds = some t' →
    ∃ ow', RelF K n p G S H t' ((is.zip vs).foldl (fun s q => s.set q.1 (some q.2)) σ) ow'
  | [], t, t', σ, ow, ow2, ds, vs, r, sl, nd, fr, e => by
    cases ds with
    | nil =>
      cases e
      exact ⟨ow, r⟩
    | cons => cases e
  | i :: is, t, t', σ, ow, ow2, [], vs, r, sl, nd, fr, e => by cases e
  | i :: is, t, t', σ, ow, ow2, d :: ds, vs, r, sl, nd, fr, e => by
    obtain ⟨v, w, l, k, h1, h2, h3, h4⟩ := sl
    cases vs with
    | nil => cases h1
    | cons v0 vs =>
      have e1 : v = some v0 ∧ w = vs.map some := by
        rw [List.map_cons] at h1
        cases h1
        exact ⟨rfl, rfl⟩
      obtain ⟨rfl, rfl⟩ := e1
      unfold setMs at e
      by_cases hi : i < t.length
      · rw [if_pos hi] at e
        obtain ⟨u, l0, b, eo, q⟩ := SlotsR.set (s := some d) (v := some v0) (l' := l) h3 i hi r.rs.sl
        subst eo
        subst h2
        have perm : (p.flatten ++ (u ++ l0 ++ b ++ (l ++ k))).Perm ((p.flatten ++ (u ++ l ++ b ++ k)) ++ l0) := by
          rw [List.perm_iff_count]
          intro x
          simp only [List.count_append]
          omega
        have nd2 : (p.flatten ++ (u ++ l ++ b ++ k)).Nodup := (List.nodup_append.mp (perm.nodup_iff.mp nd)).1
        have nd3 : (p.flatten ++ (u ++ l ++ b)).Nodup := by
          rw [← List.append_assoc] at nd2
          exact (List.nodup_append.mp nd2).1
        have mem : ∀ x ∈ u ++ l ++ b, x ∈ u ++ l0 ++ b ∨ x ∈ l := fun x hx => by
          simp only [List.mem_append] at hx ⊢
          rcases hx with (z | z) | z
          · exact .inl (.inl (.inl z))
          · exact .inr z
          · exact .inl (.inr z)
        have r2 : RelF K n p G S H (t.set i (some d)) (σ.set i (some v0)) (u ++ l ++ b) := by
          refine ⟨⟨r.rs.rel, q, nd3, fun x hx => ?_⟩, r.ext, fun x hx => ?_, r.fp, r.fg⟩
          · rcases mem x hx with z | z
            · exact r.rs.gn x z
            · exact (fr x (List.mem_append_left _ z)).1
          · rcases mem x hx with z | z
            · exact r.own x z
            · exact (fr x (List.mem_append_left _ z)).2
        exact setMs_ok (is := is) r2 h4 nd2 (fun x hx => fr x (List.mem_append_right _ hx)) e
      · rw [if_neg hi] at e
        cases e
section
variable {X : Cx} {W : Wf} {pos : Pos}
theorem okS.parM {K : PySem.W.Frag} {n : Snap} {E : Ends} {p : List (List Addr)} {G H : Hp} {S : Sto} {t : DSt} {σ : L2.St} {ow : List Addr} {m : M (List DV)} {is : List Nat} (h : okS K W n ((do let xs ← m; let t' ← liftO (setMs t is xs); pure (.nx t') : M Ctl) S) E) (r : RelF K n p G S H t σ ow) {Q : List V → Hp → Prop}
    (k : ∀ (vs : List V) (H' : Hp), vs.length = is.length → E.nx ((is.zip vs).foldl (fun s q => s.set q.1 (some q.2)) σ) H' → Q vs H') : okM K p G H (fun c d H' => W c d H') (m S) Q := by
  have h' : okS K W n ((m S).andThen fun xs => (do let t' ← liftO (setMs t is xs); pure (.nx t') : M Ctl)) E := h
  cases e : m S with
  | ok xs S1 =>
    rw [e] at h'
    intro vs p1 G1 H1 ow1 a1 a2 a3 a4 a5
    have h2 : okS K W n ((do let t' ← liftO (setMs t is xs); pure (.nx t') : M Ctl) S1) E := h'
    cases eg : setMs t is xs with
    | none => rw [eg] at h2; exact h2.elim
    | some t' =>
      rw [eg] at h2
      have r1 := r.step a5 a4
      have dom : ∀ x ∈ ow, H x ≠ none := r.rs.sl.dom
      have nd : (p1.flatten ++ (ow ++ ow1)).Nodup := by
        have perm : (p1.flatten ++ (ow ++ ow1)).Perm (ow ++ (p1.flatten ++ ow1)) := by
          rw [List.perm_iff_count]
          intro x
          simp only [List.count_append]
          omega
        refine perm.nodup_iff.mpr (List.nodup_append.mpr ⟨(List.nodup_append.mp r1.rs.nd).2.1, a2, fun x hx y hy exy => ?_⟩)
        subst exy
        rcases List.mem_append.mp hy with z | z
        · exact (List.nodup_append.mp r1.rs.nd).2.2 x z x hx rfl
        · exact dom x hx (a3 x z).2
      obtain ⟨ow', r2⟩ := setMs_ok r1 a1 nd (fun x hx => ⟨(a3 x hx).1, r.ext.none (a3 x hx).2⟩) eg
      have vl : vs.length = is.length := by
        have key : ∀ (xs : List DV) (vs : List V) (ow1 : List Addr), SlotsR K p1 G1 H1 (xs.map some) (vs.map some) ow1 → vs.length = xs.length := by
          intro xs
          induction xs with
          | nil =>
            intro vs ow1 h
            have : vs.map some = [] := h.1
            simpa using this
          | cons x xs ih =>
            intro vs ow1 ⟨v, w, l, k, h1, h2, h3, h4⟩
            cases vs with
            | nil => cases h1
            | cons v0 vs =>
              rw [List.map_cons] at h1
              cases h1
              rw [List.length_cons, List.length_cons, ih vs _ h4]
        rw [key _ _ _ a1, setMs_len eg]
      exact k vs H1 vl (h2 p1 G1 H1 _ ow' r2)
  | exc x S1 =>
    rw [e] at h'
    exact fun cls dd p1 G1 H1 a b c => h' cls dd p1 G1 H1 a b (r.ext.trans c)
  | stuck => rw [e] at h'; exact h'
theorem ds_parM2 (i j : Nat) {x y : Str} {a b : Expr} {ms : DSt → M (List DV)} {px py pt : Pos} {kt k2 pt2} (hc : X.calm = true) (hN : X.N.Nodup) (hi : X.N[i]? = some x) (hj : X.N[j]? = some y) (hij : i ≠ j) (hx : X.env.scope.names.lookup x = some .local) (hy : X.env.scope.names.lookup y = some .local) (ha : DM X W.x [a, b] ms)
    (hw : swappedStores [.Tuple [.Name x px, .Name y py] kt pt] (.Tuple [a, b] k2 pt2) X.env = pure (some [x, y]) := by rfl) (hs : swapsWithSole [.Tuple [.Name x px, .Name y py] kt pt] (.Tuple [a, b] k2 pt2) pos.line X.env = pure false := by rfl) :
    DS X W (.Assign [.Tuple [.Name x px, .Name y py] kt pt] (.Tuple [a, b] k2 pt2) pos) (fun t => do let xs ← ms t; let t' ← liftO (setMs t [i, j] xs); pure (.nx t')) := by
  refine PS.imp (ps_par hc hN hi hj hij hx hy ha hw hs) fun E σ H ⟨n, t, p, G, S, ow, r, h⟩ => ?_
  refine ⟨t, p, G, S, ow, r.rs, okS.parM h r fun vs H' hl q => ?_⟩
  obtain ⟨v1, v2, rfl⟩ := len2 hl
  exact ⟨v1, v2, rfl, q⟩
theorem ds_parM3 (i j l : Nat) {x y z : Str} {a b c : Expr} {ms : DSt → M (List DV)} {px py pz pt : Pos} {kt k2 pt2} (hc : X.calm = true) (hN : X.N.Nodup) (hi : X.N[i]? = some x) (hj : X.N[j]? = some y) (hl : X.N[l]? = some z) (hij : i ≠ j) (hil : i ≠ l) (hjl : j ≠ l) (hx : X.env.scope.names.lookup x = some .local) (hy : X.env.scope.names.lookup y = some .local) (hz : X.env.scope.names.lookup z = some .local) (ha : DM X W.x [a, b, c] ms)
    (hw : swappedStores [.Tuple [.Name x px, .Name y py, .Name z pz] kt pt] (.Tuple [a, b, c] k2 pt2) X.env = pure (some [x, y, z]) := by rfl) (hs : swapsWithSole [.Tuple [.Name x px, .Name y py, .Name z pz] kt pt] (.Tuple [a, b, c] k2 pt2) pos.line X.env = pure false := by rfl) :
    DS X W (.Assign [.Tuple [.Name x px, .Name y py, .Name z pz] kt pt] (.Tuple [a, b, c] k2 pt2) pos) (fun t => do let xs ← ms t; let t' ← liftO (setMs t [i, j, l] xs); pure (.nx t')) := by
  refine PS.imp (ps_par3 hc hN hi hj hl hij hil hjl hx hy hz ha hw hs) fun E σ H ⟨n, t, p, G, S, ow, r, h⟩ => ?_
  refine ⟨t, p, G, S, ow, r.rs, okS.parM h r fun vs H' hl q => ?_⟩
  obtain ⟨v1, v2, v3, rfl⟩ := len3 hl
  exact ⟨v1, v2, v3, rfl, q⟩
end
end RM

namespace RM
open PySem PySem.Spec PyProof.Rows L2
variable [PgW]
def era (G : Hp) (l : Addr) : Hp := fun a => if a = l then none else G a
theorem era_ne {G : Hp} {l a : Addr} (h : a ≠ l) : era G l a = G a := if_neg h
theorem era_same {G : Hp} {l : Addr} : era G l l = none := if_pos rfl
mutual
theorem Den.era {K : PySem.W.Frag} {p : List (List Addr)} {G : Hp} {l : Addr} {ws : List V} (hl : G l = some (.lst ws)) : ∀ {d : D} {v : V}, noLst d = true → Den K p G d v → Den K p (RM.era G l) d v
  | .non, _, _, h => h
  | .bl _, _, _, h => h
  | .int _, _, _, h => h
  | .str _, _, _, h => h
  | .tup xs, _, n, ⟨a, vs, h1, h2, h3⟩ => by
    refine ⟨a, vs, h1, ?_, DenL.era hl (show noLstL xs = true from n) h3⟩
    rcases h2 with (h | ⟨o, h⟩) | h
    · exact .inl (.inl ((era_ne (by rintro rfl; rw [hl] at h; cases h)).trans h))
    · exact .inl (.inr ⟨o, (era_ne (by rintro rfl; rw [hl] at h; cases h)).trans h⟩)
    · exact .inr h
  | .lst _, _, n, _ => by cases n
  | .ins _ _ fs, _, n, ⟨a, dx, vs, h1, h2, h4, h3⟩ => ⟨a, dx, vs, h1, (era_ne (by rintro rfl; rw [hl] at h2; cases h2)).trans h2, h4, DenL.era hl (show noLstL fs = true from n) h3⟩
  | .mref _, _, _, h => h
  | .dic _ xs, _, n, ⟨a, o, vs, h1, h2, h4, h3⟩ => ⟨a, o, vs, h1, (era_ne (by rintro rfl; rw [hl] at h2; cases h2)).trans h2, h4, DenL.era hl (show noLstL xs = true from n) h3⟩
  | .scr _, _, n, _ => by cases n
  | .xcp _ _ fs, _, n, ⟨a, dd, vs, h1, h2, h3, h4, h5⟩ => ⟨a, dd, vs, h1, (era_ne (by rintro rfl; rw [hl] at h2; unfold XcO at h2; cases h2)).trans h2, h3.imp id fun ⟨d, q1, q2⟩ => ⟨d, q1, (era_ne (by rintro rfl; rw [hl] at q2; cases q2)).trans q2⟩, h4, DenL.era hl (show noLstL fs = true from n) h5⟩
  | .dct _ xs, _, n, ⟨a, o, u, h1, h2, h3⟩ => ⟨a, o, u, h1, (era_ne (by rintro rfl; rw [hl] at h2; cases h2)).trans h2, h3.imp id fun ⟨es, vs, g3, h3, h4, h5, h6⟩ => ⟨es, vs, g3, h3, fun x hx => by
    rcases h4 x hx with (h | ⟨o, h⟩) | h
    · exact .inl (.inl ((era_ne (by rintro rfl; rw [hl] at h; cases h)).trans h))
    · exact .inl (.inr ⟨o, (era_ne (by rintro rfl; rw [hl] at h; cases h)).trans h⟩)
    · exact .inr h, h5, DenL.era hl (show noLstL xs = true from n) h6⟩⟩
theorem DenL.era {K : PySem.W.Frag} {p : List (List Addr)} {G : Hp} {l : Addr} {ws : List V} (hl : G l = some (.lst ws)) : ∀ {ds : List D} {vs : List V}, noLstL ds = true → DenL K p G ds vs → DenL K p (RM.era G l) ds vs
  | [], _, _, h => h
  | d :: ds, _, n, ⟨v, r, h1, h2, h3⟩ => by
    have n' := Bool.and_eq_true_iff.mp (show (noLst d && noLstL ds) = true from n)
    exact ⟨v, r, h1, Den.era hl n'.1 h2, DenL.era hl n'.2 h3⟩
end
theorem MoAt.era {K : PySem.W.Frag} {p : List (List Addr)} {G H : Hp} {l : Addr} {ws : List V} (hl : G l = some (.lst ws)) : ∀ {as : List Addr} {o : MO}, MoAt K p G H as o → MoAt K p (RM.era G l) H as o
  | [_, _, _], .tape _, h => h
  | [_], .inst _ _ fs, ⟨n, dx, vs, h1, h2, h3⟩ => ⟨n, dx, vs, h1, h2, h3.era hl n⟩
  | [_], .tab _ _, ⟨h0, ps, h1, h2, h3⟩ => ⟨h0, ps, h1, h2, fun pos cv z => let ⟨c, e1, e2⟩ := h3 pos cv z; ⟨c, e1, (era_ne (by rintro rfl; rw [hl] at e2; unfold LamX.CodeO at e2; cases e2)).trans e2⟩⟩
  | [_], .lst _, ⟨n, vs, h1, h3⟩ => ⟨n, vs, h1, h3.era hl n⟩
  | [_], .kd kv, ⟨n, es, h1, h3⟩ => ⟨n, es, h1, h3.imp (fun b k h2 => by
    rcases h2 with (h | ⟨o, h⟩) | h
    · exact .inl (.inl ((era_ne (by rintro rfl; rw [hl] at h; cases h)).trans h))
    · exact .inl (.inr ⟨o, (era_ne (by rintro rfl; rw [hl] at h; cases h)).trans h⟩)
    · exact .inr h) fun x hx v dv => dv.era hl (noLstL_mem n _ (List.mem_map_of_mem hx))⟩
def checked {β : Type} (ok : β → Bool) : Res β → Res β
  | .ok d S' => if ok d = true then .ok d S' else .stuck
  | _ => .stuck
section
variable {K : PySem.W.Frag} {p : List (List Addr)} {G H : Hp} {S : Sto} {t : DSt} {σ : L2.St} {ow : List Addr} {i : Nat} {xs : List D}
theorem RelS.lend (r : RelS K p G S H t σ ow) (e : t[i]? = some (some (.own xs))) : ∃ l ws ow', G l = none ∧ l ∉ p.flatten ∧ RelS K p (upd G l (.lst ws)) S H (t.set i (some (.val (.lst xs)))) σ ow' := by
  obtain ⟨a, vs, x, y, eo, hH, dn, q⟩ := r.sl.ice e
  have ha : a ∈ ow := by rw [eo]; simp
  have ga := r.gn a ha
  have pa : a ∉ p.flatten := fun z => (List.nodup_append.mp r.nd).2.2 a z a ha rfl
  have ndo := (List.nodup_append.mp r.nd).2.1
  have sub : ∀ b ∈ x ++ y, b ∈ ow ∧ b ≠ a := fun b hb => by
    rw [eo] at ndo ⊢
    refine ⟨by simp at hb ⊢; rcases hb with z | z <;> simp [z], ?_⟩
    rintro rfl
    exact (List.nodup_cons.mp (List.perm_middle.nodup_iff.mp ndo)).1 hb
  have sm : Same G (upd G a (.lst vs)) := Same.upd_of ga
  refine ⟨a, vs, x ++ y, ga, pa, ⟨fun b o z => ?_, r.rel.len, fun i as o e1 e2 => (r.rel.mo i as o e1 e2).ice sm, r.rel.nd, fun b hb => ?_⟩, q ga, ?_, fun b hb => ?_⟩
  · by_cases w : b = a
    · subst w; rw [upd_same] at z; cases z; exact hH
    · rw [upd_ne w] at z; exact r.rel.sub b o z
  · rw [upd_ne (by rintro rfl; exact pa hb)]; exact r.rel.gn b hb
  · rw [eo] at r
    have : (p.flatten ++ (x ++ y)).Sublist (p.flatten ++ (x ++ a :: y)) := List.Sublist.append (List.Sublist.refl _) (List.Sublist.append (List.Sublist.refl _) (List.sublist_cons_self a y))
    exact r.nd.sublist this
  · rw [upd_ne (sub b hb).2]
    exact r.gn b (sub b hb).1
theorem lent_back {β γ : Type} {R : List (List Addr) → Hp → β → γ → Prop} {W W' : Value → Option Addr → Hp → Prop} {Q : γ → Hp → Prop} {l : Addr} {ws : List V} {r : Res β} {ok : β → Bool} (hR : ∀ p G d v, ok d = true → G l = some (.lst ws) → R p G d v → R p (era G l) d v) (gl : G l = none)
    (h : okR R K p G H W (checked ok r) Q) : okR R K p (upd G l (.lst ws)) H W' r Q := by
  cases r with
  | stuck => exact h.elim
  | exc e S' => exact (show False from h).elim
  | ok w S2 =>
    have h3 : okR R K p G H W (if ok w = true then .ok w S2 else .stuck) Q := h
    by_cases hf : ok w = true
    · rw [if_pos hf] at h3
      intro v2 p2 G2 H2 dv r2 x2
      have gl2 : G2 l = some (.lst ws) := x2.g l _ upd_same
      refine h3 v2 p2 (era G2 l) H2 (hR _ _ _ _ hf gl2 dv) ⟨fun b o z => ?_, r2.len, fun j as o z1 z2 => (r2.mo j as o z1 z2).era gl2, r2.nd, fun b hb => ?_⟩ ⟨fun b o z => ?_, fun b z1 z2 => ?_, x2.h, x2.d, x2.p⟩
      · by_cases w : b = l
        · subst w; rw [era_same] at z; cases z
        · rw [era_ne w] at z; exact r2.sub b o z
      · by_cases w : b = l
        · subst w; exact era_same
        · rw [era_ne w]; exact r2.gn b hb
      · have w : b ≠ l := by rintro rfl; rw [gl] at z; cases z
        rw [era_ne w]
        exact x2.g b o (by rw [upd_ne w]; exact z)
      · by_cases w : b = l
        · subst w; exact era_same
        · rw [era_ne w]
          exact x2.gn b (by rw [upd_ne w]; exact z1) z2
    · rw [if_neg hf] at h3
      exact h3.elim
end
def lend (i : Nat) (m : DSt → M D) (t : DSt) : M D := fun S => match t[i]? with
  | some (some (.own xs)) => checked noLst (m (t.set i (some (.val (.lst xs)))) S)
  | _ => m t S
end RM

namespace RM
open PySem PySem.Spec PyProof.Rows L2
variable [PgW]

def tupAt (K : PySem.W.Frag) (a : Addr) (vs : List V) : Bool := match K.lookup a with
  | some ⟨.type c, _, .seq its _, _⟩ => decide (c = "tuple") && (decide (its.size ≤ sizeLine) && He.relAll vs its.toList)
  | _ => false
theorem tupAt_ok {K : PySem.W.Frag} {a : Addr} {vs : List V} (h : tupAt K a vs = true) (H : Hp) : SqT K H a vs := by
  unfold tupAt at h
  split at h
  · rename_i c dd its n sl e
    have h1 := Bool.and_eq_true_iff.mp h
    have h2 := Bool.and_eq_true_iff.mp h1.2
    exact .inr ⟨_, its, n, e, congrArg Value.type (of_decide_eq_true h1.1), rfl, of_decide_eq_true h2.1, He.relAll_ok h2.2⟩
  · cases h
abbrev MD := DSt → M D
abbrev mVar (i : Nat) : MD := fun t => getV t i
abbrev mC (d : D) : MD := fun _ => pure d
abbrev m1 (f : D → M D) (a : MD) : MD := fun t => do let x ← a t; f x
abbrev m2 (f : D → D → M D) (a b : MD) : MD := fun t => do let x ← a t; let y ← b t; f x y
abbrev mNil : DSt → M (List D) := fun _ => pure []
abbrev mCons (a : MD) (b : DSt → M (List D)) : DSt → M (List D) := fun t => do let x ← a t; let xs ← b t; pure (x :: xs)
abbrev mA (f : List D → M D) (a : DSt → M (List D)) : MD := fun t => do let xs ← a t; f xs
abbrev mT (a : MD) : DSt → M Bool := fun t => do let x ← a t; asB x
abbrev tAndM (a b : DSt → M Bool) : DSt → M Bool := fun t => do if ← a t then b t else pure false
abbrev mIf (c : DSt → M Bool) (a b : MD) : MD := fun t => do if ← c t then a t else b t
abbrev SD := DSt → M Ctl
abbrev sSeq (a b : SD) : SD := fun t => do let c ← a t; seqC b c
abbrev sNil : SD := fun t => pure (.nx t)
abbrev sRet (a : MD) : SD := fun t => do let x ← a t; pure (.rt x)
abbrev sIf (c : DSt → M Bool) (a b : SD) : SD := fun t => do if ← c t then a t else b t
abbrev sSet (i : Nat) (a : MD) : SD := fun t => do let d ← a t; let t' ← liftO (setV t i d); pure (.nx t')
end RM

namespace RM
open PySem PySem.Spec PyProof.Rows L2
variable [PgW]
section
variable {K : PySem.W.Frag} {x qual : Str} {params : Arguments} {body : List Stmt} {scope : Scope} {dvs : List V} {kws : List (Str × V)} {f : Addr} {fd : FuncData} {ps : List Str}
structure Own (P : Program) (w : World) (K : PySem.W.Frag) (mg : Str → Option Value) (base : Heap) (k : Nat) (f : Addr) (fd : FuncData) (ps : List Str) (g : List D → M D) : Prop where
  fn : FnD P w K mg base k f fd ps g
  kp : PySem.W.keepIn K (.ref f) = true
theorem funSame {x' qual' : Str} {params' : Arguments} {body' : List Stmt} {scope' : Scope} {dvs' : List V} {kws' : List (Str × V)} {fd' : FuncData} (F : FunD K x qual params body scope dvs kws f fd) (F' : FunD K x' qual' params' body' scope' dvs' kws' f fd') : fd' = fd := by
  obtain ⟨oc, od, dV, kV, doc, pm, an, cdv, ct, osl, _, lk, _⟩ := F.ex
  obtain ⟨oc', od', dV', kV', doc', pm', an', cdv', ct', osl', _, lk', _⟩ := F'.ex
  rw [lk] at lk'
  cases lk'
  rfl
def arK : {α : Type} → List α → List α → List α → List α := fun _ ws _ => ws
end
theorem units1 {k : Nat} {A : Around} (r : Room k A) : A.units + 1 < cLine := by have := r.un; omega
def drawB : SD :=
  sSeq (fun t => whileD (tAndM (mT (m2 eqD (fun t => do let o ← getV t 0; let tp ← tapeOf o; pure (.int tp.rest)) (mC (.int 0)))) (fun t => do let o ← getV t 0; let tp ← tapeOf o; pure (!tp.large.isEmpty))) (fun t => do let o ← getV t 0; popLarge o; pure (.nx t)) 1100 t)
  (sSeq (sIf (mT (m2 gtD (fun t => do let o ← getV t 0; let tp ← tapeOf o; pure (.int tp.rest)) (mC (.int 0))))
    (sSeq (sSet 2 (m2 modD (mA intD (mCons (fun t => do let o ← getV t 0; let tp ← tapeOf o; pure (.int tp.rest)) mNil)) (mVar 1)))
      (sSeq (fun t => do let v ← m2 fdivD (fun t => do let o ← getV t 0; let tp ← tapeOf o; pure (.int tp.rest)) (mVar 1) t; let o ← getV t 0; restD o v; pure (.nx t))
        (sRet (mVar 2)))) sNil)
  (sSeq (sSet 3 (m2 addD (fun t => do let o ← getV t 0; let tp ← tapeOf o; pure (.int tp.turn)) (mC (.int 1))))
  (sSeq (fun t => do let v ← mVar 3 t; let o ← getV t 0; turnD o v; pure (.nx t))
  (sSeq (sSet 4 (mIf (fun t => do let o ← getV t 0; let tp ← tapeOf o; pure (!tp.cells.isEmpty)) (fun t => do let o ← getV t 0; let _ ← tapeOf o; let k ← m2 modD (mA intD (mCons (mVar 3) mNil)) (fun t => do let o ← getV t 0; let tp ← tapeOf o; pure (.int tp.cells.length)) t; let tp ← tapeOf o; cellD tp k) (mC (.int 0))))
  (sSeq (sSet 5 (m2 modD (mA intD (mCons (m2 powD (m2 addD (m2 addD (m2 modD (mA intD (mCons (mVar 4) mNil)) (mC (.int 2147483629))) (m2 mulD (mC (.int 48271)) (mVar 3))) (mC (.int 13579))) (mC (.int 3))) mNil)) (mC (.int 2147483647))))
  (sRet (m2 modD (mA intD (mCons (m2 fdivD (m2 modD (mA intD (mCons (m2 powD (m2 addD (mVar 5) (m2 mulD (mC (.int 99991)) (mVar 3))) (mC (.int 5))) mNil)) (mC (.int 2147483587))) (mC (.int 23))) mNil)) (mVar 1))))))))
def drawM : List D → M D := runB 6 drawB
end RM

namespace RM
open PySem PySem.Spec PyProof.Rows L2
variable [PgW]
@[simp] theorem run_bind {a b : Type} (m : M a) (f : a → M b) (s : Sto) : (m >>= f) s = (m s).andThen f := Eq.trans rfl rfl
@[simp] theorem run_pure {a : Type} (x : a) (s : Sto) : (pure x : M a) s = .ok x s := Eq.trans rfl rfl
@[simp] theorem run_stuck {a : Type} (s : Sto) : (stuck : M a) s = .stuck := Eq.trans rfl rfl
@[simp] theorem getV_0 (d : D) (t : DSt) : getV (some (.val d) :: t) 0 = pure d := Eq.trans rfl rfl
@[simp] theorem getV_s (x : Option DV) (t : DSt) (i : Nat) : getV (x :: t) (i + 1) = getV t i := Eq.trans rfl rfl
@[simp] theorem getO_0 (d : List D) (t : DSt) : getO (some (.own d) :: t) 0 = pure d := Eq.trans rfl rfl
@[simp] theorem getO_s (x : Option DV) (t : DSt) (i : Nat) : getO (x :: t) (i + 1) = getO t i := Eq.trans rfl rfl
@[simp] theorem setV_0 (d : D) (x : Option DV) (t : DSt) : setV (x :: t) 0 d = some (some (.val d) :: t) := Eq.trans rfl rfl
@[simp] theorem setV_s (d : D) (x : Option DV) (t : DSt) (i : Nat) : setV (x :: t) (i + 1) d = (setV t i d).map (x :: ·) := by
  unfold setV
  rw [List.length_cons]
  by_cases h : i < t.length
  · rw [if_pos h, if_pos (by omega)]; rfl
  · rw [if_neg h, if_neg (by omega)]; rfl
@[simp] theorem setO_0 (d : List D) (x : Option DV) (t : DSt) : setO (x :: t) 0 d = some (some (.own d) :: t) := Eq.trans rfl rfl
@[simp] theorem setO_s (d : List D) (x : Option DV) (t : DSt) (i : Nat) : setO (x :: t) (i + 1) d = (setO t i d).map (x :: ·) := by
  unfold setO
  rw [List.length_cons]
  by_cases h : i < t.length
  · rw [if_pos h, if_pos (by omega)]; rfl
  · rw [if_neg h, if_neg (by omega)]; rfl
@[simp] theorem liftO_some {α : Type} (x : α) : (liftO (some x) : M α) = pure x := Eq.trans rfl rfl
@[simp] theorem seqC_nx (u : DSt → M Ctl) (t : DSt) : seqC u (.nx t) = u t := Eq.trans rfl rfl
@[simp] theorem seqC_rt (u : DSt → M Ctl) (d : D) : seqC u (.rt d) = pure (.rt d) := Eq.trans rfl rfl
@[simp] theorem endC_rt (d : D) : endC (.rt d) = pure d := Eq.trans rfl rfl
@[simp] theorem endC_nx (t : DSt) : endC (.nx t) = pure .non := Eq.trans rfl rfl
@[simp] theorem asB_bl (b : Bool) : asB (.bl b) = pure b := Eq.trans rfl rfl
class Pre where
  pre : Sto
  ix : Nat
  hx : pre.length = ix
class Hs where
  hs : List MO
section
variable [Pre] [Hs]
abbrev onT (tp : Tape) : Sto := Pre.pre ++ .tape tp :: Hs.hs
theorem onT_get (tp : Tape) : (onT tp)[Pre.ix]? = some (.tape tp) := by
  rw [← Pre.hx, List.getElem?_append_right (Nat.le_refl _), Nat.sub_self]; rfl
theorem onT_set (tp tq : Tape) : (onT tp).set Pre.ix (.tape tq) = onT tq := by
  rw [← Pre.hx]
  show (Pre.pre ++ MO.tape tp :: Hs.hs).set Pre.pre.length (.tape tq) = _
  rw [List.set_append_right _ _ (Nat.le_refl _), Nat.sub_self]; rfl
@[simp] theorem tapeOf_0 (tp : Tape) : tapeOf (.mref Pre.ix) (onT tp) = .ok tp (onT tp) := by
  unfold tapeOf
  dsimp only
  rw [onT_get]
@[simp] theorem tapeSet_0 (tp tq : Tape) : tapeSet (.mref Pre.ix) tq (onT tp) = .ok () (onT tq) := by
  unfold tapeSet
  dsimp only
  rw [onT_get]
  dsimp only
  rw [onT_set]
end
@[simp] theorem freeze_own (xs : List D) (t : DSt) : freeze 0 (some (.own xs) :: t) = some (.val (.lst xs)) :: t := Eq.trans rfl rfl
@[simp] theorem freeze_s (x : Option DV) (t : DSt) (i : Nat) : freeze (i + 1) (x :: t) = x :: freeze i t := by
  unfold freeze
  show (match (x :: t)[i + 1]? with | some (some (.own xs)) => _ | _ => _) = _
  rw [List.getElem?_cons_succ]
  cases h : t[i]? with
  | none => rfl
  | some o =>
    cases o with
    | none => rfl
    | some v => cases v <;> rfl
@[simp] theorem run_map {a b : Type} (f : a → b) (m : M a) (s : Sto) : (f <$> m) s = (m s).andThen fun x => pure (f x) := Eq.trans rfl rfl
@[simp] theorem eqD_int (i j : Int) : eqD (.int i) (.int j) = pure (.bl (i == j)) := Eq.trans rfl rfl
@[simp] theorem eqD_str (i j : Str) : eqD (.str i) (.str j) = pure (.bl (i == j)) := Eq.trans rfl rfl
@[simp] theorem eqD_bl (i j : Bool) : eqD (.bl i) (.bl j) = pure (.bl (i == j)) := Eq.trans rfl rfl
@[simp] theorem neD_int (i j : Int) : neD (.int i) (.int j) = pure (.bl (!(i == j))) := Eq.trans rfl rfl
@[simp] theorem neD_str (i j : Str) : neD (.str i) (.str j) = pure (.bl (!(i == j))) := Eq.trans rfl rfl
@[simp] theorem neD_bl (i j : Bool) : neD (.bl i) (.bl j) = pure (.bl (!(i == j))) := Eq.trans rfl rfl
@[simp] theorem ltD_int (i j : Int) : ltD (.int i) (.int j) = pure (.bl (decide (i < j))) := Eq.trans rfl rfl
@[simp] theorem leD_int (i j : Int) : leD (.int i) (.int j) = pure (.bl (decide (i ≤ j))) := Eq.trans rfl rfl
@[simp] theorem gtD_int (i j : Int) : gtD (.int i) (.int j) = pure (.bl (decide (j < i))) := Eq.trans rfl rfl
@[simp] theorem geD_int (i j : Int) : geD (.int i) (.int j) = pure (.bl (decide (j ≤ i))) := Eq.trans rfl rfl
@[simp] theorem addD_int (i j : Int) : addD (.int i) (.int j) = pure (.int (i + j)) := Eq.trans rfl rfl
@[simp] theorem subD_int (i j : Int) : subD (.int i) (.int j) = pure (.int (i - j)) := Eq.trans rfl rfl
@[simp] theorem negD_int (i : Int) : negD (.int i) = pure (.int (-i)) := Eq.trans rfl rfl
@[simp] theorem intD_int (i : Int) : intD [.int i] = pure (.int i) := Eq.trans rfl rfl
@[simp] theorem notD (d : D) (h : d ≠ .non) : notNonD d .non = pure (.bl true) := by cases d <;> first | rfl | exact absurd rfl h
@[simp] theorem isD_non : isNonD .non .non = pure (.bl true) := Eq.trans rfl rfl
@[simp] theorem notD_non : notNonD .non .non = pure (.bl false) := Eq.trans rfl rfl
theorem modD_int {i j : Int} (h : 0 < j) : modD (.int i) (.int j) = pure (.int (i % j)) := if_pos h
theorem fdivD_int {i j : Int} (h : 0 < j) (h2 : j.natAbs.log2 < 9000) : fdivD (.int i) (.int j) = pure (.int (i / j)) := if_pos ⟨h, h2⟩
theorem powD_int {i j : Int} (h : 0 ≤ j) (h2 : j ≤ 1000000) (h3 : i.natAbs < 2 ^ 64) : powD (.int i) (.int j) = pure (.int (i ^ j.toNat)) := if_pos ⟨h, h2, h3⟩
theorem mulD_int {i j : Int} (h : -(2 ^ 64) < i ∧ i < 2 ^ 64) : mulD (.int i) (.int j) = pure (.int (i * j)) := if_pos (.inl h)
theorem atI_in {α : Type} {xs : List α} {i : Int} (h0 : 0 ≤ i) (h1 : i < xs.length) : ∃ x, x ∈ xs ∧ xs[i.toNat]? = some x ∧ atI xs i = some x := by
  have hlt : i.toNat < xs.length := by omega
  refine ⟨xs[i.toNat], List.getElem_mem hlt, List.getElem?_eq_getElem hlt, ?_⟩
  unfold atI ixN
  rw [if_pos h0, if_pos h1]
  exact List.getElem?_eq_getElem hlt
@[simp] theorem argsD_ok {n : Nat} {g : List D → M D} {xs : List D} (h : xs.length = n) : argsD n g xs = g xs := if_pos h
@[simp] theorem argsK_ok {n : Nat} {g : List D → M D} {xs : List D} (h : xs.length = n) : argsK 0 n n arK [] g [] xs = g xs := by
  unfold argsK
  rw [if_pos ⟨rfl, h⟩]
  exact argsD_ok h
@[simp] theorem partD_int (i : Int) : partD (.int i) = pure (some i) := Eq.trans rfl rfl
@[simp] theorem strD_str (x : Str) : strD (.str x) = pure x := Eq.trans rfl rfl
theorem size_big (n : Nat) (h : n ≤ 1000000) : n ≤ sizeLine := Nat.le_trans h (by decide)
theorem lenD_str {x : Str} (h : x.length ≤ sizeLine) : lenD [.str x] = pure (.int x.length) := if_pos h
@[simp] theorem lenD_lst (xs : List D) : lenD [.lst xs] = pure (.int xs.length) := Eq.trans rfl rfl
@[simp] theorem lenD_tup (xs : List D) : lenD [.tup xs] = pure (.int xs.length) := Eq.trans rfl rfl
@[simp] theorem lenD_scr (xs : List Int) : lenD [.scr xs] = pure (.int xs.length) := Eq.trans rfl rfl
@[simp] theorem iterD_str (x : Str) : iterD (.str x) = pure (signs x) := Eq.trans rfl rfl
@[simp] theorem iterD_lst (x : List D) : iterD (.lst x) = pure x := Eq.trans rfl rfl
@[simp] theorem iterD_tup (x : List D) : iterD (.tup x) = pure x := Eq.trans rfl rfl
structure Good (t : Tape) : Prop where
  large : ∀ z ∈ t.large, 0 ≤ z
  cells : ∀ z ∈ t.cells, 0 ≤ z
  rest : 0 ≤ t.rest
  turn : 0 ≤ t.turn
  len : t.large.length ≤ 1000
section
variable [Pre]
def HT {α : Type} (n : Nat) (m : M α) (P : α → Prop) : Prop := ∀ (h : Hs) (t : Tape), Good t → t.turn + n ≤ 1000000000000 → ∃ a t', m (onT t) = .ok a (onT t') ∧ Good t' ∧ t'.turn ≤ t.turn + n ∧ P a
theorem HT.mono {α : Type} {n k : Nat} {m : M α} {P Q : α → Prop} (h : HT n m P) (hn : n ≤ k) (hp : ∀ a, P a → Q a) : HT k m Q := fun z t g b =>
  let ⟨a, t', e, g', b', p⟩ := h z t g (by omega)
  ⟨a, t', e, g', by omega, hp a p⟩
theorem HT.pure {α : Type} {P : α → Prop} {x : α} (h : P x) : HT 0 (pure x : M α) P := fun _ t g _ => ⟨x, t, rfl, g, by omega, h⟩
theorem HT.bind {α β : Type} {n k : Nat} {m : M α} {f : α → M β} {P : α → Prop} {Q : β → Prop} (h : HT n m P) (hf : ∀ a, P a → HT k (f a) Q) : HT (n + k) (m >>= f) Q := fun z t g b => by
  obtain ⟨a, t1, e1, g1, b1, p1⟩ := h z t g (by omega)
  obtain ⟨c, t2, e2, g2, b2, p2⟩ := hf a p1 z t1 g1 (by omega)
  refine ⟨c, t2, ?_, g2, by omega, p2⟩
  rw [run_bind, e1]
  exact e2
theorem HT.noE {α : Type} {n : Nat} {m : M α} {P : α → Prop} (h : HT n m P) : HT n (RM.noE m) P := fun z t g b => by
  obtain ⟨a, t', e, r⟩ := h z t g b
  exact ⟨a, t', by unfold RM.noE; rw [e], r⟩
theorem draw_while [Hs] {c : DSt → M Bool} {b : DSt → M Ctl} {t : DSt} (hc : ∀ tp, c t (onT tp) = .ok (tp.rest == 0 && !tp.large.isEmpty) (onT tp)) (hb : ∀ tp k l, tp.large = k :: l → b t (onT tp) = .ok (.nx t) (onT { tp with rest := k, large := l })) :
    ∀ (fuel : Nat) (tp : Tape), Good tp → tp.large.length < fuel → ∃ tp', whileD c b fuel t (onT tp) = .ok (.nx t) (onT tp') ∧ Good tp' ∧ tp'.turn = tp.turn
  | 0, tp, _, h => by omega
  | n + 1, tp, g, h => by
    unfold whileD
    rw [run_bind, hc, andThen_ok]
    by_cases q : (tp.rest == 0 && !tp.large.isEmpty) = true
    · rw [if_pos q]
      cases hl : tp.large with
      | nil => rw [hl] at q; simp at q
      | cons k l =>
        rw [run_bind, hb tp k l hl, andThen_ok]
        obtain ⟨tp', e, g', tu⟩ := draw_while hc hb n { tp with rest := k, large := l } ⟨fun z hz => g.large z (by rw [hl]; exact List.mem_cons_of_mem _ hz), g.cells, g.large k (by rw [hl]; exact List.mem_cons_self ..), g.turn, by have := g.len; rw [hl] at this; simp at this ⊢; omega⟩ (by rw [hl] at h; simp at h ⊢; omega)
        exact ⟨tp', e, g', tu⟩
    · rw [if_neg q]
      exact ⟨tp, rfl, g, rfl⟩
theorem drawM_ok {n : Int} (hn : 0 < n) (hl : n.natAbs.log2 < 9000) : HT 1 (drawM [.mref Pre.ix, .int n]) fun d => ∃ k, d = .int k ∧ 0 ≤ k ∧ k < n := by
  intro z0 tp g hb
  unfold drawM runB drawB
  obtain ⟨tp1, e1, g1, tu⟩ := draw_while (t := startD 6 [.mref Pre.ix, .int n]) (c := tAndM (mT (m2 eqD (fun t => do let o ← getV t 0; let tp ← tapeOf o; pure (.int tp.rest)) (mC (.int 0)))) (fun t => do let o ← getV t 0; let tp ← tapeOf o; pure (!tp.large.isEmpty))) (b := fun t => do let o ← getV t 0; popLarge o; pure (.nx t))
    (fun tp => by
      by_cases q : tp.rest = 0
      · simp [startD, q]
      · simp [startD, q]) (fun tp k l h => by simp [startD, popLarge, h]) 1100 tp g (by have := g.len; omega)
  have tt := g1.turn
  simp only [run_bind, e1, andThen_ok, seqC_nx]
  by_cases q : 0 < tp1.rest
  · exact ⟨.int (tp1.rest % n), { tp1 with rest := tp1.rest / n }, by simp [startD, q, modD_int hn, fdivD_int hn hl, restD], ⟨g1.large, g1.cells, Int.ediv_nonneg (by omega) (by omega), g1.turn, g1.len⟩, by show tp1.turn ≤ _; omega, _, rfl, Int.emod_nonneg _ (by omega), Int.emod_lt_of_pos _ hn⟩
  · have tail : ∀ c : Int, 0 ≤ c → ∃ m k : Int, 0 ≤ k ∧ k < n ∧ powD (.int (c % 2147483629 + 48271 * (tp1.turn + 1) + 13579)) (.int 3) = pure (.int ((c % 2147483629 + 48271 * (tp1.turn + 1) + 13579) ^ 3)) ∧ (c % 2147483629 + 48271 * (tp1.turn + 1) + 13579) ^ 3 % 2147483647 = m
        ∧ powD (.int (m + 99991 * (tp1.turn + 1))) (.int 5) = pure (.int ((m + 99991 * (tp1.turn + 1)) ^ 5)) ∧ ((m + 99991 * (tp1.turn + 1)) ^ 5 % 2147483587 / 23) % n = k := by
      intro c hc
      have a1 := Int.emod_nonneg c (b := 2147483629) (by omega)
      have a2 := Int.emod_lt_of_pos c (b := 2147483629) (by omega)
      have p1 : powD (.int (c % 2147483629 + 48271 * (tp1.turn + 1) + 13579)) (.int 3) = pure (.int ((c % 2147483629 + 48271 * (tp1.turn + 1) + 13579) ^ 3)) := powD_int (by omega) (by omega) (by omega)
      obtain ⟨m, em⟩ : ∃ m, m = (c % 2147483629 + 48271 * (tp1.turn + 1) + 13579) ^ 3 % 2147483647 := ⟨_, rfl⟩
      have a3 := Int.emod_nonneg ((c % 2147483629 + 48271 * (tp1.turn + 1) + 13579) ^ 3) (b := 2147483647) (by omega)
      have a4 := Int.emod_lt_of_pos ((c % 2147483629 + 48271 * (tp1.turn + 1) + 13579) ^ 3) (b := 2147483647) (by omega)
      rw [← em] at a3 a4
      have p2 : powD (.int (m + 99991 * (tp1.turn + 1))) (.int 5) = pure (.int ((m + 99991 * (tp1.turn + 1)) ^ 5)) := powD_int (by omega) (by omega) (by omega)
      exact ⟨m, _, Int.emod_nonneg _ (by omega), Int.emod_lt_of_pos _ hn, p1, em.symm, p2, rfl⟩
    have mo : ∀ i : Int, modD (.int i) (.int 2147483629) = pure (.int (i % 2147483629)) ∧ modD (.int i) (.int 2147483647) = pure (.int (i % 2147483647)) ∧ modD (.int i) (.int 2147483587) = pure (.int (i % 2147483587)) ∧ modD (.int i) (.int n) = pure (.int (i % n)) ∧ fdivD (.int i) (.int 23) = pure (.int (i / 23)) ∧ mulD (.int 48271) (.int i) = pure (.int (48271 * i)) ∧ mulD (.int 99991) (.int i) = pure (.int (99991 * i)) := fun i =>
      ⟨modD_int (by omega), modD_int (by omega), modD_int (by omega), modD_int hn, fdivD_int (by omega) (by decide), mulD_int (by decide), mulD_int (by decide)⟩
    have g2 : Good { tp1 with turn := tp1.turn + 1 } := ⟨g1.large, g1.cells, g1.rest, by show 0 ≤ tp1.turn + 1; omega, g1.len⟩
    cases hcs : tp1.cells with
    | nil =>
      obtain ⟨m, k, k0, k1, p1, em, p2, ek⟩ := tail 0 (by omega)
      refine ⟨.int k, { tp1 with turn := tp1.turn + 1 }, ?_, g2, by show tp1.turn + 1 ≤ _; omega, k, rfl, k0, k1⟩
      have p1' : powD (.int (0 % 2147483629 + 48271 * (tp1.turn + 1) + 13579)) (.int 3) = pure (.int ((0 % 2147483629 + 48271 * (tp1.turn + 1) + 13579) ^ 3)) := p1
      simp only [show (0 : Int) % 2147483629 = 0 from rfl, Int.zero_add] at p1' em
      simp [startD, q, turnD, hcs, mo, p1', em, p2, ek]
    | cons x xs =>
      have h1 := Int.emod_lt_of_pos (tp1.turn + 1) (b := ((x :: xs).length : Int)) (by rw [List.length_cons]; omega)
      have h2 := Int.emod_nonneg (tp1.turn + 1) (b := ((x :: xs).length : Int)) (by rw [List.length_cons]; omega)
      obtain ⟨c, hm, _, ha⟩ := atI_in h2 h1
      obtain ⟨m, k, k0, k1, p1, em, p2, ek⟩ := tail c (g1.cells c (by rw [hcs]; exact hm))
      refine ⟨.int k, { tp1 with turn := tp1.turn + 1 }, ?_, g2, by show tp1.turn + 1 ≤ _; omega, k, rfl, k0, k1⟩
      have ha' : atI (x :: xs) ((tp1.turn + 1) % ((xs.length : Int) + 1)) = some c := by rw [List.length_cons] at ha; simpa using ha
      simp [startD, q, turnD, hcs, modD_int (show (0 : Int) < (xs.length : Int) + 1 by omega), cellD, ha', mo, p1, em, p2, ek]
end
end RM

namespace RM
open PySem PySem.Spec PyProof.Rows L2
variable [PgW]
structure Dep {α : Type} (f : α) : Type where
  mk ::
def B {α β : Type} (m : M α) (f : α → M β) (_d : Dep f := Dep.mk) : M β := m >>= f
@[simp] theorem B_pure {α β : Type} (x : α) (f : α → M β) (d : Dep f) : B (pure x) f d = f x := Eq.trans rfl rfl
@[simp] theorem B_stuck {α β : Type} (f : α → M β) (d : Dep f) : B stuck f d = stuck := Eq.trans rfl rfl
@[simp] theorem B_raise {α β : Type} (e : Exc) (f : α → M β) (d : Dep f) : B (raise e) f d = raise e := Eq.trans rfl rfl
theorem B_B {α β γ : Type} (m : M α) (f : α → M β) (g : β → M γ) (d : Dep f) (e : Dep g) : B (B m f d) g e = B m (fun x => B (f x) g e) := by
  unfold B; exact bind_assoc m f g
theorem B_id {α : Type} (m : M α) (d : Dep (fun x : α => (pure x : M α))) : B m (fun x => pure x) d = m := by
  unfold B; exact bind_pure m
def runA : List (M D) → M (List D)
  | [] => pure []
  | m :: ms => do let x ← m; let xs ← runA ms; pure (x :: xs)
def argsB {β : Type} : List (M D) → (List D → M β) → M β
  | [], k => k []
  | m :: ms, k => B m (fun x => argsB ms (fun xs => k (x :: xs)))
abbrev callB {β : Type} (ms : List (M D)) (gf : List D → M β) (dds : List D) : M β := argsB ms fun xs => gf (xs ++ dds)
@[simp] theorem argsB_nil {β : Type} (k : List D → M β) : argsB [] k = k [] := Eq.trans rfl rfl
@[simp] theorem argsB_cons {β : Type} (m : M D) (ms : List (M D)) (k : List D → M β) : argsB (m :: ms) k = B m fun x => argsB ms fun xs => k (x :: xs) := Eq.trans rfl rfl
theorem argsB_eq {β : Type} : ∀ (ms : List (M D)) (k : List D → M β), argsB ms k = runA ms >>= k
  | [], k => (pure_bind _ _).symm
  | m :: ms, k => by
    show (m >>= fun x => argsB ms fun xs => k (x :: xs)) = (m >>= fun x => runA ms >>= fun xs => pure (x :: xs)) >>= k
    rw [bind_assoc]
    congr 1
    funext x
    rw [argsB_eq ms, bind_assoc]
    congr 1
open Classical in
noncomputable def AtG {α : Type} (g : DSt) (m : M α) : DSt → M α := fun t => if t = g then m else stuck
theorem AtG_self {α : Type} (g : DSt) (m : M α) : AtG g m g = m := if_pos rfl
theorem AtG_ne {α : Type} {g t : DSt} (m : M α) (h : t ≠ g) : AtG g m t = stuck := if_neg h
def tXE (K : PySem.W.Frag) (W : WX) (g : DSt) (m : M D) : TE := fun σ H Q => ∃ p G S ow, RelS K p G S H g σ ow ∧ okR (Den K) K p G H (fun c d H' => W c d σ H') (m S) Q
def tXT (K : PySem.W.Frag) (W : WX) (g : DSt) (m : M Bool) : TT := fun σ H Q => ∃ p G S ow, RelS K p G S H g σ ow ∧ okR rB K p G H (fun c d H' => W c d σ H') (m S) Q
def tXA (K : PySem.W.Frag) (W : WX) (g : DSt) (m : M (List D)) : TA := fun σ H Q => ∃ p G S ow, RelS K p G S H g σ ow ∧ okR (DenL K) K p G H (fun c d H' => W c d σ H') (m S) Q
def tXI (K : PySem.W.Frag) (W : WX) (g : DSt) (m : M (List D)) : TI := fun σ H R => ∃ p G S ow, RelS K p G S H g σ ow ∧ okR (ItOk K) K p G H (fun c d H' => W c d σ H') (m S) R
def tXF (K : PySem.W.Frag) (W : WX) (g : DSt) (m : M (List D)) : TE := fun σ H Q => ∃ p G S ow, RelS K p G S H g σ ow ∧ okF K p G H (fun c d H' => W c d σ H') (m S) Q
abbrev XE (X : Cx) (W : WX) (g : DSt) (e : Expr) (m : M D) : Prop := PE X e (tXE X.K W g m)
abbrev XT (X : Cx) (W : WX) (g : DSt) (e : Expr) (m : M Bool) : Prop := PT X e (tXT X.K W g m)
abbrev XW (X : Cx) (W : WX) (g : DSt) (e : Expr) (m : M Bool) : Prop := PW X e (tXT X.K W g m)
abbrev XA (X : Cx) (W : WX) (g : DSt) (es : List Expr) (ms : List (M D)) : Prop := PA X es (tXA X.K W g (runA ms))
abbrev XKw (X : Cx) (W : WX) (g : DSt) (kw : List Keyword) (ms : List (M D)) : Prop := PK X kw (tXA X.K W g (runA ms))
abbrev XI (X : Cx) (W : WX) (g : DSt) (tg e : Expr) (m : M (List D)) : Prop := PI X tg e (tXI X.K W g m)
abbrev XF (X : Cx) (W : WX) (g : DSt) (e : Expr) (m : M (List D)) : Prop := PE X e (tXF X.K W g m)
section
variable {X : Cx} {W : WX} {g : DSt} {e a b c tg : Expr} {es : List Expr} {kw : List Keyword} {m ma mb mc : M D} {mt mu : M Bool} {ml : M (List D)} {ms : List (M D)} {u : DSt → M D} {ut : DSt → M Bool} {ul : DSt → M (List D)} {pos : Pos}
theorem XE.de (h : XE X W g e m) : DE X W e (AtG g m) := PE.imp h fun σ H Q ⟨t, p, G, S, ow, r, q⟩ => by
  by_cases e : t = g
  · subst e; rw [AtG_self] at q; exact ⟨p, G, S, ow, r, q⟩
  · rw [AtG_ne m e] at q; exact q.elim
theorem XE.by (h : DE X W e u) (q : u g = m) : XE X W g e m := PE.imp h fun σ H Q ⟨p, G, S, ow, r, k⟩ => ⟨g, p, G, S, ow, r, by rw [q]; exact k⟩
theorem XT.dt (h : XT X W g e mt) : DT X W e (AtG g mt) := PT.imp h fun σ H Q ⟨t, p, G, S, ow, r, q⟩ => by
  by_cases e : t = g
  · subst e; rw [AtG_self] at q; exact ⟨p, G, S, ow, r, q⟩
  · rw [AtG_ne mt e] at q; exact q.elim
theorem XT.by (h : DT X W e ut) (q : ut g = mt) : XT X W g e mt := PT.imp h fun σ H Q ⟨p, G, S, ow, r, k⟩ => ⟨g, p, G, S, ow, r, by rw [q]; exact k⟩
theorem XW.dw (h : XW X W g e mt) : DW X W e (AtG g mt) := PW.imp h fun σ H Q ⟨t, p, G, S, ow, r, q⟩ => by
  by_cases e : t = g
  · subst e; rw [AtG_self] at q; exact ⟨p, G, S, ow, r, q⟩
  · rw [AtG_ne mt e] at q; exact q.elim
theorem XW.by (h : DW X W e ut) (q : ut g = mt) : XW X W g e mt := PW.imp h fun σ H Q ⟨p, G, S, ow, r, k⟩ => ⟨g, p, G, S, ow, r, by rw [q]; exact k⟩
theorem XA.da (h : XA X W g es ms) : DA X W es (AtG g (runA ms)) := PA.imp h fun σ H Q ⟨t, p, G, S, ow, r, q⟩ => by
  by_cases e : t = g
  · subst e; rw [AtG_self] at q; exact ⟨p, G, S, ow, r, q⟩
  · rw [AtG_ne _ e] at q; exact q.elim
theorem XA.by (h : DA X W es ul) (q : ul g = runA ms) : XA X W g es ms := PA.imp h fun σ H Q ⟨p, G, S, ow, r, k⟩ => ⟨g, p, G, S, ow, r, by rw [q]; exact k⟩
theorem XKw.dk (h : XKw X W g kw ms) : DK X W kw (AtG g (runA ms)) := PK.imp h fun σ H Q ⟨t, p, G, S, ow, r, q⟩ => by
  by_cases e : t = g
  · subst e; rw [AtG_self] at q; exact ⟨p, G, S, ow, r, q⟩
  · rw [AtG_ne _ e] at q; exact q.elim
theorem XKw.by (h : DK X W kw ul) (q : ul g = runA ms) : XKw X W g kw ms := PK.imp h fun σ H Q ⟨p, G, S, ow, r, k⟩ => ⟨g, p, G, S, ow, r, by rw [q]; exact k⟩
theorem XI.by (h : DI X W tg e ul) (q : ul g = ml) : XI X W g tg e ml := PI.imp h fun σ H Q ⟨p, G, S, ow, r, k⟩ => ⟨g, p, G, S, ow, r, by rw [q]; exact k⟩
theorem XF.df (h : XF X W g e ml) : DF X W e (AtG g ml) := PE.imp h fun σ H Q ⟨t, p, G, S, ow, r, q⟩ => by
  by_cases e : t = g
  · subst e; rw [AtG_self] at q; exact ⟨p, G, S, ow, r, q⟩
  · rw [AtG_ne ml e] at q; exact q.elim
theorem XF.by (h : DF X W e ul) (q : ul g = ml) : XF X W g e ml := PE.imp h fun σ H Q ⟨p, G, S, ow, r, k⟩ => ⟨g, p, G, S, ow, r, by rw [q]; exact k⟩
theorem XF.xe (h : XF X W g e ml) : XE X W g e (B ml fun xs => pure (.lst xs)) := XE.by (DF.de h.df) (by rw [AtG_self]; rfl)

theorem xe_var (i : Nat) {x : Str} {d : D} (hg : g[i]? = some (some (.val d)) := by rfl) (hN : X.N[i]? = some x := by rfl) (hv : Vis X.env.scope x := by first | exact Or.inl rfl | exact Or.inr (Or.inl rfl) | exact Or.inr (Or.inr rfl)) (hd : (x == ("__debug__" : Str)) = false := by decide)
    (hcd : (x == ("__classdict__" : Str)) = false := by decide) : XE X W g (.Name x pos) (pure d) := XE.by (de_var i hN hv hd hcd) (by unfold getV; rw [hg])
theorem xe_int {i j} : XE X W g (.Constant (.int i) j pos) (pure (.int i)) := XE.by de_int rfl
theorem xe_bl {i j} : XE X W g (.Constant (.bool i) j pos) (pure (.bl i)) := XE.by de_bl rfl
theorem xe_non {j} : XE X W g (.Constant .none j pos) (pure .non) := XE.by de_non rfl
theorem xe_str {x j} : XE X W g (.Constant (.str x) j pos) (pure (.str x)) := XE.by de_str rfl
theorem xe_glob {x : Str} {v : V} {w : Value} (d : D) (hg : Gl X x) (hm : X.mg x = some w) (r : RelV v w) (hd : ∀ p G, Den X.K p G d v) (hdb : (x == ("__debug__" : Str)) = false := by decide) : XE X W g (.Name x pos) (pure d) := XE.by (de_glob d hg hm r hd hdb) rfl
theorem XE.by1 {e : Expr} {f : D → M D} (h : DE X W a (AtG g ma) → DE X W e (fun t => do let x ← AtG g ma t; f x)) (ha : XE X W g a ma) : XE X W g e (B ma f) := XE.by (h ha.de) (by rw [AtG_self]; rfl)
theorem XE.by2 {e : Expr} {f : D → D → M D} (h : DE X W a (AtG g ma) → DE X W b (AtG g mb) → DE X W e (fun t => do let x ← AtG g ma t; let y ← AtG g mb t; f x y)) (ha : XE X W g a ma) (hb : XE X W g b mb) : XE X W g e (B ma fun x => B mb fun y => f x y) := XE.by (h ha.de hb.de) (by rw [AtG_self, AtG_self]; rfl)
def tst (m : M D) : M Bool := B m asB
theorem XT.by2 {e : Expr} {f : D → D → M D} (h : DE X W a (AtG g ma) → DE X W b (AtG g mb) → DT X W e (fun t => do let x ← (do let x ← AtG g ma t; let y ← AtG g mb t; f x y); asB x)) (ha : XE X W g a ma) (hb : XE X W g b mb) : XT X W g e (tst (B ma fun x => B mb fun y => f x y)) := XT.by (h ha.de hb.de) (by rw [AtG_self, AtG_self]; rfl)
theorem XE.byA {e : Expr} {f : List D → M D} (h : DA X W es (AtG g (runA ms)) → DE X W e (fun t => do let xs ← AtG g (runA ms) t; f xs)) (ha : XA X W g es ms) : XE X W g e (argsB ms f) := XE.by (h ha.da) (by rw [AtG_self, argsB_eq])
theorem xa_nil : XA X W g [] [] := XA.by da_nil rfl
theorem xa_cons (ha : XE X W g a ma) (hr : XA X W g es ms) (hs : starEach (a :: es) X.env = (false, eval a X.env) :: starEach es X.env := by rfl) : XA X W g (a :: es) (ma :: ms) := XA.by (da_cons ha.de hr.da hs) (by rw [AtG_self, AtG_self]; rfl)
theorem xe_tup {x1} (h : XA X W g es ms) : XE X W g (.Tuple es x1 pos) (argsB ms tupD) := XE.byA de_tup h
theorem xe_lst (h : XA X W g es ms) : XE X W g (.List es pos) (argsB ms lstD) := XE.byA de_lst h
theorem xf_lst (h : XA X W g es ms) : XF X W g (.List es pos) (argsB ms sizeL) := XF.by (df_lst h.da) (by rw [AtG_self, argsB_eq])
theorem xe_add (ha : XE X W g a ma) (hb : XE X W g b mb) : XE X W g (.BinOp a .Add b pos) (B ma fun x => B mb fun y => addD x y) := XE.by2 de_add ha hb
theorem xe_sub (ha : XE X W g a ma) (hb : XE X W g b mb) : XE X W g (.BinOp a .Sub b pos) (B ma fun x => B mb fun y => subD x y) := XE.by2 de_sub ha hb
theorem xe_neg (ha : XE X W g a ma) : XE X W g (.UnaryOp .USub a pos) (B ma negD) := XE.by1 de_neg ha
theorem xe_eq (hu : X.A.units + 64 < cLine) (ha : XE X W g a ma) (hb : XE X W g b mb) : XE X W g (.Compare a [.Eq] [b] pos) (B ma fun x => B mb fun y => eqD x y) := XE.by2 (de_eq hu) ha hb
theorem xe_lt (ha : XE X W g a ma) (hb : XE X W g b mb) : XE X W g (.Compare a [.Lt] [b] pos) (B ma fun x => B mb fun y => ltD x y) := XE.by2 de_lt ha hb
theorem xe_le (ha : XE X W g a ma) (hb : XE X W g b mb) : XE X W g (.Compare a [.LtE] [b] pos) (B ma fun x => B mb fun y => leD x y) := XE.by2 de_le ha hb
theorem xe_gt (ha : XE X W g a ma) (hb : XE X W g b mb) : XE X W g (.Compare a [.Gt] [b] pos) (B ma fun x => B mb fun y => gtD x y) := XE.by2 de_gt ha hb
theorem xe_ge (ha : XE X W g a ma) (hb : XE X W g b mb) : XE X W g (.Compare a [.GtE] [b] pos) (B ma fun x => B mb fun y => geD x y) := XE.by2 de_ge ha hb
theorem xe_is (ha : XE X W g a ma) (hb : XE X W g b mb) : XE X W g (.Compare a [.Is] [b] pos) (B ma fun x => B mb fun y => isNonD x y) := XE.by2 de_is ha hb
theorem xe_isnot (ha : XE X W g a ma) (hb : XE X W g b mb) : XE X W g (.Compare a [.IsNot] [b] pos) (B ma fun x => B mb fun y => notNonD x y) := XE.by2 de_isnot ha hb
theorem xe_in (ha : XE X W g a ma) (hb : XE X W g b mb) (hm : behindInMarks .In b = false := by rfl) : XE X W g (.Compare a [.In] [b] pos) (B ma fun x => B mb fun y => inD false x y) := XE.by2 (fun h h' => de_in h h' hm) ha hb
theorem xt_eq (hu : X.A.units + 64 < cLine) (ha : XE X W g a ma) (hb : XE X W g b mb) : XT X W g (.Compare a [.Eq] [b] pos) (tst (B ma fun x => B mb fun y => eqD x y)) := XT.by2 (dt_eq hu) ha hb
theorem xt_ne (hu : X.A.units + 64 < cLine) (ha : XE X W g a ma) (hb : XE X W g b mb) : XT X W g (.Compare a [.NotEq] [b] pos) (tst (B ma fun x => B mb fun y => neD x y)) := XT.by2 (dt_ne hu) ha hb
theorem xt_lt (ha : XE X W g a ma) (hb : XE X W g b mb) : XT X W g (.Compare a [.Lt] [b] pos) (tst (B ma fun x => B mb fun y => ltD x y)) := XT.by2 dt_lt ha hb
theorem xt_gt (ha : XE X W g a ma) (hb : XE X W g b mb) : XT X W g (.Compare a [.Gt] [b] pos) (tst (B ma fun x => B mb fun y => gtD x y)) := XT.by2 dt_gt ha hb
theorem xt_ge (ha : XE X W g a ma) (hb : XE X W g b mb) : XT X W g (.Compare a [.GtE] [b] pos) (tst (B ma fun x => B mb fun y => geD x y)) := XT.by2 dt_ge ha hb
theorem xt_is (ha : XE X W g a ma) (hb : XE X W g b mb) : XT X W g (.Compare a [.Is] [b] pos) (tst (B ma fun x => B mb fun y => isNonD x y)) := XT.by2 dt_is ha hb
theorem xt_isnot (ha : XE X W g a ma) (hb : XE X W g b mb) : XT X W g (.Compare a [.IsNot] [b] pos) (tst (B ma fun x => B mb fun y => notNonD x y)) := XT.by2 dt_isnot ha hb
theorem xt_in (ha : XE X W g a ma) (hb : XE X W g b mb) (hm : behindInMarks .In b = false := by rfl) : XT X W g (.Compare a [.In] [b] pos) (tst (B ma fun x => B mb fun y => inD false x y)) := XT.by2 (fun h h' => dt_in h h' hm) ha hb
theorem xt_notin (ha : XE X W g a ma) (hb : XE X W g b mb) (hm : behindInMarks .NotIn b = false := by rfl) : XT X W g (.Compare a [.NotIn] [b] pos) (tst (B ma fun x => B mb fun y => inD true x y)) := XT.by2 (fun h h' => dt_notin h h' hm) ha hb
theorem xt_val (ha : XE X W g a ma) (he : ∀ whole, isTrue a X.env whole = (do let v ← whole; standAt a.pos; holding [v] (truthy v)) := by intro _; rfl) : XT X W g a (tst ma) := XT.by (dt_val ha.de he) (by rw [AtG_self]; rfl)
def tNot (m : M Bool) : M Bool := B m fun b => pure (!b)
def tAnd (m n : M Bool) : M Bool := B m fun b => if b then n else pure false
def tOr (m n : M Bool) : M Bool := B m fun b => if b then pure true else n
theorem xt_not (ha : XT X W g a mt) : XT X W g (.UnaryOp .Not a pos) (tNot mt) := XT.by (dt_not ha.dt) (by rw [AtG_self]; rfl)
theorem xw_and1 (ha : XT X W g a mt) : XW X W g (.BoolOp .And [a] pos) mt := XW.by (dw_and1 ha.dt) (AtG_self _ _)
theorem xw_or1 (ha : XT X W g a mt) : XW X W g (.BoolOp .Or [a] pos) mt := XW.by (dw_or1 ha.dt) (AtG_self _ _)
theorem xw_and {rest : List Expr} (ha : XT X W g a mt) (hb : XW X W g (.BoolOp .And (b :: rest) pos) mu) : XW X W g (.BoolOp .And (a :: b :: rest) pos) (tAnd mt mu) := XW.by (dw_and ha.dt hb.dw) (by rw [AtG_self, AtG_self]; rfl)
theorem xw_or {rest : List Expr} (ha : XT X W g a mt) (hb : XW X W g (.BoolOp .Or (b :: rest) pos) mu) : XW X W g (.BoolOp .Or (a :: b :: rest) pos) (tOr mt mu) := XW.by (dw_or ha.dt hb.dw) (by rw [AtG_self, AtG_self]; rfl)
theorem XW.xt (h : XW X W g a mt) : XT X W g a mt := h.pt
def eAnd (m n : M D) : M D := B m fun x => B (asB x) fun b => if b then n else pure (.bl false)
def eOr (m n : M D) : M D := B m fun x => B (asB x) fun b => if b then pure (.bl true) else n
def eNot (m : M D) : M D := B m fun x => B (asB x) fun b => pure (.bl (!b))
def ifM {α : Type} (m : M Bool) (x y : M α) : M α := B m fun b => if b then x else y
theorem xe_one {op} (h : XE X W g a ma) : XE X W g (.BoolOp op [a] pos) ma := XE.by (de_one h.de) (AtG_self _ _)
theorem xe_and {rest : List Expr} (ha : XE X W g a ma) (hb : XE X W g (.BoolOp .And (b :: rest) pos) mb) : XE X W g (.BoolOp .And (a :: b :: rest) pos) (eAnd ma mb) := XE.by (de_and ha.de hb.de) (by rw [AtG_self, AtG_self]; rfl)
theorem xe_or {rest : List Expr} (ha : XE X W g a ma) (hb : XE X W g (.BoolOp .Or (b :: rest) pos) mb) : XE X W g (.BoolOp .Or (a :: b :: rest) pos) (eOr ma mb) := XE.by (de_or ha.de hb.de) (by rw [AtG_self, AtG_self]; rfl)
theorem xe_not (ha : XE X W g a ma) : XE X W g (.UnaryOp .Not a pos) (eNot ma) := XE.by (de_not ha.de) (by rw [AtG_self]; rfl)
theorem xe_if (hc : XT X W g c mt) (ha : XE X W g a ma) (hb : XE X W g b mb) : XE X W g (.IfExp c a b pos) (ifM mt ma mb) := XE.by (de_if hc.dt ha.de hb.de) (by rw [AtG_self, AtG_self, AtG_self]; rfl)
end
end RM

namespace RM
open PySem PySem.Spec PyProof.Rows L2
variable [PgW]
def Wk : DSt → DSt → Prop
  | [], [] => True
  | a :: s, b :: t => (b = none ∨ a = b) ∧ Wk s t
  | _, _ => False
theorem Wk.refl : ∀ t : DSt, Wk t t
  | [] => trivial
  | _ :: t => ⟨.inr rfl, Wk.refl t⟩
theorem SlotsR.wk {K : PySem.W.Frag} {p : List (List Addr)} {G H : Hp} : ∀ {t t' : DSt} {σ : L2.St} {ow : List Addr}, SlotsR K p G H t σ ow → Wk t t' → ∃ ow', ow'.Sublist ow ∧ SlotsR K p G H t' σ ow'
  | [], [], _, ow, h, _ => ⟨ow, List.Sublist.refl _, h⟩
  | [], _ :: _, _, _, _, w => w.elim
  | _ :: _, [], _, _, _, w => w.elim
  | a :: s, b :: t, _, _, ⟨v, r, l, k, h1, h2, h3, h4⟩, ⟨w1, w2⟩ => by
    obtain ⟨ow', s', q⟩ := SlotsR.wk h4 w2
    rcases w1 with rfl | rfl
    · exact ⟨ow', by rw [h2]; exact s'.trans (List.sublist_append_right _ _), v, r, [], ow', h1, rfl, rfl, q⟩
    · exact ⟨l ++ ow', by rw [h2]; exact List.Sublist.append (List.Sublist.refl _) s', v, r, l, ow', h1, rfl, h3, q⟩
theorem RelS.wk {K : PySem.W.Frag} {p : List (List Addr)} {G H : Hp} {S : Sto} {t t' : DSt} {σ : L2.St} {ow : List Addr} (r : RelS K p G S H t σ ow) (w : Wk t t') : ∃ ow', ow'.Sublist ow ∧ RelS K p G S H t' σ ow' := by
  obtain ⟨ow', s, q⟩ := r.sl.wk w
  exact ⟨ow', s, r.rel, q, r.nd.sublist (List.Sublist.append (List.Sublist.refl _) s), fun a ha => r.gn a (s.subset ha)⟩
theorem RelF.wk {K : PySem.W.Frag} {n : Snap} {p : List (List Addr)} {G H : Hp} {S : Sto} {t t' : DSt} {σ : L2.St} {ow : List Addr} (r : RelF K n p G S H t σ ow) (w : Wk t t') : ∃ ow', RelF K n p G S H t' σ ow' := by
  obtain ⟨ow', s, q⟩ := r.rs.wk w
  exact ⟨ow', q, r.ext, fun a ha => r.own a (s.subset ha), r.fp, r.fg⟩
abbrev IC (α : Type) := α → Ctl → Prop
def okG {α : Type} (K : PySem.W.Frag) (W : Wf) (n : Snap) (I : IC α) (r : Res α) (E : Ends) : Prop := match r with
  | .ok a S' => ∀ c, I a c → okS K W n (.ok c S') E
  | .exc e S' => okS K W n (.exc e S') E
  | .stuck => False
def tXS {α : Type} (K : PySem.W.Frag) (W : Wf) (g : DSt) (I : IC α) (m : M α) : TS := fun E σ H => ∃ n p G S ow, RelF K n p G S H g σ ow ∧ okG K W n I (m S) E
abbrev XS {α : Type} (X : Cx) (W : Wf) (g : DSt) (I : IC α) (ss : List Stmt) (m : M α) : Prop := PSs X ss (tXS X.K W g I m)
abbrev XS1 {α : Type} (X : Cx) (W : Wf) (g : DSt) (I : IC α) (st : Stmt) (m : M α) : Prop := PS X st (tXS X.K W g I m)
def IB : IC D := fun d c => c = .rt d ∨ (d = .non ∧ ∃ t, c = .nx t)
def IR {α : Type} (I : IC α) : IC α := fun a c => I a c ∧ ((∃ d, c = .rt d) ∨ ∃ xs, c = .rl xs)
def IN {τ : Type} (e : τ → DSt) : IC τ := fun x c => ∃ t, c = .nx t ∧ Wk t (e x)
def IS {τ : Type} (e : τ → DSt) : IC (D ⊕ τ)
  | .inl d, c => c = .rt d
  | .inr x, c => ∃ t, c = .nx t ∧ Wk t (e x)
theorem fam {X : Cx} {ι : Type} {ss : List Stmt} {t : ι → TS} (h : ∀ i, PSs X ss (t i)) : PSs X ss (fun E σ H => ∃ i, t i E σ H) := ⟨fun pins s σ H E I ⟨i, q⟩ => (h i).run pins s σ H E I q⟩
theorem okG.mono {α : Type} {K : PySem.W.Frag} {W : Wf} {n : Snap} {I J : IC α} {r : Res α} {E : Ends} (h : okG K W n I r E) (k : ∀ a c, J a c → I a c) : okG K W n J r E := by
  cases r with
  | ok a S' => exact fun c hc => h c (k a c hc)
  | exc e S' => exact h
  | stuck => exact h
section
variable {α β τ : Type} {X : Cx} {W : Wf} {g : DSt} {I : IC α} {J : IC β} {st : Stmt} {rest xs ys : List Stmt} {m : M α} {mj : M β} {k : β → M α} {e c : Expr} {me : M D} {mt : M Bool} {pos : Pos} {u : DSt → M Ctl}
theorem XS.wk {t : DSt} (h : XS X W g I rest m) (w : Wk t g) : XS X W t I rest m := PSs.imp h fun E σ H ⟨n, p, G, S, ow, r, q⟩ => by
  obtain ⟨ow', r'⟩ := r.wk w
  exact ⟨n, p, G, S, ow', r', q⟩
theorem XS.ic {J : IC α} (h : XS X W g I rest m) (k : ∀ a c, I a c → J a c) : XS X W g J rest m := PSs.imp h fun E σ H ⟨n, p, G, S, ow, r, q⟩ => ⟨n, p, G, S, ow, r, q.mono k⟩
theorem xs_last (h : XS1 X W g I st m) : XS X W g I [st] m := pss_one h
theorem xs_seq (h : XS1 X W g J st mj) (hn : ∀ b t, J b (.nx t) → XS X W t I rest (k b)) (hr : ∀ b d, J b (.rt d) → ∃ a, k b = pure a ∧ I a (.rt d)) (hb : ∀ b t, J b (.bk t) → False) (hc : ∀ b t, J b (.ct t) → False) (hl : ∀ b xs, J b (.rl xs) → False) : XS X W g I (st :: rest) (B mj k) := by
  refine PSs.imp (pss_cons h (fam (ι := {q : β × DSt // J q.1 (.nx q.2)}) fun q => hn q.1.1 q.1.2 q.2)) fun E σ H ⟨n, p, G, S, ow, r, q⟩ => ?_
  have q : okG X.K W n I ((mj S).andThen k) E := q
  refine ⟨n, p, G, S, ow, r, ?_⟩
  cases em : mj S with
  | stuck => rw [em] at q; exact q
  | exc x S1 => rw [em] at q; exact q
  | ok b S1 =>
    rw [em] at q
    have q : okG X.K W n I (k b S1) E := q
    intro c hc'
    cases c with
    | nx t => exact fun p' G' H' σ' ow' r' => ⟨⟨(b, t), hc'⟩, n, p', G', S1, ow', r', q⟩
    | rt d =>
      obtain ⟨a, ea, ia⟩ := hr b d hc'
      rw [ea] at q
      exact q (.rt d) ia
    | bk t => exact (hb b t hc').elim
    | ct t => exact (hc b t hc').elim
    | rl t => exact (hl b t hc').elim
theorem xs_then {e : τ → DSt} {mj : M τ} {k : τ → M α} (h : XS1 X W g (IN e) st mj) (hk : ∀ x, XS X W (e x) I rest (k x)) : XS X W g I (st :: rest) (B mj k) :=
  xs_seq h (fun b t ⟨t', e1, w⟩ => by cases e1; exact (hk b).wk w) (fun b d ⟨t', e1, _⟩ => by cases e1) (fun b t ⟨t', e1, _⟩ => by cases e1) (fun b t ⟨t', e1, _⟩ => by cases e1) (fun b t ⟨t', e1, _⟩ => by cases e1)
def orRet {α τ : Type} (r : D → α) (k : τ → M α) : D ⊕ τ → M α
  | .inl d => pure (r d)
  | .inr x => k x
theorem xs_thenS {e : τ → DSt} {mj : M (D ⊕ τ)} {r : D → α} {k : τ → M α} (h : XS1 X W g (IS e) st mj) (hr : ∀ d, I (r d) (.rt d)) (hk : ∀ x, XS X W (e x) I rest (k x)) : XS X W g I (st :: rest) (B mj (orRet r k)) :=
  xs_seq h (fun b t q => match b, q with | .inr x, ⟨t', e1, w⟩ => by cases e1; exact (hk x).wk w) (fun b d q => match b, q with | .inl d', e1 => by cases e1; exact ⟨r d, rfl, hr d⟩) (fun b t q => match b, q with | .inl _, e1 => by cases e1 | .inr _, ⟨_, e1, _⟩ => by cases e1) (fun b t q => match b, q with | .inl _, e1 => by cases e1 | .inr _, ⟨_, e1, _⟩ => by cases e1) (fun b t q => match b, q with | .inl _, e1 => by cases e1 | .inr _, ⟨_, e1, _⟩ => by cases e1)
theorem xs_nil {a : α} (h : I a (.nx g)) : XS X W g I [] (pure a) := PSs.imp pss_nil fun E σ H ⟨n, p, G, S, ow, r, q⟩ => q (.nx g) h p G H σ ow r
theorem xs_stuck : XS X W g I rest stuck := PSs.imp pss_never fun E σ H ⟨n, p, G, S, ow, r, q⟩ => q.elim
theorem okG.seq {γ δ : Type} {R1 : List (List Addr) → Hp → γ → δ → Prop} {K : PySem.W.Frag} {n : Snap} {E : Ends} {p : List (List Addr)} {G H : Hp} {S : Sto} {σ : L2.St} {ow : List Addr} {mx : M γ} {f : γ → M α} {Q1 : δ → Hp → Prop} {d : Dep f}
    (h : okG K W n I (B mx f d S) E) (r : RelF K n p G S H g σ ow)
    (k : ∀ d S1 v p1 G1 H1, mx S = .ok d S1 → R1 p1 G1 d v → RelF K n p1 G1 S1 H1 g σ ow → Ext p G H p1 G1 H1 → okG K W n I (f d S1) E → Q1 v H1) : okR R1 K p G H (fun c d H' => W c d H') (mx S) Q1 := by
  have h' : okG K W n I ((mx S).andThen f) E := h
  cases e : mx S with
  | ok d S1 =>
    rw [e] at h'
    exact fun v p1 G1 H1 a b c => k d S1 v p1 G1 H1 e a (r.step c b) c h'
  | exc x S1 =>
    rw [e] at h'
    exact fun cls dd p1 G1 H1 a b c => h' cls dd p1 G1 H1 a b (r.ext.trans c)
  | stuck =>
    rw [e] at h'
    exact h'
theorem xs_ret {r : D → α} (he : XE X W.x g e me) (hr : ∀ d, I (r d) (.rt d)) : XS X W g I (.Return (some e) pos :: rest) (B me fun d => pure (r d)) := by
  refine PSs.imp (pss_cons (ps_ret he) pss_never) fun E σ H ⟨n, p, G, S, ow, r', q⟩ => ?_
  exact ⟨p, G, S, ow, r'.rs, okG.seq q r' fun d S1 v p1 G1 H1 e1 dn r1 x1 h1 => h1 (.rt d) (hr d) v p1 G1 H1 dn r1.rs.rel r1.ext⟩
theorem xs_retB (he : XE X W.x g e me) : XS X W g IB (.Return (some e) pos :: rest) me := by
  have := xs_ret (pos := pos) (rest := rest) (r := fun d => d) (I := IB) he fun d => .inl rfl
  rwa [B_id] at this
theorem xs_retR (he : XE X W.x g e me) : XS X W g (IR IB) (.Return (some e) pos :: rest) me := by
  have := xs_ret (pos := pos) (rest := rest) (r := fun d => d) (I := IR IB) he fun d => ⟨.inl rfl, .inl ⟨d, rfl⟩⟩
  rwa [B_id] at this
theorem xs_expr (he : XE X W.x g e me) (hk : XS X W g I rest m) (hs : swapsWith e none pos.line X.env = pure false := by rfl) : XS X W g I (.Expr e pos :: rest) (B me fun _ => m) := by
  refine PSs.imp (pss_cons (ps_expr he hs) hk) fun E σ H ⟨n, p, G, S, ow, r', q⟩ => ?_
  exact ⟨p, G, S, ow, r'.rs, okG.seq q r' fun d S1 v p1 G1 H1 e1 dn r1 x1 h1 => ⟨n, p1, G1, S1, ow, r1, h1⟩⟩
theorem xs_if {mx my : M α} (hc : XT X W.x g c mt) (hx : XS X W g I xs mx) (hy : XS X W g I ys my) : XS1 X W g I (.If c xs ys pos) (ifM mt mx my) := by
  refine PS.imp (ps_if hc hx hy) fun E σ H ⟨n, p, G, S, ow, r', q⟩ => ?_
  refine ⟨p, G, S, ow, r'.rs, okG.seq q r' fun b S1 v p1 G1 H1 e1 dn r1 x1 h1 => ?_⟩
  cases dn
  cases b with
  | true => exact iteT ⟨n, p1, G1, S1, ow, r1, h1⟩
  | false => exact iteF ⟨n, p1, G1, S1, ow, r1, h1⟩
theorem xs_if1 {mx my : M α} (hc : XT X W.x g c mt) (hx : XS X W g (IR I) xs mx) (hy : XS X W g I rest my) : XS X W g I (.If c xs [] pos :: rest) (ifM mt mx my) := by
  refine PSs.imp (pss_cons (ps_if hc hx pss_nil) hy) fun E σ H ⟨n, p, G, S, ow, r', q⟩ => ?_
  refine ⟨p, G, S, ow, r'.rs, okG.seq q r' fun b S1 v p1 G1 H1 e1 dn r1 x1 h1 => ?_⟩
  cases dn
  cases b with
  | true =>
    refine iteT ⟨n, p1, G1, S1, ow, r1, ?_⟩
    have h1 : okG X.K W n I (mx S1) E := h1
    cases em : mx S1 with
    | ok a S2 =>
      rw [em] at h1
      rintro c ⟨ic, ⟨d, rfl⟩ | ⟨ys, rfl⟩⟩
      · exact h1 (.rt d) ic
      · exact h1 (.rl ys) ic
    | exc _ _ => rw [em] at h1; exact h1
    | stuck => rw [em] at h1; exact h1
  | false => exact iteF ⟨n, p1, G1, S1, ow, r1, h1⟩
theorem xs_next {γ : Type} {mx : M γ} {e : γ → DSt} {k : γ → M α} (h : DS X W st u) (q : u g = mx >>= fun x => pure (.nx (e x))) (hk : ∀ x, XS X W (e x) I rest (k x)) : XS X W g I (st :: rest) (B mx k) := by
  refine PSs.imp (pss_cons h (fam hk)) fun E σ H ⟨n, p, G, S, ow, r, z⟩ => ?_
  have z : okG X.K W n I ((mx S).andThen k) E := z
  refine ⟨n, g, p, G, S, ow, r, ?_⟩
  rw [q]
  show okS X.K W n ((mx S).andThen fun x => pure (.nx (e x))) _
  cases em : mx S with
  | stuck => rw [em] at z; exact z
  | exc x S1 => rw [em] at z; exact z
  | ok b S1 =>
    rw [em] at z
    exact fun p' G' H' σ' ow' r' => ⟨b, n, p', G', S1, ow', r', z⟩
theorem setV_at {i : Nat} {d : D} (hl : decide (i < g.length) = true) : setV g i d = some (g.set i (some (.val d))) := if_pos (of_decide_eq_true hl)
theorem xs_set (i : Nat) {x : Str} {pos' : Pos} {k : D → M α} (hN : X.N.Nodup) (hi : X.N[i]? = some x) (hx : Loc X.env.scope x) (he : XE X W.x g e me) (hk : ∀ v, XS X W (g.set i (some (.val v))) I rest (k v)) (hl : decide (i < g.length) = true := by rfl) (hs : swapsWith e (some (.Name x pos')) pos.line X.env = pure false := by rfl) (hf : X.fn x = true ∨ X.env.scope.names.lookup x = some .local := by first | exact .inl rfl | exact .inr rfl | assumption) :
    XS X W g I (.Assign [.Name x pos'] e pos :: rest) (B me k) := by
  refine xs_next (e := fun v => g.set i (some (.val v))) (ds_set i hN hi hx he.de hs hf) ?_ hk
  rw [AtG_self]
  congr 1
  funext d
  rw [setV_at hl]; rfl
end
end RM

namespace RM
open PySem PySem.Spec PyProof.Rows L2
variable [PgW]
def tp2 {α : Type} (f : D → D → M α) : D → M α
  | .tup [a, b] => f a b
  | _ => stuck
def tp3 {α : Type} (f : D → D → D → M α) : D → M α
  | .tup [a, b, c] => f a b c
  | _ => stuck
def tp4 {α : Type} (f : D → D → D → D → M α) : D → M α
  | .tup [a, b, c, d] => f a b c d
  | _ => stuck
@[simp] theorem tp2_tup {α : Type} (f : D → D → M α) (a b : D) : tp2 f (.tup [a, b]) = f a b := Eq.trans rfl rfl
@[simp] theorem tp3_tup {α : Type} (f : D → D → D → M α) (a b c : D) : tp3 f (.tup [a, b, c]) = f a b c := Eq.trans rfl rfl
@[simp] theorem tp4_tup {α : Type} (f : D → D → D → D → M α) (a b c d : D) : tp4 f (.tup [a, b, c, d]) = f a b c d := Eq.trans rfl rfl
theorem setV_get {g t : DSt} {i : Nat} {d : D} (h : setV g i d = some t) : t = g.set i (some (.val d)) := by
  unfold setV at h
  split at h
  · cases h; rfl
  · cases h
theorem tgt1 {g : DSt} {i : Nat} {P : D → DSt → Prop} (h : ∀ d, P d (g.set i (some (.val d)))) : ∀ d t, (Tgt.nm i).set d g = some t → P d t := fun d t e => by
  rw [setV_get e]; exact h d
theorem setVs_get : ∀ {is : List Nat} {g t : DSt} {ds : List D}, setVs g is ds = some t → ds.length = is.length ∧ t = (is.zip ds).foldl (fun g q => g.set q.1 (some (.val q.2))) g
  | [], g, t, [], e => by cases e; exact ⟨rfl, rfl⟩
  | [], _, _, _ :: _, e => by cases e
  | _ :: _, _, _, [], e => by cases e
  | i :: is, g, t, d :: ds, e => by
    unfold setVs at e
    cases h : setV g i d with
    | none => rw [h] at e; cases e
    | some g2 =>
      rw [h] at e
      obtain ⟨h1, h2⟩ := setVs_get (show setVs g2 is ds = some t from e)
      rw [setV_get h] at h2
      exact ⟨by rw [List.length_cons, List.length_cons, h1], h2⟩
theorem tgtN {g : DSt} {is : List Nat} {P : D → DSt → Prop} (h : ∀ ds, ds.length = is.length → P (.tup ds) ((is.zip ds).foldl (fun g q => g.set q.1 (some (.val q.2))) g)) : ∀ d t, (Tgt.tp is).set d g = some t → P d t := fun d t e => by
  cases d <;> try cases e
  rename_i xs
  obtain ⟨h1, h2⟩ := setVs_get (show setVs g is xs = some t from e)
  rw [h2]
  exact h xs h1
theorem tgt2 {g : DSt} {i j : Nat} {P : D → DSt → Prop} (h : ∀ a b, P (.tup [a, b]) ((g.set i (some (.val a))).set j (some (.val b)))) : ∀ d t, (Tgt.tp [i, j]).set d g = some t → P d t := tgtN fun ds e => match ds, e with | [a, b], _ => h a b
theorem none1 {α : Type} {g : DSt} {i : Nat} {f : D → M α} (hl : decide (i < g.length) = true) : ∀ d, (Tgt.nm i).set d g = none → f d = stuck := fun d e => by
  have e : setV g i d = none := e
  rw [setV_at hl] at e; cases e
theorem setVs_some : ∀ {is : List Nat} {g : DSt} {ds : List D}, ds.length = is.length → (∀ i ∈ is, i < g.length) → ∃ t, setVs g is ds = some t
  | [], g, [], _, _ => ⟨g, rfl⟩
  | [], _, _ :: _, h, _ => by cases h
  | _ :: _, _, [], h, _ => by cases h
  | i :: is, g, d :: ds, h, k => by
    unfold setVs setV
    rw [if_pos (k i (List.mem_cons_self ..))]
    exact setVs_some (by simpa using h) fun j hj => by rw [List.length_set]; exact k j (List.mem_cons_of_mem _ hj)
theorem none2 {α : Type} {g : DSt} {i j : Nat} {f : D → D → M α} (hl : decide (i < g.length ∧ j < g.length) = true) : ∀ d, (Tgt.tp [i, j]).set d g = none → tp2 f d = stuck := fun d e => by
  unfold tp2
  split
  · rename_i a b
    obtain ⟨t, q⟩ := setVs_some (is := [i, j]) (g := g) (ds := [a, b]) rfl (by have := of_decide_eq_true hl; simp; exact this)
    have e : setVs g [i, j] [a, b] = none := e
    rw [q] at e; cases e
  · rfl
def lcX (mt : D → M Bool) (me : D → M D) : List D → List D → M (List D)
  | [], acc => pure acc
  | d :: ds, acc => B (mt d) fun b => if b then B (me d) fun y => if acc.length < sizeLine then lcX mt me ds (acc ++ [y]) else stuck else lcX mt me ds acc
def lc (mt : D → M Bool) (me : D → M D) (ds : List D) : M (List D) := noE (lcX mt me ds [])
def famT (K : PySem.W.Frag) (g : DSt) (ws : List Nat) (T : Tgt) (mt : D → M Bool) : TT := fun σ H Q => ∃ d t, T.set d (wipeD g ws) = some t ∧ tXT K W0 t (mt d) σ H Q
def famE (K : PySem.W.Frag) (g : DSt) (ws : List Nat) (T : Tgt) (me : D → M D) : TE := fun σ H Q => ∃ d t, T.set d (wipeD g ws) = some t ∧ tXE K W0 t (me d) σ H Q
theorem lcx_read {K : PySem.W.Frag} {V : WX} {g : DSt} {ws : List Nat} {T : Tgt} {mi : M (List D)} {mt : D → M Bool} {me : D → M D} {σ : L2.St} {H : Hp} {Q : VK} (hT : ∀ i ∈ T.slots, i ∈ ws) (hN : ∀ d, T.set d (wipeD g ws) = none → mt d = stuck)
    (h : tXF K V g (B mi fun ds => lc mt me ds) σ H Q) : tLc (tXI K V g mi) (T.tg K) (famT K g ws T mt) (famE K g ws T me) ws σ H Q := by
  obtain ⟨p, G, S, ow, r, h⟩ := h
  have h : okF K p G H (fun c d H' => V c d σ H') ((mi >>= fun ds => noE (lcX mt me ds [])) S) Q := h
  refine ⟨p, G, S, ow, r, okF.seq h fun ds S1 J p1 G1 H1 e1 dn r1 x1 h1 => ?_⟩
  have h1 : okF K p1 G1 H1 (fun _ _ _ => False) (lcX mt me ds [] S1) Q := h1.noE
  intro A hA
  have rs1 := r.ext x1 r1
  have gA : G1 A = none := r1.gfree hA
  have pA : A ∉ p1.flatten := fun z => r1.dom z hA
  refine ⟨fun i m H' => i + m = ds.length ∧ ∃ p' G' S' acc vacc, Rel0 K p' S' G' H' ∧ Ext p1 G1 H1 p' G' H' ∧ G' A = none ∧ A ∉ p'.flatten ∧ H' A = some (.lst vacc) ∧ DenL K p' G' acc vacc ∧
    okF K p1 G1 H1 (fun _ _ _ => False) (lcX mt me (ds.drop i) acc S') Q, ⟨ds.length, by simp, p1, G1, S1, [], [], r1.own _ pA gA, ⟨Same.refl _, fun _ h _ => h, fun b o e _ => by rw [upd_ne (ne_of_none e hA)]; exact e, fun b e => ?_, [], by simp, by simp⟩, gA, pA, upd_same, rfl, by simpa using h1⟩, ?_⟩
  · by_cases q : b = A
    · subst q; rw [upd_same]; simp
    · rw [upd_ne q]; exact e
  rintro i m H' ⟨hi', p', G', S', acc, vacc, r', x', gA', pA', hA', da, h'⟩
  have sm : Same G1 H' := x'.g.trans r'.sub
  by_cases hlt : i < ds.length
  · refine .inr ⟨dn.go i H' sm hlt, fun H2 => ∃ p' G' S' acc vacc, Rel0 K p' S' G' H2 ∧ Ext p1 G1 H1 p' G' H2 ∧ G' A = none ∧ A ∉ p'.flatten ∧ H2 A = some (.lst vacc) ∧ DenL K p' G' acc vacc ∧
      okF K p1 G1 H1 (fun _ _ _ => False) (lcX mt me (ds.drop (i + 1)) acc S') Q, fun H2 q => ⟨m - 1, by omega, by omega, q⟩, fun x H2 y => ?_⟩
    have ed : ds[i]? = some ds[i] := by simp [hlt]
    rw [List.drop_eq_getElem_cons hlt] at h'
    have fin : ∀ G2 H3, Rel0 K p' S' G2 H3 → Ext p' G' H' p' G2 H3 → Den K p' G2 ds[i] x → T.tg K x (wipe σ ws) H3 fun σ2 H2 => wipe σ2 ws = wipe σ ws ∧ famT K g ws T mt σ2 H2 fun b H3 => if b = true then famE K g ws T me σ2 H3 fun y H4 => ∃ acc, H4 A = some (.lst acc) ∧ acc.length < sizeLine ∧
          (∃ p' G' S' acc' vacc, Rel0 K p' S' G' (upd H4 A (.lst (acc ++ [y]))) ∧ Ext p1 G1 H1 p' G' (upd H4 A (.lst (acc ++ [y]))) ∧ G' A = none ∧ A ∉ p'.flatten ∧ (upd H4 A (.lst (acc ++ [y]))) A = some (.lst vacc) ∧ DenL K p' G' acc' vacc ∧ okF K p1 G1 H1 (fun _ _ _ => False) (lcX mt me (ds.drop (i + 1)) acc' S') Q)
        else (∃ p' G' S' acc vacc, Rel0 K p' S' G' H3 ∧ Ext p1 G1 H1 p' G' H3 ∧ G' A = none ∧ A ∉ p'.flatten ∧ H3 A = some (.lst vacc) ∧ DenL K p' G' acc vacc ∧ okF K p1 G1 H1 (fun _ _ _ => False) (lcX mt me (ds.drop (i + 1)) acc S') Q) := by
      intro G2 H3 r2 x2 dx
      have x12 := x'.trans x2
      obtain ⟨ow3, _, rw3⟩ := (rs1.ext x12 r2).wipe ws
      have h3 : okF K p1 G1 H1 (fun _ _ _ => False) ((mt ds[i] >>= fun b => if b = true then B (me ds[i]) fun y => if acc.length < sizeLine then lcX mt me (ds.drop (i + 1)) (acc ++ [y]) else stuck else lcX mt me (ds.drop (i + 1)) acc) S') Q := h'
      cases eT : T.set ds[i] (wipeD g ws) with
      | none =>
        rw [hN _ eT] at h3
        exact h3.elim
      | some t2 =>
        refine Tgt.ok rw3 dx eT fun σ2 ow2 _ rs2 hw => ⟨by rw [hw _ hT, wipe_idem], ds[i], t2, eT, p', G2, S', ow2, rs2, ?_⟩
        refine okF.seq (h3.ext x12) fun b S3 bv p3 G3 H4 e3 db r3 x3 h4 => ?_
        cases db
        have gA2 : G2 A = none := x2.gn A gA' (by rw [hA']; simp)
        have hA3 : H3 A = some (.lst vacc) := x2.h A _ hA' pA'
        have gA3 : G3 A = none := x3.gn A gA2 (by rw [hA3]; simp)
        have hA4 : H4 A = some (.lst vacc) := x3.h A _ hA3 pA'
        have pA3 : A ∉ p3.flatten := by
          obtain ⟨q, e, f⟩ := x3.p
          rw [e, List.flatten_append, List.mem_append]
          rintro (z | z)
          · exact pA' z
          · rw [f A z] at hA3; cases hA3
        have d3 := da.mono x2.pp x2.g |>.mono x3.pp x3.g
        have h5 : okF K p1 G1 H1 (fun _ _ _ => False) ((mt ds[i] S').andThen _) Q := h3
        rw [e3] at h5
        cases b with
        | false => exact iteF ⟨p3, G3, S3, acc, vacc, r3, x12.trans x3, gA3, pA3, hA4, d3, h5⟩
        | true =>
          have h6 : okF K p1 G1 H1 (fun _ _ _ => False) ((me ds[i] >>= _) S3) Q := h5
          refine iteT ⟨ds[i], t2, eT, p3, G3, S3, ow2, rs2.ext x3 r3, ?_⟩
          refine okF.seq (h6.ext (x12.trans x3)) fun y S4 yv p4 G4 H5 e4 dy r4 x4 h7 => ?_
          have h8 : okF K p1 G1 H1 (fun _ _ _ => False) ((me ds[i] S3).andThen _) Q := h6
          rw [e4] at h8
          have h9 : okF K p1 G1 H1 (fun _ _ _ => False) ((if acc.length < sizeLine then lcX mt me (ds.drop (i + 1)) (acc ++ [y]) else stuck) S4) Q := h8
          by_cases hz : acc.length < sizeLine
          · rw [if_pos hz] at h9
            have hA5 : H5 A = some (.lst vacc) := x4.h A _ hA4 pA3
            have gA4 : G4 A = none := x4.gn A gA3 (by rw [hA4]; simp)
            have pA4 : A ∉ p4.flatten := by
              obtain ⟨q, e, f⟩ := x4.p
              rw [e, List.flatten_append, List.mem_append]
              rintro (z | z)
              · exact pA3 z
              · rw [f A z] at hA4; cases hA4
            have x14 := (x12.trans x3).trans x4
            refine ⟨vacc, hA5, by rw [d3.length]; exact hz, p4, G4, S4, acc ++ [y], vacc ++ [yv], r4.own _ pA4 gA4, ⟨x14.g, x14.gn, fun b o e hb => ?_, fun b e => ?_, x14.p⟩, gA4, pA4, upd_same, (d3.mono x4.pp x4.g).append (DenL.one dy), h9⟩
            · rw [upd_ne (ne_of_none e hA)]
              exact x14.h b o e hb
            · by_cases q : b = A
              · subst q; rw [upd_same]; simp
              · rw [upd_ne q]; exact x14.d b e
          · rw [if_neg hz] at h9
            exact h9.elim
    rcases dn.yld i _ H' x H2 ed sm y with ⟨rfl, dx⟩ | ⟨Tn, vs, es, rfl, hTn, rfl, ees, dl⟩
    · exact fin G' _ r' (Ext.refl _ _ _) (dx.mono x'.pp x'.g)
    · refine fin _ _ (r'.new _ hTn).1 (r'.new _ hTn).2 ?_
      rw [ees]
      exact ⟨Tn, vs, rfl, SqT.of upd_same, (dl.mono x'.pp x'.g).upd (r'.gfree hTn)⟩
  · have e : i = ds.length := by omega
    subst e
    rw [List.drop_length] at h'
    refine .inl ⟨dn.stop H' sm, ?_⟩
    exact h' A vacc p' G' H' hA hA' da gA' pA' r' x'

section
variable {X : Cx} {V : WX} {W : Wf} {g : DSt} {elt iter tg : Expr} {ifs : List Expr} {scope : Scope} {own : List (Str × Nat)} {T : Tgt} {mi : M (List D)} {mt : D → M Bool} {me : D → M D} {pos : Pos} {α : Type} {I : IC α} {rest : List Stmt}
theorem xts_yes {Y : Cx} {t : DSt} : PTs Y [] (tXT Y.K W0 t (pure true)) := ⟨fun pins s σ H Q I ⟨p, G, S, ow, r, h⟩ => pts_nil.run pins s σ H Q I (okR.fin (d := true) h rfl r.rel)⟩
theorem xts_one {Y : Cx} {t : DSt} {c : Expr} {m : M Bool} (h : XT Y W0 t c m) : PTs Y [c] (tXT Y.K W0 t m) := pts_one h
abbrev BlkT (X : Cx) (g : DSt) (scope : Scope) (ws : List Nat) (T : Tgt) (ifs : List Expr) (mt : D → M Bool) : Prop := ∀ (s : Shared) (H : Hp) (C : Addr) (cl : List (Str × Addr)) (fp : List Addr) (d : D) (t : DSt), T.set d (wipeD g ws) = some t → PTs (X.blk s H scope (compEnvC scope cl C X.env) fp) ifs (tXT X.K W0 t (mt d))
abbrev BlkE (X : Cx) (g : DSt) (scope : Scope) (ws : List Nat) (T : Tgt) (elt : Expr) (me : D → M D) : Prop := ∀ (s : Shared) (H : Hp) (C : Addr) (cl : List (Str × Addr)) (fp : List Addr) (d : D) (t : DSt), T.set d (wipeD g ws) = some t → PE (X.blk s H scope (compEnvC scope cl C X.env) fp) elt (tXE X.K W0 t (me d))
abbrev BlkG (X : Cx) (scope : Scope) (T : Tgt) (tg : Expr) : Prop := ∀ (s : Shared) (H : Hp) (C : Addr) (cl : List (Str × Addr)) (fp : List Addr), PG (X.blk s H scope (compEnvC scope cl C X.env) fp) tg (T.tg X.K)
theorem xf_lc (hc : X.calm = true) (hN : X.N.Nodup) (hi : XI X V g tg iter mi) (ok : BlkOk X.N X.env.scope scope own) (hg : BlkG X scope T tg) (hn : ∀ d, T.set d (wipeD g (own.map (·.2))) = none → mt d = stuck) (ht : BlkT X g scope (own.map (·.2)) T ifs mt) (he : BlkE X g scope (own.map (·.2)) T elt me)
    (hT : ∀ i ∈ T.slots, i ∈ own.map (·.2)) (hs : ∀ x, foldedSetIterable iter X.env x = pure x := by intro _; rfl) : XF X V g (.ListComp elt [⟨tg, iter, ifs, 0⟩] scope pos) (B mi fun ds => lc mt me ds) :=
  PE.imp (pe_lc hc hN hi ok hg (fun s H C cl fp => ⟨fun pins s' σ H' Q I ⟨d, t, e, q⟩ => (ht s H C cl fp d t e).run pins s' σ H' Q I q⟩) (fun s H C cl fp => ⟨fun pins s' σ H' Q I ⟨d, t, e, q⟩ => (he s H C cl fp d t e).run pins s' σ H' Q I q⟩) hs) fun σ H Q h => lcx_read hT hn h
end
end RM

namespace RM
open PySem PySem.Spec PyProof.Rows L2
variable [PgW]
def loopS {τ : Type} (f : D → τ → M (D ⊕ τ)) : List D → τ → M (D ⊕ τ)
  | [], x => pure (.inr x)
  | d :: ds, x => B (f d x) fun r => match r with
    | .inl v => pure (.inl v)
    | .inr y => loopS f ds y
def loopN {τ : Type} (f : D → τ → M τ) : List D → τ → M τ
  | [], x => pure x
  | d :: ds, x => B (f d x) fun y => loopN f ds y
theorem loopN_S {τ : Type} (f : D → τ → M τ) : ∀ (ds : List D) (x : τ), loopS (fun d x => f d x >>= fun y => pure (.inr y)) ds x = loopN f ds x >>= fun y => pure (.inr y)
  | [], x => rfl
  | d :: ds, x => by
    show ((f d x >>= fun y => pure (Sum.inr y)) >>= _) = (f d x >>= fun y => loopN f ds y) >>= _
    rw [bind_assoc, bind_assoc]
    congr 1
    funext y
    rw [pure_bind]
    exact loopN_S f ds y
def whileN {τ : Type} (c : τ → M Bool) (f : τ → M τ) : Nat → τ → M τ
  | 0, _ => stuck
  | n + 1, x => B (c x) fun b => if b then B (f x) fun y => whileN c f n y else pure x
section
variable {α τ : Type} {X : Cx} {W : Wf} {g : DSt} {I : IC α} {tg it c e : Expr} {T : Tgt} {mi : M (List D)} {body rest : List Stmt} {pos : Pos} {me : M D} {ml : M (List D)} {m : M α}
theorem xs_forS {f : D → τ → M (D ⊕ τ)} (e : τ → DSt) (x0 : τ) (hp : PassesOwn (model X.prog X.w) X.A X.env X.xe) (hc : X.calm = true) (hi : XI X W.x g tg it mi) (hg : PG X tg (T.tg X.K)) (hw : Wk g (e x0)) (hN : ∀ x d, T.set d (e x) = none → f d x = stuck)
    (hb : ∀ x d t, T.set d (e x) = some t → XS X W t (IS e) body (f d x)) (hs : ∀ x, foldedSetIterable it X.env x = pure x := by intro _; rfl) : XS1 X W g (IS e) (.For tg it body [] pos) (B mi fun ds => loopS f ds x0) := by
  refine PS.imp (ps_for hp hc hi (dg_tgt (W := W) hg) (fam (ι := {q : τ × D × DSt // T.set q.2.1 (e q.1) = some q.2.2}) fun q => hb q.1.1 q.1.2.1 q.1.2.2 q.2) hs) fun E σ H ⟨n, p, G, S, ow, r, h⟩ => ?_
  refine ⟨p, G, S, ow, r.rs, okG.seq h r fun ds S1 J p1 G1 H1 e1 dn r1 x1 h1 => ?_⟩
  obtain ⟨ow1, r1w⟩ := r1.wk hw
  refine ⟨fun i m σ' H' => i + m = ds.length ∧ ∃ x p' G' S' ow', RelF X.K ⟨n.p, n.G, n.H, p1, G1⟩ p' G' S' H' (e x) σ' ow' ∧ okG X.K W n (IS e) (loopS f (ds.drop i) x S') E, ⟨ds.length, by simp, x0, p1, G1, S1, ow1, r1w.frozen, by simpa using h1⟩, ?_⟩
  rintro i m σ' H' ⟨hi', x, p', G', S', ow', r', h'⟩
  have sm : Same G1 H' := r'.fg.trans r'.rs.rel.sub
  by_cases hlt : i < ds.length
  · refine .inr ⟨dn.go i H' sm hlt, fun σ2 H2 => ∃ x p2 G2 S2 ow2, RelF X.K ⟨n.p, n.G, n.H, p1, G1⟩ p2 G2 S2 H2 (e x) σ2 ow2 ∧ okG X.K W n (IS e) (loopS f (ds.drop (i + 1)) x S2) E, fun σ2 H2 q => ⟨m - 1, by omega, by omega, q⟩, fun xv H2 y => ?_⟩
    have ed : ds[i]? = some ds[i] := by simp [hlt]
    rw [List.drop_eq_getElem_cons hlt] at h'
    have fin : ∀ G2 H3, RelF X.K ⟨n.p, n.G, n.H, p1, G1⟩ p' G2 S' H3 (e x) σ' ow' → Den X.K p' G2 ds[i] xv → gD X.K W T.set xv σ' H3 fun σ2 H2 => ∃ q : {q : τ × D × DSt // T.set q.2.1 (e q.1) = some q.2.2}, tXS X.K W q.1.2.2 (IS e) (f q.1.2.1 q.1.1) { E with nx := fun σ2 H2 => ∃ x p2 G2 S2 ow2, RelF X.K ⟨n.p, n.G, n.H, p1, G1⟩ p2 G2 S2 H2 (e x) σ2 ow2 ∧ okG X.K W n (IS e) (loopS f (ds.drop (i + 1)) x S2) E, ct := fun σ2 H2 => ∃ x p2 G2 S2 ow2, RelF X.K ⟨n.p, n.G, n.H, p1, G1⟩ p2 G2 S2 H2 (e x) σ2 ow2 ∧ okG X.K W n (IS e) (loopS f (ds.drop (i + 1)) x S2) E, bk := E.nx } σ2 H2 := by
      intro G2 H3 r2 dx
      have h3 : okG X.K W n (IS e) ((f ds[i] x S').andThen _) E := h'
      cases eg : T.set ds[i] (e x) with
      | none =>
        rw [hN x _ eg] at h3
        exact h3.elim
      | some t2 =>
        refine ⟨_, _, e x, p', G2, S', ow', r2, dx, t2, eg, fun p3 G3 H4 σ3 ow3 r3 => ⟨⟨(x, ds[i], t2), eg⟩, _, p3, G3, S', ow3, r3, ?_⟩⟩
        show okG X.K W _ (IS e) (f ds[i] x S') _
        cases em : f ds[i] x S' with
        | stuck =>
          rw [em] at h3
          exact h3
        | exc z S3 =>
          rw [em] at h3
          exact h3
        | ok rr S3 =>
          rw [em] at h3
          cases rr with
          | inl v =>
            intro c hc'
            cases hc'
            exact h3 (.rt v) rfl
          | inr y =>
            rintro c ⟨t3, rfl, w3⟩
            intro p4 G4 H5 σ4 ow4 r4
            obtain ⟨ow5, r5⟩ := r4.wk w3
            exact ⟨y, p4, G4, S3, ow5, r5, h3⟩
    rcases dn.yld i _ H' xv H2 ed sm y with ⟨rfl, dx⟩ | ⟨T2, vs, es, rfl, hT, rfl, ees, dl⟩
    · exact fin G' _ r' (dx.mono r'.fp r'.fg)
    · refine fin _ _ (r'.pair vs hT) ?_
      rw [ees]
      have hg := r'.rs.rel.gfree hT
      exact ⟨T2, vs, rfl, SqT.of upd_same, (dl.mono r'.fp r'.fg).upd hg⟩
  · have e2 : i = ds.length := by omega
    subst e2
    refine .inl ⟨dn.stop H' sm, ?_⟩
    rw [List.drop_length] at h'
    exact h' (.nx (e x)) ⟨e x, rfl, Wk.refl _⟩ p' G' H' σ' ow' (r1.thaw r')
theorem XS.inr {e : τ → DSt} {mx : M τ} (h : XS X W g (IN e) rest mx) : XS X W g (IS e) rest (mx >>= fun y => pure (.inr y)) := PSs.imp h fun E σ H ⟨n, p, G, S, ow, r, q⟩ => by
  refine ⟨n, p, G, S, ow, r, ?_⟩
  have q : okG X.K W n (IS e) ((mx S).andThen fun y => pure (.inr y)) E := q
  cases em : mx S with
  | ok a S1 => rw [em] at q; exact fun c hc => q c hc
  | exc _ _ => rw [em] at q; exact q
  | stuck => rw [em] at q; exact q
theorem XS1.unr {e : τ → DSt} {st : Stmt} {mx : M τ} (h : XS1 X W g (IS e) st (mx >>= fun y => pure (.inr y))) : XS1 X W g (IN e) st mx := PS.imp h fun E σ H ⟨n, p, G, S, ow, r, q⟩ => by
  refine ⟨n, p, G, S, ow, r, ?_⟩
  show okG X.K W n (IS e) ((mx S).andThen fun y => pure (.inr y)) E
  cases em : mx S with
  | ok a S1 => rw [em] at q; exact fun c hc => q c hc
  | exc _ _ => rw [em] at q; exact q
  | stuck => rw [em] at q; exact q
theorem xs_forN {f : D → τ → M τ} (e : τ → DSt) (x0 : τ) (hp : PassesOwn (model X.prog X.w) X.A X.env X.xe) (hc : X.calm = true) (hi : XI X W.x g tg it mi) (hg : PG X tg (T.tg X.K)) (hw : Wk g (e x0)) (hN : ∀ x d, T.set d (e x) = none → f d x = stuck)
    (hb : ∀ x d t, T.set d (e x) = some t → XS X W t (IN e) body (f d x)) (hs : ∀ x, foldedSetIterable it X.env x = pure x := by intro _; rfl) : XS1 X W g (IN e) (.For tg it body [] pos) (B mi fun ds => loopN f ds x0) := by
  have h := xs_forS (pos := pos) (f := fun d x => f d x >>= fun y => pure (.inr y)) e x0 hp hc hi hg hw (fun x d q => by rw [hN x d q]; rfl) (fun x d t q => (hb x d t q).inr) hs
  refine XS1.unr (mx := B mi fun ds => loopN f ds x0) ?_
  have eq : (B mi fun ds => loopS (fun d x => f d x >>= fun y => pure (Sum.inr y)) ds x0 : M (D ⊕ τ)) = (B mi fun ds => loopN f ds x0) >>= fun y => pure (.inr y) := by
    unfold B
    rw [bind_assoc]
    congr 1
    funext ds
    exact loopN_S f ds x0
  rw [← eq]
  exact h
theorem xs_whileN {mc : τ → M Bool} {f : τ → M τ} (fuel : Nat) (e : τ → DSt) (x0 : τ) (hp : PassesOwn (model X.prog X.w) X.A X.env X.xe) (hw : Wk g (e x0)) (hc : ∀ x, XT X W.x (e x) c (mc x)) (hb : ∀ x, XS X W (e x) (IN e) body (f x)) : XS1 X W g (IN e) (.While c body [] pos) (whileN mc f fuel x0) := by
  refine PS.imp (ps_while hp (tc := fun σ H Q => ∃ x, tXT X.K W.x (e x) (mc x) σ H Q) ⟨fun pins s σ H Q I ⟨x, q⟩ => (hc x).run pins s σ H Q I q⟩ (fam hb)) fun E σ H ⟨n, p, G, S, ow, r, h⟩ => ?_
  obtain ⟨ow0, r0⟩ := r.wk hw
  refine ⟨fun k σ' H' => ∃ x p' G' S' ow', RelF X.K n p' G' S' H' (e x) σ' ow' ∧ okG X.K W n (IN e) (whileN mc f k x S') E, ⟨fuel, x0, p, G, S, ow0, r0, h⟩, ?_⟩
  rintro k σ1 H1 ⟨x, p1, G1, S1, ow1, r1, h1⟩
  cases k with
  | zero => exact h1.elim
  | succ k =>
    have h2 : okG X.K W n (IN e) (B (mc x) (fun b => if b then B (f x) fun y => whileN mc f k y else pure x) Dep.mk S1) E := h1
    refine ⟨x, p1, G1, S1, ow1, r1.rs, okG.seq h2 r1 fun b S2 bv p2 G2 H2 eb db r2 x2 h3 => ?_⟩
    cases db
    cases b with
    | false => exact iteF (h3 (.nx (e x)) ⟨e x, rfl, Wk.refl _⟩ p2 G2 H2 σ1 ow1 r2)
    | true =>
      refine iteT ⟨fun σ3 H3 => ∃ x p3 G3 S3 ow3, RelF X.K n p3 G3 S3 H3 (e x) σ3 ow3 ∧ okG X.K W n (IN e) (whileN mc f k x S3) E, fun σ3 H3 q => ⟨k, Nat.lt_succ_self k, q⟩, x, n, p2, G2, S2, ow1, r2, ?_⟩
      have h4 : okG X.K W n (IN e) ((f x S2).andThen fun y => whileN mc f k y) E := h3
      show okG X.K W n (IN e) (f x S2) _
      cases em : f x S2 with
      | stuck => rw [em] at h4; exact h4
      | exc z S3 => rw [em] at h4; exact h4
      | ok y S3 =>
        rw [em] at h4
        rintro c ⟨t3, rfl, w3⟩ p4 G4 H5 σ4 ow4 r4
        obtain ⟨ow5, r5⟩ := r4.wk w3
        exact ⟨y, p4, G4, S3, ow5, r5, h4⟩
def appO (xs : List D) (y : D) : M (List D) := if xs.length < sizeLine then pure (xs ++ [y]) else stuck
def popX (xs : List D) (k : D) : M (D × List D) := liftO (popO xs k)
def putX (xs : List D) (y k : D) : M (List D) := liftO (putO xs y k)
theorem setO_at {i : Nat} {xs : List D} (hl : decide (i < g.length) = true) : setO g i xs = some (g.set i (some (.own xs))) := if_pos (of_decide_eq_true hl)
theorem xs_setO (i : Nat) {x : Str} {pos' : Pos} {k : List D → M α} (hN : X.N.Nodup) (hi : X.N[i]? = some x) (hx : Loc X.env.scope x) (he : XF X W.x g e ml) (hk : ∀ v, XS X W (g.set i (some (.own v))) I rest (k v)) (hl : decide (i < g.length) = true := by rfl) (hs : swapsWith e (some (.Name x pos')) pos.line X.env = pure false := by rfl) (hf : X.fn x = true ∨ X.env.scope.names.lookup x = some .local := by first | exact .inl rfl | exact .inr rfl | assumption) :
    XS X W g I (.Assign [.Name x pos'] e pos :: rest) (B ml k) := by
  refine xs_next (e := fun v => g.set i (some (.own v))) (ds_setO i hN hi hx he.df hs hf) ?_ hk
  rw [AtG_self]
  congr 1
  funext d
  rw [setO_at hl]; rfl
theorem xs_freeze (i : Nat) {xs : List D} (hg : g[i]? = some (some (.own xs)) := by rfl) (hk : XS X W (g.set i (some (.val (.lst xs)))) I rest m) : XS X W g I rest m := PSs.imp hk fun E σ H ⟨n, p, G, S, ow, r, h⟩ => by
  obtain ⟨G', ow', r'⟩ := r.ice hg
  exact ⟨n, p, G', S, ow', r', h⟩
theorem getO_at {i : Nat} {xs : List D} (hg : g[i]? = some (some (.own xs))) : getO g i = pure xs := by unfold getO; rw [hg]
theorem xs_append (i : Nat) {x : Str} {px apos cpos : Pos} {xs : List D} {k : List D → M α} (hg : g[i]? = some (some (.own xs)) := by rfl) (hN : X.N[i]? = some x := by rfl) (he : XE X W.x g e me) (hk : ∀ v, XS X W (g.set i (some (.own v))) I rest (k v)) (hv : Vis X.env.scope x := by first | exact Or.inl rfl | exact Or.inr (Or.inl rfl) | exact Or.inr (Or.inr rfl)) (hd : (x == ("__debug__" : Str)) = false := by decide)
    (hcd : (x == ("__classdict__" : Str)) = false := by decide) (hst : starEach [e] X.env = [(false, eval e X.env)] := by rfl) (hfew : ((backTo cpos (starEach [e] X.env)).all (fun x => !x.1) && (backToKw cpos (keywordEach [] X.env)).all (fun x => x.1.isSome)
      && decide ([e].length + ([] : List Keyword).length + (if ([] : List Keyword).isEmpty then 0 else 1) < 30)) = true := by rfl) (hline : (apos.endLine == cpos.line) = true := by rfl) (hs : swapsWith (.Call (.Attribute (.Name x px) "append" apos) [e] [] cpos) none pos.line X.env = pure false := by rfl) :
    XS X W g I (.Expr (.Call (.Attribute (.Name x px) "append" apos) [e] [] cpos) pos :: rest) (B (B me fun y => appO xs y) k) := by
  refine xs_next (e := fun v => g.set i (some (.own v))) (ds_append i hN he.de hv hd hcd hst hfew hline hs) ?_ hk
  rw [AtG_self, getO_at hg]
  unfold B
  rw [pure_bind, bind_assoc]
  congr 1
  funext y
  unfold appO
  split <;> rfl
theorem xe_idxO (i : Nat) {x : Str} {b : Expr} {mb : M D} {V : WX} {px : Pos} {xs : List D} (hg : g[i]? = some (some (.own xs)) := by rfl) (hb : XE X V g b mb) (hs : PlainIx b) (hN : X.N[i]? = some x := by rfl) (hv : Vis X.env.scope x := by first | exact Or.inl rfl | exact Or.inr (Or.inl rfl) | exact Or.inr (Or.inr rfl)) (hd : (x == ("__debug__" : Str)) = false := by decide) (hcd : (x == ("__classdict__" : Str)) = false := by decide) :
    XE X V g (.Subscript (.Name x px) b pos) (B mb fun y => idxD (.lst xs) y) := by
  refine XE.by (de_idxO i hb.de hs hN hv hd hcd) ?_
  rw [AtG_self, getO_at hg]
  rfl
theorem xe_lenO (i : Nat) {x : Str} {V : WX} {px p : Pos} {xs : List D} (hgl : Gl X "len") (hm : X.mg "len" = none) (hg : g[i]? = some (some (.own xs)) := by rfl) (hN : X.N[i]? = some x := by rfl) (hv : Vis X.env.scope x := by first | exact Or.inl rfl | exact Or.inr (Or.inl rfl) | exact Or.inr (Or.inr rfl)) (hd : (x == ("__debug__" : Str)) = false := by decide) (hcd : (x == ("__classdict__" : Str)) = false := by decide) :
    XE X V g (.Call (.Name "len" p) [.Name x px] [] pos) (pure (.int xs.length)) := by
  refine XE.by (de_lenO i hgl hm hN hv hd hcd) ?_
  rw [getO_at hg]
  rfl
def lendX (m : M D) : M D := B (noE m) fun d => if noLst d then pure d else stuck
theorem lendX_eq (m : M D) (S : Sto) : lendX m S = checked noLst (m S) := by
  show ((noE m) S).andThen _ = _
  unfold noE
  cases m S with
  | ok d S1 =>
    show (if noLst d then pure d else stuck : M D) S1 = if noLst d = true then _ else _
    split <;> rfl
  | exc e S1 => rfl
  | stuck => rfl
theorem noE_eq (m : M Bool) (S : Sto) : noE m S = checked (fun _ => true) (m S) := by
  unfold noE
  cases m S with
  | ok d S1 => rfl
  | exc e S1 => rfl
  | stuck => rfl
theorem xe_lent (i : Nat) {V : WX} {xs : List D} (hg : g[i]? = some (some (.own xs)) := by rfl) (h : XE X V (g.set i (some (.val (.lst xs)))) e me) : XE X V g e (lendX me) := PE.imp h fun σ H Q ⟨p, G, S, ow, r, q⟩ => by
  obtain ⟨l, ws, ow', gl, pl, r'⟩ := r.lend hg
  rw [lendX_eq] at q
  exact ⟨p, _, S, ow', r', lent_back (ok := noLst) (fun p G d v n g dn => dn.era g n) gl q⟩
theorem xt_lent (i : Nat) {V : WX} {xs : List D} {mt : M Bool} (hg : g[i]? = some (some (.own xs)) := by rfl) (h : XT X V (g.set i (some (.val (.lst xs)))) e mt) : XT X V g e (noE mt) := PT.imp h fun σ H Q ⟨p, G, S, ow, r, q⟩ => by
  obtain ⟨l, ws, ow', gl, pl, r'⟩ := r.lend hg
  rw [noE_eq] at q
  exact ⟨p, _, S, ow', r', lent_back (ok := fun _ => true) (fun p G d v n g dn => dn) gl q⟩
end
def l0 (f : M D) : List D → M D
  | [] => f
  | _ => stuck
def l1 (f : D → M D) : List D → M D
  | [a] => f a
  | _ => stuck
def l2 (f : D → D → M D) : List D → M D
  | [a, b] => f a b
  | _ => stuck
def l3 (f : D → D → D → M D) : List D → M D
  | [a, b, c] => f a b c
  | _ => stuck
def l4 (f : D → D → D → D → M D) : List D → M D
  | [a, b, c, d] => f a b c d
  | _ => stuck
def l5 (f : D → D → D → D → D → M D) : List D → M D
  | [a, b, c, d, e] => f a b c d e
  | _ => stuck
def l6 (f : D → D → D → D → D → D → M D) : List D → M D
  | [a, b, c, d, e, x] => f a b c d e x
  | _ => stuck
@[simp] theorem l0_at (f : M D) : l0 f [] = f := Eq.trans rfl rfl
@[simp] theorem l1_at (f : D → M D) (a : D) : l1 f [a] = f a := Eq.trans rfl rfl
@[simp] theorem l2_at (f : D → D → M D) (a b : D) : l2 f [a, b] = f a b := Eq.trans rfl rfl
@[simp] theorem l3_at (f : D → D → D → M D) (a b c : D) : l3 f [a, b, c] = f a b c := Eq.trans rfl rfl
@[simp] theorem l4_at (f : D → D → D → D → M D) (a b c d : D) : l4 f [a, b, c, d] = f a b c d := Eq.trans rfl rfl
@[simp] theorem l5_at (f : D → D → D → D → D → M D) (a b c d e : D) : l5 f [a, b, c, d, e] = f a b c d e := Eq.trans rfl rfl
@[simp] theorem l6_at (f : D → D → D → D → D → D → M D) (a b c d e x : D) : l6 f [a, b, c, d, e, x] = f a b c d e x := Eq.trans rfl rfl
section
variable {P : Program} {w : World} {K : PySem.W.Frag} {mg : Str → Option Value} {base : Heap} {x qual : Str} {params : Arguments} {body : List Stmt} {scope : Scope} {dvs : List V} {kws : List (Str × V)} {f : Addr} {fd : FuncData}
theorem fnX_of {N ps : List Str} {k : Nat} {gf : List D → M D} (F : FunD K x qual params body scope dvs kws f fd) (S : FnScope N ps scope)
    (hb : ∀ (cdv : Value) (A : Around) (fr : List Env) (s : Shared) (H : Hp) (E : L2.XK), BodyX (cxOf (L2.CX P w) P w K mg base N qual scope f cdv A fr s H E) k E → ∀ ds : List D, ds.length = ps.length → XS (cxOf (L2.CX P w) P w K mg base N qual scope f cdv A fr s H E) E (startD N.length ds) IB body (gf ds)) : FnD P w K mg base (k + 1) f fd ps gf := by
  refine fnG_of F S (fun vs H Q E h => spD.len vs H Q _ h) fun cdv A fr s H vs Q E hG hr h => ?_
  obtain ⟨ds, p, G, St, e, dn, r, h⟩ := h
  refine ⟨_, hb cdv A fr s H E ⟨hr, hG, takes_of rfl rfl rfl rfl, passes_of rfl, rfl⟩ ds e, ?_⟩
  refine ⟨⟨p, G, H, p, G⟩, p, G, St, [], ⟨⟨r, ?_, by simpa using r.nd, by simp⟩, Ext.refl _ _ _, by simp, ⟨[], by simp⟩, Same.refl _⟩, ?_⟩
  · unfold L2.start startD
    rw [← dn.length]
    exact slots_start dn
  · cases em : gf ds St with
    | stuck => rw [em] at h; exact h
    | exc z S' => rw [em] at h; exact h
    | ok d S' =>
      rw [em] at h
      rintro c (rfl | ⟨rfl, t, rfl⟩)
      · exact h
      · exact fun p' G' H' σ' ow' r' => h .non p' G' H' rfl r'.rs.rel r'.ext
end
theorem argsD_at {n : Nat} {gf : List D → M D} {xs : List D} (h : xs.length = n) : argsD n gf xs = gf xs := if_pos h
theorem argsB_congr {β : Type} : ∀ (ms : List (M D)) {F F' : List D → M β}, (∀ xs, xs.length = ms.length → F xs = F' xs) → argsB ms F = argsB ms F'
  | [], _, _, h => h [] rfl
  | m :: ms, F, F', h => by
    have : (fun x => argsB ms fun xs => F (x :: xs)) = fun x => argsB ms fun xs => F' (x :: xs) := by
      funext x
      exact argsB_congr ms fun xs e => h (x :: xs) (by rw [List.length_cons, List.length_cons, e])
    show B m _ _ = B m _ _
    unfold B
    rw [this]
section
variable {X : Cx} {W : WX} {g : DSt} {a b c e : Expr} {es : List Expr} {kw : List Keyword} {ma mb mc : M D} {ms : List (M D)} {pos p : Pos} {k : Nat} {f : Addr} {fd : FuncData} {ps ks : List Str} {gf : List D → M D} {x : Str} {dvs : List V} {ds : List Value} {dds : List D}
theorem xe_call (F : FnD X.prog X.w X.K X.mg X.base k f fd ps gf) (hr : Room k X.A) (hG : X.A.guards = some []) (tk : Takes X W) (hg : Gl X x) (hm : X.mg x = some (.ref f)) (hk : PySem.W.keepIn X.K (.ref f) = true) (hb : Binds X.K fd ps ds) (hd : Vals dvs ds) (hdd : ∀ q G, DenL X.K q G dds dvs)
    (ha : XA X W g (a :: es) ms) (hl : ms.length + dds.length = ps.length := by rfl) (hdb : (x == ("__debug__" : Str)) = false := by decide) (he : starEach (a :: es) X.env = (false, eval a X.env) :: starEach es X.env := by rfl) (hpl : (backTo pos (starEach es X.env)).any (·.1) = false := by rfl) :
    XE X W g (.Call (.Name x p) (a :: es) [] pos) (argsB ms fun xs => gf (xs ++ dds)) := by
  have h : XE X W g (.Call (.Name x p) (a :: es) [] pos) _ := XE.byA (fun h => de_call F hr hG tk hg hm hk hb hd hdd h hdb he hpl) ha
  rw [argsB_congr ms (F' := fun xs => gf (xs ++ dds)) fun xs e => argsD_at (by rw [List.length_append, e, hl])] at h
  exact h
theorem xe_call0 (F : FnD X.prog X.w X.K X.mg X.base k f fd ps gf) (hr : Room k X.A) (hG : X.A.guards = some []) (tk : Takes X W) (hg : Gl X x) (hm : X.mg x = some (.ref f)) (hk : PySem.W.keepIn X.K (.ref f) = true) (hb : Binds X.K fd ps ds) (hd : Vals dvs ds) (hdd : ∀ q G, DenL X.K q G dds dvs) (hl : dds.length = ps.length := by rfl)
    (hdb : (x == ("__debug__" : Str)) = false := by decide) : XE X W g (.Call (.Name x p) [] [] pos) (gf dds) := XE.by (de_call0 F hr hG tk hg hm hk hb hd hdd hdb) (argsD_at hl)
variable {ar : {α : Type} → List α → List α → List α → List α}
theorem xe_len (hg : Gl X "len") (hm : X.mg "len" = none) (ha : XA X W g [a] ms) (he : starEach [a] X.env = [(false, eval a X.env)] := by rfl) : XE X W g (.Call (.Name "len" p) [a] [] pos) (argsB ms lenD) := XE.byA (fun h => de_len hg hm h he) ha
theorem xe_all (hc : X.calm = true) (hg : Gl X "all") (hm : X.mg "all" = none) (ha : XA X W g [a] ms) (he : starEach [a] X.env = [(false, eval a X.env)] := by rfl) : XE X W g (.Call (.Name "all" p) [a] [] pos) (argsB ms allD) := XE.byA (fun h => de_all hc hg hm h he) ha
theorem xe_min (hc : X.calm = true) (hg : Gl X "min") (hm : X.mg "min" = none) (ha : XA X W g (a :: es) ms) (he : starEach (a :: es) X.env = (false, eval a X.env) :: starEach es X.env := by rfl) (hpl : (backTo pos (starEach es X.env)).any (·.1) = false := by rfl) : XE X W g (.Call (.Name "min" p) (a :: es) [] pos) (argsB ms minD) := XE.byA (fun h => de_min hc hg hm h he hpl) ha
theorem xe_tuple_ (hg : Gl X "tuple") (hm : X.mg "tuple" = none) (ha : XA X W g [a] ms) (he : starEach [a] X.env = [(false, eval a X.env)] := by rfl) : XE X W g (.Call (.Name "tuple" p) [a] [] pos) (argsB ms tupleD) := XE.byA (fun h => de_tuple_ hg hm h he) ha
theorem xf_list (hg : Gl X "list") (hm : X.mg "list" = none) (ha : XE X W g a ma) (he : starEach [a] X.env = [(false, eval a X.env)] := by rfl) : XF X W g (.Call (.Name "list" p) [a] [] pos) (B ma listF) := XF.by (df_list hg hm ha.de he) (by rw [AtG_self]; rfl)
theorem xe_idx (ha : XE X W g a ma) (hb : XE X W g b mb) (hs : PlainIx b) : XE X W g (.Subscript a b pos) (B ma fun x => B mb fun y => idxD x y) := XE.by2 (fun h h' => de_idx h h' hs) ha hb
theorem xe_fld {tab : List (Str × Str)} (T : FldT X.K tab) (f : Str) (ha : XE X W g a ma) (hb : attributeBase a f X.env (eval a X.env) = eval a X.env := by rfl) : XE X W g (.Attribute a f pos) (B ma (fldD tab f)) := XE.by1 (fun h => de_fld T f h hb) ha
end
end RM

namespace RM
open PySem PySem.Spec PyProof.Rows L2
variable [PgW]
section
variable {X : Cx} {W : WX} {g : DSt} {a b c e : Expr} {es : List Expr} {ma mb mc : M D} {ms : List (M D)} {pos p p2 pt : Pos}
def tXO (K : PySem.W.Frag) (W : WX) (g : DSt) (m : M (Option Int)) : TO := fun σ H Q => ∃ p G S ow, RelS K p G S H g σ ow ∧ okR rO K p G H (fun c d H' => W c d σ H') (m S) Q
abbrev XO (X : Cx) (W : WX) (g : DSt) (e : Option Expr) (m : M (Option Int)) : Prop := PO X e (tXO X.K W g m)
variable {lo hi : Option Expr} {ml mh : M (Option Int)}
theorem XO.do_ {o : Option Expr} {m : M (Option Int)} (h : XO X W g o m) : DO X W o (AtG g m) := PO.imp h fun σ H Q ⟨t, p, G, S, ow, r, q⟩ => by
  by_cases e : t = g
  · subst e; rw [AtG_self] at q; exact ⟨p, G, S, ow, r, q⟩
  · rw [AtG_ne m e] at q; exact q.elim
theorem xo_none : XO X W g none (pure none) := PO.imp do_none fun σ H Q ⟨p, G, S, ow, r, k⟩ => ⟨g, p, G, S, ow, r, k⟩
theorem xo_some (ha : XE X W g a ma) : XO X W g (some a) (B ma partD) := PO.imp (do_some ha.de) fun σ H Q ⟨p, G, S, ow, r, k⟩ => ⟨g, p, G, S, ow, r, by show okR rO X.K p G H _ ((AtG g ma g >>= partD) S) Q; rw [AtG_self]; exact k⟩
theorem xe_slice (ha : XE X W g a ma) (hl : XO X W g lo ml) (hh : XO X W g hi mh) : XE X W g (.Subscript a (.Slice lo hi none p2) pos) (B ma fun x => B ml fun l => B mh fun h => sliceD x l h) := XE.by (de_slice ha.de hl.do_ hh.do_) (by rw [AtG_self, AtG_self, AtG_self]; rfl)
theorem xe_isi {cs : List Str} (T : ClsT X.K cs) (t : Ty) (hg : Gl X "isinstance") (hm : X.mg "isinstance" = none) (ha : XE X W g a ma) (hb : PE X b (tC (tyV' X.K t))) (hs : starEach [a, b] X.env = (false, eval a X.env) :: starEach [b] X.env := by rfl) (hs2 : starEach [b] X.env = [(false, eval b X.env)] := by rfl)
    (hpl : (backTo pos (starEach [b] X.env)).any (·.1) = false := by rfl) : XE X W g (.Call (.Name "isinstance" p) [a, b] [] pos) (B ma (isiD cs [t])) := XE.by1 (fun h => de_isi T t hg hm h hb hs hs2 hpl) ha
theorem xe_isi2 {cs : List Str} {b2 : Expr} {x1} (T : ClsT X.K cs) (t u : Ty) (hg : Gl X "isinstance") (hm : X.mg "isinstance" = none) (ha : XE X W g a ma) (hb : PE X b (tC (tyV' X.K t))) (hb2 : PE X b2 (tC (tyV' X.K u))) (hs : starEach [a, .Tuple [b, b2] x1 pt] X.env = (false, eval a X.env) :: starEach [.Tuple [b, b2] x1 pt] X.env := by rfl)
    (hs2 : starEach [.Tuple [b, b2] x1 pt] X.env = [(false, eval (.Tuple [b, b2] x1 pt) X.env)] := by rfl) (hs3 : starEach [b, b2] X.env = (false, eval b X.env) :: starEach [b2] X.env := by rfl) (hs4 : starEach [b2] X.env = [(false, eval b2 X.env)] := by rfl)
    (hpl : (backTo pos (starEach [.Tuple [b, b2] x1 pt] X.env)).any (·.1) = false := by rfl) : XE X W g (.Call (.Name "isinstance" p) [a, .Tuple [b, b2] x1 pt] [] pos) (B ma (isiD cs [t, u])) := XE.by1 (fun h => de_isi2 T t u hg hm h hb hb2 hs hs2 hs3 hs4 hpl) ha
def chainM (f f' : D → D → M D) (ma mb mc : M D) : M D := B ma fun x => B mb fun y => B (f x y) fun z => B (asB z) fun t => if t then B mc fun w => f' y w else pure (.bl false)
def joinX (ma mb : M D) : M D := B ma fun x => B (strD x) fun s => B mb fun y => joinD (.str s) y
structure XP (X : Cx) (W : WX) (g : DSt) (pos : Pos) (keys : List (Option Expr)) (values : List Expr) (ks : List Key) (ms : List (M D)) : Prop where
  d : ∃ u, DP X W pos keys values ks u ∧ u g = runA ms
variable {tg : Expr}
theorem xi_any (ha : XE X W g a ma) : XI X W g tg a (B ma iterD) := XI.by (di_any ha.de) (by rw [AtG_self]; rfl)
theorem xi_range1 {pp : Pos} (hg : Gl X "range") (hm : X.mg "range" = none) (ha : XE X W g a ma) (hs : starEach [a] X.env = [(false, eval a X.env)] := by rfl) : XI X W g tg (.Call (.Name "range" pp) [a] [] pos) (B ma fun x => rangeD [x]) := XI.by (di_range1 hg hm ha.de hs) (by rw [AtG_self]; rfl)
end
section
variable {α τ : Type} {X : Cx} {W : Wf} {g : DSt} {I : IC α} {tg e b : Expr} {T : Tgt} {rest : List Stmt} {pos : Pos} {me mb : M D} {ml : M (List D)} {m : M α}
theorem xs_asg {k : D → M α} (he : XE X W.x g e me) (hg : PG X tg (T.tg X.K)) (hN : ∀ d, T.set d g = none → k d = stuck) (hk : ∀ d t, T.set d g = some t → XS X W t I rest (k d)) (hs : swapsWithSole [tg] e pos.line X.env = pure false := by rfl) (hw : swappedStores [tg] e X.env = pure none := by rfl) (h1 : (assignEach [tg] X.env).map (·.2) = [assign tg X.env] := by rfl) :
    XS X W g I (.Assign [tg] e pos :: rest) (B me k) := by
  refine PSs.imp (pss_cons (ps_asg he (dg_tgt (W := W) hg) hs hw h1) (fam (ι := {q : D × DSt // T.set q.1 g = some q.2}) fun q => hk q.1.1 q.1.2 q.2)) fun E σ H ⟨n, p, G, S, ow, r, h⟩ => ?_
  refine ⟨p, G, S, ow, r.rs, okG.seq h r fun d S1 v p1 G1 H1 e1 dn r1 x1 h1 => ?_⟩
  cases eg : T.set d g with
  | none =>
    rw [hN d eg] at h1
    exact h1.elim
  | some t' => exact ⟨n, d, g, p1, G1, S1, ow, r1, dn, t', eg, fun p' G' H' σ' ow' r' => ⟨⟨(d, t'), eg⟩, n, p', G', S1, ow', r', h1⟩⟩
theorem xs_put (i : Nat) {x : Str} {px pt : Pos} {xs : List D} {k : List D → M α} (hg : g[i]? = some (some (.own xs)) := by rfl) (hN : X.N[i]? = some x := by rfl) (he : XE X W.x g e me) (hb : XE X W.x g b mb) (hk : ∀ v, XS X W (g.set i (some (.own v))) I rest (k v)) (hv : Vis X.env.scope x := by first | exact Or.inl rfl | exact Or.inr (Or.inl rfl) | exact Or.inr (Or.inr rfl)) (hd : (x == ("__debug__" : Str)) = false := by decide)
    (hcd : (x == ("__classdict__" : Str)) = false := by decide) (ha : ∀ v, assign (.Subscript (.Name x px) b pt) X.env v = (do
      let ov ← holding [v] (eval (.Name x px) X.env)
      let iv ← holding [v, ov] (eval b X.env)
      standAt pt
      holding [v, ov, iv] (setItem ov iv v)
      release [v, ov, iv] []) := by intro _; rfl) (hs : swapsWithSole [.Subscript (.Name x px) b pt] e pos.line X.env = pure false := by rfl) (hw : swappedStores [.Subscript (.Name x px) b pt] e X.env = pure none := by rfl)
    (h1 : (assignEach [.Subscript (.Name x px) b pt] X.env).map (·.2) = [assign (.Subscript (.Name x px) b pt) X.env] := by rfl) : XS X W g I (.Assign [.Subscript (.Name x px) b pt] e pos :: rest) (B (B me fun y => B mb fun z => putX xs y z) k) := by
  refine xs_next (e := fun v => g.set i (some (.own v))) (ds_setitem i hN he.de hb.de hv hd hcd ha hs hw h1) ?_ hk
  rw [AtG_self, AtG_self, getO_at hg]
  unfold B putX
  rw [bind_assoc]
  congr 1
  funext y
  rw [pure_bind, bind_assoc]
theorem okG.seqF {K : PySem.W.Frag} {n : Snap} {E : Ends} {p : List (List Addr)} {G H : Hp} {S : Sto} {t : DSt} {σ : L2.St} {ow : List Addr} {mx : M (List D)} {f : List D → M α} {Q1 : VK} {dd : Dep f}
    (h : okG K W n I (B mx f dd S) E) (r : RelF K n p G S H t σ ow)
    (k : ∀ xs S1 l vs p1 G1 H1, H l = none → H1 l = some (.lst vs) → DenL K p1 G1 xs vs → G1 l = none → l ∉ p1.flatten → Rel0 K p1 S1 G1 H1 → Ext p G H p1 G1 H1 → okG K W n I (f xs S1) E → Q1 (.ref l) H1) : okF K p G H (fun c d H' => W c d H') (mx S) Q1 := by
  have h' : okG K W n I ((mx S).andThen f) E := h
  cases e : mx S with
  | ok d S1 =>
    rw [e] at h'
    exact fun l vs p1 G1 H1 h0 h1 h2 h3 h4 r1 x1 => k d S1 l vs p1 G1 H1 h0 h1 h2 h3 h4 r1 x1 h'
  | exc x S1 =>
    rw [e] at h'
    exact fun cls dd p1 G1 H1 a b c => h' cls dd p1 G1 H1 a b (r.ext.trans c)
  | stuck =>
    rw [e] at h'
    exact h'
theorem xs_par_vv (i j : Nat) {x y : Str} {a b : Expr} {m0 : M D} {m1 : M D} {px py pt : Pos} {kt k2 pt2} {k : D → D → M α} (hc : X.calm = true) (hN : X.N.Nodup) (hnx : X.N[i]? = some x) (hny : X.N[j]? = some y) (hij : i ≠ j) (hlx : X.env.scope.names.lookup x = some .local) (hly : X.env.scope.names.lookup y = some .local) (hm0 : XE X W.x g a m0) (hm1 : XE X W.x g b m1) (hk : ∀ w0 w1, XS X W ((g.set i (some (.val w0))).set j (some (.val w1))) I rest (k w0 w1)) (hlen : decide (i < g.length ∧ j < g.length) = true := by rfl) (hst0 : starEach [a, b] X.env = (false, eval a X.env) :: starEach [b] X.env := by rfl) (hst1 : starEach [b] X.env = (false, eval b X.env) :: starEach [] X.env := by rfl) 
    (hw : swappedStores [.Tuple [.Name x px, .Name y py] kt pt] (.Tuple [a, b] k2 pt2) X.env = pure (some [x, y]) := by rfl) (hs : swapsWithSole [.Tuple [.Name x px, .Name y py] kt pt] (.Tuple [a, b] k2 pt2) pos.line X.env = pure false := by rfl) :
    XS X W g I (.Assign [.Tuple [.Name x px, .Name y py] kt pt] (.Tuple [a, b] k2 pt2) pos :: rest) (B m0 fun w0 => B m1 fun w1 => k w0 w1) := by
  have hlt := of_decide_eq_true hlen
  have h := xs_next (g := g) (W := W) (I := I) (rest := rest) (mx := B m0 fun w0 => B m1 fun w1 => pure (w0, w1)) (e := fun p : D × D => ((g.set i (some (.val p.1))).set j (some (.val p.2)))) (k := fun p => k p.1 p.2) (ds_parM2 (pos := pos) (kt := kt) (k2 := k2) (pt := pt) (pt2 := pt2) i j hc hN hnx hny hij hlx hly (dm_val hm0.de (dm_val hm1.de dm_nil hst1) hst0) hw hs) ?_ (fun p => hk p.1 p.2)
  · simpa [B, bind_assoc] using h
  · simp only [AtG_self, B, bind_assoc, pure_bind]
    congr 1
    repeat' first | rfl | (funext _; simp [setMs, hlt, liftO]) | (apply funext; intro _; congr 1)
theorem xs_par_oo (i j : Nat) {x y : Str} {a b : Expr} {m0 : M (List D)} {m1 : M (List D)} {px py pt : Pos} {kt k2 pt2} {k : List D → List D → M α} (hc : X.calm = true) (hN : X.N.Nodup) (hnx : X.N[i]? = some x) (hny : X.N[j]? = some y) (hij : i ≠ j) (hlx : X.env.scope.names.lookup x = some .local) (hly : X.env.scope.names.lookup y = some .local) (hm0 : XF X W.x g a m0) (hm1 : XF X W.x g b m1) (hk : ∀ w0 w1, XS X W ((g.set i (some (.own w0))).set j (some (.own w1))) I rest (k w0 w1)) (hlen : decide (i < g.length ∧ j < g.length) = true := by rfl) (hst0 : starEach [a, b] X.env = (false, eval a X.env) :: starEach [b] X.env := by rfl) (hst1 : starEach [b] X.env = (false, eval b X.env) :: starEach [] X.env := by rfl) 
    (hw : swappedStores [.Tuple [.Name x px, .Name y py] kt pt] (.Tuple [a, b] k2 pt2) X.env = pure (some [x, y]) := by rfl) (hs : swapsWithSole [.Tuple [.Name x px, .Name y py] kt pt] (.Tuple [a, b] k2 pt2) pos.line X.env = pure false := by rfl) :
    XS X W g I (.Assign [.Tuple [.Name x px, .Name y py] kt pt] (.Tuple [a, b] k2 pt2) pos :: rest) (B m0 fun w0 => B m1 fun w1 => k w0 w1) := by
  have hlt := of_decide_eq_true hlen
  have h := xs_next (g := g) (W := W) (I := I) (rest := rest) (mx := B m0 fun w0 => B m1 fun w1 => pure (w0, w1)) (e := fun p : List D × List D => ((g.set i (some (.own p.1))).set j (some (.own p.2)))) (k := fun p => k p.1 p.2) (ds_parM2 (pos := pos) (kt := kt) (k2 := k2) (pt := pt) (pt2 := pt2) i j hc hN hnx hny hij hlx hly (dm_own hm0.df (dm_own hm1.df dm_nil hst1) hst0) hw hs) ?_ (fun p => hk p.1 p.2)
  · simpa [B, bind_assoc] using h
  · simp only [AtG_self, B, bind_assoc, pure_bind]
    congr 1
    repeat' first | rfl | (funext _; simp [setMs, hlt, liftO]) | (apply funext; intro _; congr 1)
theorem xs_par_vvv (i j l : Nat) {x y z : Str} {a b c : Expr} {m0 : M D} {m1 : M D} {m2 : M D} {px py pz pt : Pos} {kt k2 pt2} {k : D → D → D → M α} (hc : X.calm = true) (hN : X.N.Nodup) (hnx : X.N[i]? = some x) (hny : X.N[j]? = some y) (hnz : X.N[l]? = some z) (hij : i ≠ j) (hil : i ≠ l) (hjl : j ≠ l) (hlx : X.env.scope.names.lookup x = some .local) (hly : X.env.scope.names.lookup y = some .local) (hlz : X.env.scope.names.lookup z = some .local) (hm0 : XE X W.x g a m0) (hm1 : XE X W.x g b m1) (hm2 : XE X W.x g c m2) (hk : ∀ w0 w1 w2, XS X W (((g.set i (some (.val w0))).set j (some (.val w1))).set l (some (.val w2))) I rest (k w0 w1 w2)) (hlen : decide (i < g.length ∧ j < g.length ∧ l < g.length) = true := by rfl) (hst0 : starEach [a, b, c] X.env = (false, eval a X.env) :: starEach [b, c] X.env := by rfl) (hst1 : starEach [b, c] X.env = (false, eval b X.env) :: starEach [c] X.env := by rfl) (hst2 : starEach [c] X.env = (false, eval c X.env) :: starEach [] X.env := by rfl) 
    (hw : swappedStores [.Tuple [.Name x px, .Name y py, .Name z pz] kt pt] (.Tuple [a, b, c] k2 pt2) X.env = pure (some [x, y, z]) := by rfl) (hs : swapsWithSole [.Tuple [.Name x px, .Name y py, .Name z pz] kt pt] (.Tuple [a, b, c] k2 pt2) pos.line X.env = pure false := by rfl) :
    XS X W g I (.Assign [.Tuple [.Name x px, .Name y py, .Name z pz] kt pt] (.Tuple [a, b, c] k2 pt2) pos :: rest) (B m0 fun w0 => B m1 fun w1 => B m2 fun w2 => k w0 w1 w2) := by
  have hlt := of_decide_eq_true hlen
  have h := xs_next (g := g) (W := W) (I := I) (rest := rest) (mx := B m0 fun w0 => B m1 fun w1 => B m2 fun w2 => pure (w0, w1, w2)) (e := fun p : D × D × D => (((g.set i (some (.val p.1))).set j (some (.val p.2.1))).set l (some (.val p.2.2)))) (k := fun p => k p.1 p.2.1 p.2.2) (ds_parM3 (pos := pos) (kt := kt) (k2 := k2) (pt := pt) (pt2 := pt2) i j l hc hN hnx hny hnz hij hil hjl hlx hly hlz (dm_val hm0.de (dm_val hm1.de (dm_val hm2.de dm_nil hst2) hst1) hst0) hw hs) ?_ (fun p => hk p.1 p.2.1 p.2.2)
  · simpa [B, bind_assoc] using h
  · simp only [AtG_self, B, bind_assoc, pure_bind]
    congr 1
    repeat' first | rfl | (funext _; simp [setMs, hlt, liftO]) | (apply funext; intro _; congr 1)
theorem xs_par_ovv (i j l : Nat) {x y z : Str} {a b c : Expr} {m0 : M (List D)} {m1 : M D} {m2 : M D} {px py pz pt : Pos} {kt k2 pt2} {k : List D → D → D → M α} (hc : X.calm = true) (hN : X.N.Nodup) (hnx : X.N[i]? = some x) (hny : X.N[j]? = some y) (hnz : X.N[l]? = some z) (hij : i ≠ j) (hil : i ≠ l) (hjl : j ≠ l) (hlx : X.env.scope.names.lookup x = some .local) (hly : X.env.scope.names.lookup y = some .local) (hlz : X.env.scope.names.lookup z = some .local) (hm0 : XF X W.x g a m0) (hm1 : XE X W.x g b m1) (hm2 : XE X W.x g c m2) (hk : ∀ w0 w1 w2, XS X W (((g.set i (some (.own w0))).set j (some (.val w1))).set l (some (.val w2))) I rest (k w0 w1 w2)) (hlen : decide (i < g.length ∧ j < g.length ∧ l < g.length) = true := by rfl) (hst0 : starEach [a, b, c] X.env = (false, eval a X.env) :: starEach [b, c] X.env := by rfl) (hst1 : starEach [b, c] X.env = (false, eval b X.env) :: starEach [c] X.env := by rfl) (hst2 : starEach [c] X.env = (false, eval c X.env) :: starEach [] X.env := by rfl) 
    (hw : swappedStores [.Tuple [.Name x px, .Name y py, .Name z pz] kt pt] (.Tuple [a, b, c] k2 pt2) X.env = pure (some [x, y, z]) := by rfl) (hs : swapsWithSole [.Tuple [.Name x px, .Name y py, .Name z pz] kt pt] (.Tuple [a, b, c] k2 pt2) pos.line X.env = pure false := by rfl) :
    XS X W g I (.Assign [.Tuple [.Name x px, .Name y py, .Name z pz] kt pt] (.Tuple [a, b, c] k2 pt2) pos :: rest) (B m0 fun w0 => B m1 fun w1 => B m2 fun w2 => k w0 w1 w2) := by
  have hlt := of_decide_eq_true hlen
  have h := xs_next (g := g) (W := W) (I := I) (rest := rest) (mx := B m0 fun w0 => B m1 fun w1 => B m2 fun w2 => pure (w0, w1, w2)) (e := fun p : List D × D × D => (((g.set i (some (.own p.1))).set j (some (.val p.2.1))).set l (some (.val p.2.2)))) (k := fun p => k p.1 p.2.1 p.2.2) (ds_parM3 (pos := pos) (kt := kt) (k2 := k2) (pt := pt) (pt2 := pt2) i j l hc hN hnx hny hnz hij hil hjl hlx hly hlz (dm_own hm0.df (dm_val hm1.de (dm_val hm2.de dm_nil hst2) hst1) hst0) hw hs) ?_ (fun p => hk p.1 p.2.1 p.2.2)
  · simpa [B, bind_assoc] using h
  · simp only [AtG_self, B, bind_assoc, pure_bind]
    congr 1
    repeat' first | rfl | (funext _; simp [setMs, hlt, liftO]) | (apply funext; intro _; congr 1)
end
end RM

namespace RM
open PySem PySem.Spec PyProof.Rows L2
variable [PgW]
theorem SlotsR.getS {K : PySem.W.Frag} {p : List (List Addr)} {G H : Hp} : ∀ {t : DSt} {σ : L2.St} {ow : List Addr} {i : Nat} {a : Addr} {c : Str} {ns : List Str} {fs : List D}, SlotsR K p G H t σ ow → t[i]? = some (some (.slf a c ns fs)) → ∃ dx vs, σ[i]? = some (some (.ref a)) ∧ a ∈ ow ∧ H a = some (.ins (He.ga K c) dx (ns.zip vs)) ∧ vs.length = ns.length ∧ DenL K p G fs vs
  | [], _, _, _, _, _, _, _, _, e => by simp at e
  | _ :: _, _, _, 0, a, c, ns, fs, ⟨v, r, l, m, h1, h2, h3, h4⟩, e => by
    simp at e; subst e
    obtain ⟨dx, vs, e1, e2, e3, e4, e5⟩ := h3
    exact ⟨dx, vs, by rw [h1, e2]; rfl, by rw [h2, e1]; simp, e3, e4, e5⟩
  | _ :: _, _, _, i + 1, a, c, ns, fs, ⟨v, r, l, m, h1, h2, h3, h4⟩, e => by
    obtain ⟨dx, vs, e1, e2, e3, e4, e5⟩ := SlotsR.getS (i := i) h4 (by simpa using e)
    exact ⟨dx, vs, by rw [h1]; simpa using e1, by rw [h2]; exact List.mem_append_right _ e2, e3, e4, e5⟩
theorem SlotsR.putS {K : PySem.W.Frag} {p : List (List Addr)} {G H H' : Hp} {a dx : Addr} {c : Str} {ns' : List Str} {fs' : List D} {us : List V} (hk : ∀ b, b ≠ a → H' b = H b) (ha : H' a = some (.ins (He.ga K c) dx (ns'.zip us))) (hl : us.length = ns'.length) (dn : DenL K p G fs' us) : ∀ {t : DSt} {σ : L2.St} {ow : List Addr} {i : Nat} {ns : List Str} {fs : List D},
    SlotsR K p G H t σ ow → ow.Nodup → t[i]? = some (some (.slf a c ns fs)) → SlotsR K p G H' (t.set i (some (.slf a c ns' fs'))) σ ow
  | [], _, _, _, _, _, _, _, e => by simp at e
  | _ :: _, _, _, 0, ns, fs, ⟨v, r, l, m, h1, h2, h3, h4⟩, nd, e => by
    simp at e; subst e
    obtain ⟨dx0, vs, e1, e2, e3, e4, e5⟩ := h3
    subst e1
    rw [h2] at nd
    refine ⟨v, r, [a], m, h1, h2, ⟨dx, us, rfl, e2, ha, hl, dn⟩, SlotsR.mono ⟨[], by simp⟩ (Same.refl _) (fun b hb => hk b ?_) h4⟩
    rintro rfl
    simp at nd
    exact nd.1 hb
  | s :: _, _, _, i + 1, ns, fs, ⟨v, r, l, m, h1, h2, h3, h4⟩, nd, e => by
    rw [h2] at nd
    have nd2 := (List.nodup_append.mp nd).2.1
    obtain ⟨dx2, vs, q1, q2, q3, q4, q5⟩ := SlotsR.getS (i := i) h4 (by simpa using e)
    refine ⟨v, r, l, m, h1, h2, SlotR.mono ⟨[], by simp⟩ (Same.refl _) (fun b hb => hk b ?_) h3, SlotsR.putS hk ha hl dn (i := i) h4 nd2 (by simpa using e)⟩
    rintro rfl
    exact (List.nodup_append.mp nd).2.2 b hb b q2 rfl
theorem RelF.putS {K : PySem.W.Frag} {n : Snap} {p : List (List Addr)} {G H : Hp} {S : Sto} {t : DSt} {σ : L2.St} {ow : List Addr} {i : Nat} {c : Str} {ns ns' : List Str} {fs fs' : List D} {a dx : Addr} {us : List V} (r : RelF K n p G S H t σ ow) (e : t[i]? = some (some (.slf a c ns fs))) (ha : a ∈ ow) (hl : us.length = ns'.length) (dn : DenL K p G fs' us) :
    RelF K n p G S (upd H a (.ins (He.ga K c) dx (ns'.zip us))) (t.set i (some (.slf a c ns' fs'))) σ ow := by
  have ga := r.rs.gn a ha
  have pa : a ∉ p.flatten := fun z => (List.nodup_append.mp r.rs.nd).2.2 a z a ha rfl
  have h0 := r.own a ha
  refine ⟨⟨r.rs.rel.own _ pa ga, SlotsR.putS (fun b hb => upd_ne hb) upd_same hl dn r.rs.sl (List.nodup_append.mp r.rs.nd).2.1 e, r.rs.nd, r.rs.gn⟩, ⟨r.ext.g, r.ext.gn, fun b o e1 e2 => ?_, fun b e1 => ?_, r.ext.p⟩, r.own, r.fp, r.fg⟩
  · rw [upd_ne (ne_of_none e1 h0)]
    exact r.ext.h b o e1 e2
  · by_cases q : b = a
    · subst q; rw [upd_same]; simp
    · rw [upd_ne q]; exact r.ext.d b e1
section
variable {α : Type} {X : Cx} {W : Wf} {g : DSt} {I : IC α} {e : Expr} {rest : List Stmt} {pos pos' px : Pos} {me : M D} {tab : List (Str × Str)}
theorem xs_fldS (i : Nat) {x : Str} {a : Addr} {c f : Str} {ns : List Str} {fs : List D} {k : D → M α} (T : FldT X.K tab) (hg : g[i]? = some (some (.slf a c ns fs)) := by rfl) (hN : X.N[i]? = some x := by rfl) (he : XE X W.x g e me) (hk : ∀ v, XS X W (g.set i (some (.slf a c (ns ++ [f]) (fs ++ [v])))) I rest (k v)) (hz : decide ((c, f) ∈ tab ∧ f ∉ ns ∧ ns.length < 1000) = true := by decide +kernel)
    (hv : Vis X.env.scope x := by first | exact Or.inl rfl | exact Or.inr (Or.inl rfl) | exact Or.inr (Or.inr rfl)) (hd : (x == ("__debug__" : Str)) = false := by decide) (hcd : (x == ("__classdict__" : Str)) = false := by decide) (hs : swapsWith e (some (.Attribute (.Name x px) f pos')) pos.line X.env = pure false := by rfl) :
    XS X W g I (.Assign [.Attribute (.Name x px) f pos'] e pos :: rest) (B me k) := by
  obtain ⟨z1, z2, z3⟩ := of_decide_eq_true hz
  refine PSs.imp (pss_cons (ps_fld (pe_var hN hv hd hcd) he hs) (fam hk)) fun E σ H ⟨n, p, G, S, ow, r, h⟩ => ?_
  refine ⟨p, G, S, ow, r.rs, okG.seq h r fun y S1 v p1 G1 H1 ey dy r1 x1 h1 => ?_⟩
  obtain ⟨dx, vs, e1, e2, e3, e4, e5⟩ := r1.rs.sl.getS hg
  refine ⟨.ref a, e1, a, _, dx, _, rfl, e3, T.cl _ z1, T.na _ z1, ?_, ?_⟩
  · rw [List.length_zip, e4, Nat.min_self]; exact z3
  · rw [putF_new z2 e4]
    exact ⟨y, n, p1, G1, S1, ow, r1.putS hg e2 (by rw [List.length_append, List.length_append, e4]; rfl) (e5.append (DenL.one dy)), h1⟩
end
def IK (a : Addr) (c : Str) : IC D := fun d k => ∃ t ns fs, k = .nx t ∧ d = .ins c ns fs ∧ t[0]? = some (some (.slf a c ns fs))
theorem xs_made {X : Cx} {W : Wf} {g : DSt} {a : Addr} {c : Str} {ns : List Str} {fs : List D} (hg : g[0]? = some (some (.slf a c ns fs)) := by rfl) : XS X W g (IK a c) [] (pure (.ins c ns fs)) := xs_nil ⟨g, ns, fs, rfl, rfl, hg⟩
def startI (n : Nat) (a : Addr) (c : Str) (ds : List D) : DSt := some (.slf a c [] []) :: (ds.map (fun d => some (.val d)) ++ List.replicate (n - 1 - ds.length) none)
def okI (K : PySem.W.Frag) (c : Str) (x : Addr) (p : List (List Addr)) (G H : Hp) (W : Value → Option Addr → Hp → Prop) (r : Res D) (Q : VK) : Prop := match r with
  | .ok (.ins c' ns fs) S' => c' = c ∧ ∀ dx vs p' G' H', H' x = some (.ins (He.ga K c) dx (ns.zip vs)) → vs.length = ns.length → DenL K p' G' fs vs → G' x = none → x ∉ p'.flatten → Rel0 K p' S' G' H' → Ext p G H p' G' H' → Q .non H'
  | .ok _ _ => False
  | .exc e S' => ∀ cls dd p' G' H', ExcAt K p' G' e cls dd → Rel0 K p' S' G' H' → Ext p G H p' G' H' → W cls dd H'
  | .stuck => False
def spI (K : PySem.W.Frag) (c : Str) (n : Nat) (gf : List D → M D) : Sp := fun vs H Q E => ∃ x dx us ds p G S H0, vs = .ref x :: us ∧ ds.length + 1 = n ∧ H0 x = none ∧ H0 dx = none ∧ dx ≠ x ∧ H = upd (upd H0 dx (.own x)) x (.ins (He.ga K c) dx []) ∧ DenL K p G ds us ∧ Rel0 K p S G H0 ∧ okI K c x p G H0 E (gf ds S) Q
abbrev FnI (P : Program) (w : World) (K : PySem.W.Frag) (mg : Str → Option Value) (base : Heap) (k : Nat) (c : Str) (f : Addr) (fd : FuncData) (ps : List Str) (gf : List D → M D) : Prop := FnG P w K mg base k f fd ps (spI K c ps.length gf)
section
variable {P : Program} {w : World} {K : PySem.W.Frag} {mg : Str → Option Value} {base : Heap} {x qual : Str} {params : Arguments} {body : List Stmt} {scope : Scope} {dvs : List V} {kws : List (Str × V)} {f : Addr} {fd : FuncData}
theorem fnI_of {N ps : List Str} {k : Nat} {c : Str} {gf : List D → M D} (hN : 0 < N.length) (F : FunD K x qual params body scope dvs kws f fd) (S : FnScope N ps scope)
    (hb : ∀ (cdv : Value) (A : Around) (fr : List Env) (s : Shared) (H : Hp) (E : L2.XK), BodyX (cxOf (L2.CX P w) P w K mg base N qual scope f cdv A fr s H E) k E → ∀ (a : Addr) (ds : List D), ds.length + 1 = ps.length → XS (cxOf (L2.CX P w) P w K mg base N qual scope f cdv A fr s H E) E (startI N.length a c ds) (IK a c) body (gf ds)) : FnI P w K mg base (k + 1) c f fd ps gf := by
  refine fnG_of F S (fun vs H Q E h => ?_) fun cdv A fr s H vs Q E hG hr h => ?_
  · obtain ⟨_, _, us, ds, _, _, _, _, rfl, e, _, _, _, _, dn, _⟩ := h
    rw [List.length_cons, dn.length, e]
  obtain ⟨x, dx, us, ds, p, G, St, H0, rfl, e, hx, hdx, ne, rfl, dn, r, h⟩ := h
  refine ⟨_, hb cdv A fr s _ E ⟨hr, hG, takes_of rfl rfl rfl rfl, passes_of rfl, rfl⟩ x ds e, ?_⟩
  have gx := r.gfree hx
  have px : x ∉ p.flatten := fun z => r.dom z hx
  have pd : dx ∉ p.flatten := fun z => r.dom z hdx
  have gd := r.gfree hdx
  have far : ∀ b o, H0 b = some o → upd (upd H0 dx (.own x)) x (.ins (He.ga K c) dx []) b = some o := fun b o q => by
    rw [upd_ne (ne_of_none q hx), upd_ne (ne_of_none q hdx)]; exact q
  have rr := (r.own (.own x) pd gd).own (.ins (He.ga K c) dx []) px gx
  refine ⟨⟨p, G, H0, p, G⟩, p, G, St, [x], ⟨⟨rr, ?_, ?_, ?_⟩, ⟨Same.refl _, fun _ q _ => q, fun b o q _ => far b o q, fun b q => ?_, [], by simp, by simp⟩, ?_, ⟨[], by simp⟩, Same.refl _⟩, ?_⟩
  · have hl : us.length = ds.length := dn.length
    have es : L2.start N (.ref x :: us) = some (.ref x) :: (us.map some ++ List.replicate (N.length - 1 - ds.length) none) := by
      unfold L2.start
      rw [List.map_cons, List.length_cons, hl, Nat.sub_sub, Nat.add_comm 1]
      rfl
    rw [es]
    exact ⟨some (.ref x), _, [x], [], rfl, rfl, ⟨dx, [], rfl, rfl, upd_same, rfl, DenL.nil⟩, slots_start dn⟩
  · rw [List.nodup_append]
    exact ⟨r.nd, by simp, fun a ha b hb hab => by simp at hb; rw [hab, hb] at ha; exact px ha⟩
  · intro a ha; simp at ha; rw [ha]; exact gx
  · cases q2 : H0 b with
    | none => exact absurd q2 q
    | some o => rw [far b o q2]; simp
  · intro a ha; simp at ha; rw [ha]; exact hx
  · cases em : gf ds St with
    | stuck => rw [em] at h; exact h
    | exc z S' => rw [em] at h; exact h
    | ok d S' =>
      rw [em] at h
      rintro cc ⟨t, ns, fs, rfl, rfl, ht⟩
      obtain ⟨_, h⟩ := h
      intro p' G' H' σ' ow' r'
      obtain ⟨dx2, vs, e1, e2, e3, e4, e5⟩ := r'.rs.sl.getS ht
      exact h dx2 vs p' G' H' e3 e4 e5 (r'.rs.gn x e2) (fun z => (List.nodup_append.mp r'.rs.nd).2.2 x z x e2 rfl) r'.rs.rel r'.ext
end
theorem okI.of {K : PySem.W.Frag} {c : Str} {x : Addr} {p : List (List Addr)} {G H : Hp} {W : Value → Option Addr → Hp → Prop} {r : Res D} {Q : VK} (hx : H x = none) (hr : ∀ d S', r = .ok d S' → ∃ ns fs, d = .ins c ns fs) (h : okR (Den K) K p G H W r Q) : okI K c x p G H W r (fun v H2 => v = .non ∧ Q (.ref x) H2) := by
  cases r with
  | stuck => exact h
  | exc e S' => exact h
  | ok d S' =>
    obtain ⟨ns, fs, rfl⟩ := hr d S' rfl
    refine ⟨rfl, fun dx vs p' G' H' k1 k2 k3 gx px r' x' => ⟨rfl, ?_⟩⟩
    have sm : Same G' (upd G' x (.ins (He.ga K c) dx (ns.zip vs))) := Same.upd_of gx
    refine h (.ref x) p' (upd G' x (.ins (He.ga K c) dx (ns.zip vs))) H' ⟨x, dx, vs, rfl, upd_same, k2, k3.upd gx⟩ ⟨fun b o e => ?_, r'.len, fun i as o e1 e2 => (r'.mo i as o e1 e2).ice sm, r'.nd, fun b hb => ?_⟩ ⟨x'.g.trans sm, fun b hb1 hb2 => ?_, x'.h, x'.d, x'.p⟩
    · by_cases q : b = x
      · subst q; rw [upd_same] at e; cases e; exact k1
      · rw [upd_ne q] at e; exact r'.sub b o e
    · have : b ≠ x := by rintro rfl; exact px hb
      rw [upd_ne this]; exact r'.gn b hb
    · have : b ≠ x := by rintro rfl; exact hb2 hx
      rw [upd_ne this]; exact x'.gn b hb1 hb2
def MkC (c : Str) (gf : List D → M D) : Prop := ∀ ds S d S', gf ds S = .ok d S' → ∃ ns fs, d = .ins c ns fs
def onlyC (c : Str) (m : M D) : M D := fun S => match m S with
  | .ok (.ins c' ns fs) S' => if c' = c then .ok (.ins c' ns fs) S' else .stuck
  | .ok _ _ => .stuck
  | r => r
section
variable {X : Cx} {W : WX} {g : DSt} {a : Expr} {es : List Expr} {kw : List Keyword} {ms : List (M D)} {pos p : Pos} {k : Nat} {f : Addr} {fd : FuncData} {ps ks : List Str} {gf : List D → M D} {dvs : List V} {ds : List Value} {dds : List D}
theorem xe_make (c : Str) (M : Mk X.K (He.ga X.K c) f) (F : FnI X.prog X.w X.K X.mg X.base k c f fd ps gf) (hM : MkC c gf) (hr : Room (k + 1) X.A) (hG : X.A.guards = some []) (tk : Takes X W) (hg : Gl X c) (hm : X.mg c = some (.ref (He.ga X.K c))) (hb : Binds X.K fd ps ds) (hd : Vals dvs ds) (hdd : ∀ q G, DenL X.K q G dds dvs)
    (ha : XA X W g (a :: es) ms) (hl : ms.length + dds.length + 1 = ps.length := by rfl) (hdb : (c == ("__debug__" : Str)) = false := by decide) (he : starEach (a :: es) X.env = (false, eval a X.env) :: starEach es X.env := by rfl) (hpl : (backTo pos (starEach es X.env)).any (·.1) = false := by rfl) :
    XE X W g (.Call (.Name c p) (a :: es) [] pos) (argsB ms fun xs => gf (xs ++ dds)) := by
  rw [argsB_congr ms (F := fun xs => gf (xs ++ dds)) (F' := fun xs => if xs.length = ms.length then gf (xs ++ dds) else stuck) fun xs e => (if_pos e).symm, argsB_eq]
  refine ⟨fun pins s σ H Q I ⟨q, G, S, ow, r, h⟩ => ?_⟩
  refine wpAny_Call_Name_kw (ld_glob I hg hm (PySem.W.callWith_K (h₀ := X.base) I.ok.mod.kin M.kp ?_ he hpl) hdb)
  refine thn (ha.run pos pins s σ H (fun vs H1 => (vs ++ dvs).length + 1 = ps.length ∧ ∀ x dx, H1 x = none → H1 dx = none → dx ≠ x → spI X.K c ps.length gf (.ref x :: (vs ++ dvs)) (upd (upd H1 dx (.own x)) x (.ins (He.ga X.K c) dx [])) (fun v H2 => v = .non ∧ Q (.ref x) H2) fun c d H' => W c d σ H') I ⟨q, G, S, ow, r, okR.seq h fun d S1 v p1 G1 H1 e1 dn r1 x1 h1 => ?_⟩) fun us s1 ⟨vs, H1, I1, rv, l1, q1⟩ => ⟨I1.kIn, ?_⟩
  · have dn2 := dn.append (hdd p1 G1)
    by_cases hz : d.length = ms.length
    · rw [if_pos hz] at h1
      have hz2 : (d ++ dds).length + 1 = ps.length := by rw [List.length_append, hz, hl]
      refine ⟨by rw [dn2.length]; exact hz2, fun x dx hx hdx ne => ?_⟩
      exact ⟨x, dx, _, d ++ dds, p1, G1, S1, H1, rfl, hz2, hx, hdx, ne, rfl, dn2, r1, okI.of hx (fun d2 S2 e2 => hM _ _ _ _ e2) h1⟩
    · rw [if_neg hz] at h1
      exact h1.elim
  · have r2 := rv.append hd
    refine make_G (zs := us ++ ds) M F hr hG tk I1 (fun s2 u kin => hb s2 (u :: us) kin ?_) r2 q1
    rw [List.cons_append, List.length_cons, ← r2.length]
    exact l1
end
theorem onlyC_ok {c : Str} {m : M D} {S S' : Sto} {d : D} (h : onlyC c m S = .ok d S') : ∃ ns fs, d = .ins c ns fs := by
  unfold onlyC at h
  cases e : m S with
  | stuck => rw [e] at h; cases h
  | exc _ _ => rw [e] at h; cases h
  | ok d2 S2 =>
    rw [e] at h
    cases d2 <;> try cases h
    rename_i c' ns fs
    dsimp only at h
    by_cases q : c' = c
    · rw [if_pos q] at h
      cases h
      exact ⟨ns, fs, by rw [q]⟩
    · rw [if_neg q] at h; cases h
@[simp] theorem onlyC_ins (c : Str) (ns : List Str) (fs : List D) : onlyC c (pure (.ins c ns fs)) = pure (.ins c ns fs) := by
  funext S; exact if_pos rfl
@[simp] theorem onlyC_raise (c : Str) (e : Exc) : onlyC c (raise e) = raise e := Eq.trans rfl rfl
@[simp] theorem onlyC_stuck (c : Str) : onlyC c stuck = stuck := Eq.trans rfl rfl
theorem XS.only {X : Cx} {W : Wf} {g : DSt} {a : Addr} {c : Str} {body : List Stmt} {m : M D} (h : XS X W g (IK a c) body m) : XS X W g (IK a c) body (onlyC c m) := PSs.imp h fun E σ H ⟨n, p, G, S, ow, r, q⟩ => by
  refine ⟨n, p, G, S, ow, r, ?_⟩
  unfold onlyC at q
  cases em : m S with
  | stuck => rw [em] at q; exact q
  | exc _ _ => rw [em] at q; exact q
  | ok d S1 =>
    rw [em] at q
    rintro k ⟨t, ns, fs, rfl, rfl, ht⟩
    dsimp only at q
    rw [if_pos rfl] at q
    exact q (.nx t) ⟨t, ns, fs, rfl, rfl, ht⟩
theorem mk1 {c : Str} {f m : D → M D} (h : ∀ a, f a = onlyC c (m a)) : MkC c (l1 f) := fun ds S d S' e => match ds, e with
  | [a], e => onlyC_ok (by rw [← h]; exact e)
  | [], e => by cases e
  | _ :: _ :: _, e => by cases e
theorem mk3 {c : Str} {f m : D → D → D → M D} (h : ∀ a b x, f a b x = onlyC c (m a b x)) : MkC c (l3 f) := fun ds S d S' e => match ds, e with
  | [a, b, x], e => onlyC_ok (by rw [← h]; exact e)
  | [], e => by cases e
  | [_], e => by cases e
  | [_, _], e => by cases e
  | _ :: _ :: _ :: _ :: _, e => by cases e
theorem mk4 {c : Str} {f m : D → D → D → D → M D} (h : ∀ a b x y, f a b x y = onlyC c (m a b x y)) : MkC c (l4 f) := fun ds S d S' e => match ds, e with
  | [a, b, x, y], e => onlyC_ok (by rw [← h]; exact e)
  | [], e => by cases e
  | [_], e => by cases e
  | [_, _], e => by cases e
  | [_, _, _], e => by cases e
  | _ :: _ :: _ :: _ :: _ :: _, e => by cases e
structure OwnI (P : Program) (w : World) (K : PySem.W.Frag) (mg : Str → Option Value) (base : Heap) (k : Nat) (c : Str) (f : Addr) (fd : FuncData) (ps : List Str) (gf : List D → M D) : Prop where
  fn : FnI P w K mg base k c f fd ps gf
  mkc : MkC c gf
end RM

namespace RM
open PySem PySem.Spec PyProof.Rows L2
variable [PgW]
structure PrD where
  cls : Str
  prop : Str
  d : He.DefD
def pAd (K : PySem.W.Frag) (c p : Str) : Addr := match PySem.W.recIn K (He.ma K (He.ga K c) p) "property" with
  | some (.ref a :: _) => a
  | _ => 0
def fnWA (K : PySem.W.Frag) (a : Addr) : He.FnW := match K.lookup a with
  | some ⟨_, _, .func fd, _⟩ => some (fd.name, fd.qualname, fd.params, fd.body, fd.scope, fd.globals, fd.closure, fd.builtins)
  | _ => none
def PrD.ok (K : PySem.W.Frag) (q : PrD) : Bool :=
  He.eqO (PySem.W.findIn K (.ref (He.ga K q.cls)) q.prop) (some (some (.ref (He.ma K (He.ga K q.cls) q.prop)))) &&
  (He.eqO (PySem.W.specialIn K (.ref (He.ma K (He.ga K q.cls) q.prop)) "__get__") (some (some (.builtin "property.__get__"))) &&
  (decide (PySem.W.takesIn K (.ref (He.ma K (He.ga K q.cls) q.prop)) = some true) &&
  ((match PySem.W.recIn K (He.ma K (He.ga K q.cls) q.prop) "property" with
    | some (.ref _ :: _) => true
    | _ => false) &&
  (PySem.W.keepIn K (.ref (pAd K q.cls q.prop)) && (match K.lookup (pAd K q.cls q.prop) with
    | some ⟨_, _, .func fd, _⟩ => PySem.W.codeIn K fd.code q.d.qual && (He.dflB K fd.defaults (q.d.dvs K) && He.kwdB K fd.kwdefaults (q.d.kws K))
    | _ => false)))))
theorem PrD.prop_ {K : PySem.W.Frag} {q : PrD} (c : q.ok K = true) : PropOf K (He.ga K q.cls) q.prop (He.ma K (He.ga K q.cls) q.prop) (pAd K q.cls q.prop) := by
  obtain ⟨h1, c⟩ := He.ba c
  obtain ⟨h2, c⟩ := He.ba c
  obtain ⟨h3, c⟩ := He.ba c
  obtain ⟨h4, c⟩ := He.ba c
  refine ⟨He.eqO_ok h1, He.eqO_ok h2, of_decide_eq_true h3, ?_⟩
  unfold pAd
  split at h4
  · rename_i a rest e
    rw [e]
    exact ⟨rest, rfl⟩
  · cases h4
theorem PrD.funD {K : PySem.W.Frag} {q : PrD} (e : fnWA K (pAd K q.cls q.prop) = q.d.val) (c : q.ok K = true) : ∃ fd, FunD K q.d.name q.d.qual q.d.params q.d.body q.d.scope (q.d.dvs K) (q.d.kws K) (pAd K q.cls q.prop) fd := by
  obtain ⟨_, c⟩ := He.ba c
  obtain ⟨_, c⟩ := He.ba c
  obtain ⟨_, c⟩ := He.ba c
  obtain ⟨_, c⟩ := He.ba c
  obtain ⟨kp, c2⟩ := He.ba c
  unfold fnWA at e
  generalize pAd K q.cls q.prop = ad at *
  obtain ⟨_, _, d⟩ := q
  dsimp only at *
  cases z : K.lookup ad with
  | none =>
    rw [z] at c2
    cases c2
  | some o =>
    obtain ⟨oc, od, dt, osl⟩ := o
    rw [z] at c2 e
    cases dt with
    | func fd =>
      obtain ⟨n1, n2, n3, n4, n5, n6, n7, n8, n9, n10, n11, n12, n13, n14, n15⟩ := fd
      have e2 : (some (n1, n2, n3, n4, n5, n6, n7, n15) : He.FnW) = some (d.name, d.qual, d.params, .stmts d.body, d.scope, mainGlobals, [], builtinsNs) := e
      simp only [Option.some.injEq, Prod.mk.injEq] at e2
      obtain ⟨h1, h2, h3, h4, h5, h6, h7, h8⟩ := e2
      subst h1 h2 h3 h4 h5 h6 h7 h8
      have c3 : (PySem.W.codeIn K n13 d.qual && (He.dflB K n8 (d.dvs K) && He.kwdB K n9 (d.kws K))) = true := c2
      obtain ⟨k1, k2⟩ := He.ba c3
      obtain ⟨k3, k4⟩ := He.ba k2
      exact ⟨_, ⟨oc, od, n8, n9, n10, n11, n12, n13, n14, osl, rfl, z, k1, He.dflB_ok k3, He.kwdB_ok k4⟩, kp⟩
    | _ => cases c2
abbrev AlX : Type := He.AlD × Bool × List He.FnW
def obsX (fa : List He.Fa) (fn : List He.DefD) (pr : List PrD) (chk : PySem.W.Frag → Bool) (K : PySem.W.Frag) : AlX := (He.obsD fa fn K, (chk K && pr.all fun q => q.ok K), pr.map fun q => fnWA K (pAd K q.cls q.prop))
structure SaysX (fa : List He.Fa) (fn : List He.DefD) (pr : List PrD) (chk : PySem.W.Frag → Bool) (K : PySem.W.Frag) : Prop where
  d : He.SaysD fa fn K
  c : chk K = true
  p : ∀ q ∈ pr, q.ok K = true
  w : pr.map (fun q => fnWA K (pAd K q.cls q.prop)) = pr.map fun q => q.d.val
theorem SaysX.of {fa : List He.Fa} {fn : List He.DefD} {pr : List PrD} {chk : PySem.W.Frag → Bool} {K : PySem.W.Frag} (e : obsX fa fn pr chk K = (He.valD fn, true, pr.map fun q => q.d.val)) : SaysX fa fn pr chk K := by
  have e1 := congrArg (fun z : AlX => z.1) e
  have e2 : (chk K && pr.all fun q => q.ok K) = true := congrArg (fun z : AlX => z.2.1) e
  have e3 := congrArg (fun z : AlX => z.2.2) e
  obtain ⟨h1, h2⟩ := He.ba e2
  exact ⟨e1, h1, List.all_eq_true.mp h2, e3⟩
theorem SaysX.prop_ {fa : List He.Fa} {fn : List He.DefD} {pr : List PrD} {chk : PySem.W.Frag → Bool} {K : PySem.W.Frag} (s : SaysX fa fn pr chk K) (i : Nat) {q : PrD} (h : pr[i]? = some q := by rfl) : PropOf K (He.ga K q.cls) q.prop (He.ma K (He.ga K q.cls) q.prop) (pAd K q.cls q.prop) ∧ ∃ fd, FunD K q.d.name q.d.qual q.d.params q.d.body q.d.scope (q.d.dvs K) (q.d.kws K) (pAd K q.cls q.prop) fd := by
  have c := s.p q (List.mem_of_getElem? h)
  have e : (pr.map fun q => fnWA K (pAd K q.cls q.prop))[i]? = (pr.map fun q => q.d.val)[i]? := by rw [s.w]
  rw [List.getElem?_map, List.getElem?_map, h] at e
  exact ⟨PrD.prop_ c, PrD.funD (Option.some.inj e) c⟩
def isC (c : Str) (d : D) : M Unit := fun S => match d with
  | .ins c' _ _ => if c' = c then .ok () S else .stuck
  | .mref i => match S[i]? with
    | some (.inst c' _ _) => if c' = c then .ok () S else .stuck
    | _ => .stuck
  | _ => .stuck
@[simp] theorem isC_ins (c : Str) (ns : List Str) (fs : List D) : isC c (.ins c ns fs) = pure () := by funext S; exact if_pos rfl
theorem isC_at {K : PySem.W.Frag} {p : List (List Addr)} {S : Sto} {G H : Hp} {c : Str} {d : D} {v : V} {S' : Sto} (dn : Den K p G d v) (r : Rel0 K p S G H) (h : isC c d S = .ok () S') : S' = S ∧ ∃ a dx fs, v = .ref a ∧ H a = some (.ins (He.ga K c) dx fs) := by
  unfold isC at h
  cases d <;> try cases h
  · rename_i c' ns fs
    dsimp only at h
    by_cases q : c' = c
    · rw [if_pos q] at h
      cases h
      obtain ⟨a, dx, vs, rfl, ha, _⟩ := dn
      rw [q] at ha
      exact ⟨rfl, a, dx, _, rfl, r.sub _ _ ha⟩
    · rw [if_neg q] at h; cases h
  · rename_i i
    dsimp only at h
    cases es : S[i]? with
    | none => rw [es] at h; cases h
    | some o =>
      rw [es] at h
      cases o with
      | tape _ => cases h
      | kd _ => cases h
      | tab _ _ => cases h
      | lst _ => cases h
      | inst c' ns fs =>
        dsimp only at h
        by_cases q : c' = c
        · rw [if_pos q] at h
          cases h
          obtain ⟨l, x, hp, rfl⟩ := dn
          obtain ⟨rfl, _, dx, vs, hl, _⟩ := r.inst hp es
          rw [q] at hl
          exact ⟨rfl, l, dx, _, rfl, hl⟩
        · rw [if_neg q] at h; cases h
theorem isC_st (c : Str) (d : D) (S : Sto) : isC c d S = .ok () S ∨ isC c d S = .stuck := by
  unfold isC
  split
  · split
    · exact .inl rfl
    · exact .inr rfl
  · split
    · split
      · exact .inl rfl
      · exact .inr rfl
    · exact .inr rfl
  · exact .inr rfl
def isCm (c m : Str) (d : D) : M Unit := fun S => match d with
  | .ins c' ns _ => if c' = c ∧ m ∉ ns then .ok () S else .stuck
  | .mref i => match S[i]? with
    | some (.inst c' ns _) => if c' = c ∧ m ∉ ns then .ok () S else .stuck
    | _ => .stuck
  | _ => .stuck
theorem isCm_at {K : PySem.W.Frag} {p : List (List Addr)} {S : Sto} {G H : Hp} {c m : Str} {d : D} {v : V} {S' : Sto} (dn : Den K p G d v) (r : Rel0 K p S G H) (h : isCm c m d S = .ok () S') : S' = S ∧ ∃ a dx fs, v = .ref a ∧ H a = some (.ins (He.ga K c) dx fs) ∧ fs.lookup m = none := by
  unfold isCm at h
  cases d <;> try cases h
  · rename_i c' ns fs
    dsimp only at h
    by_cases q : c' = c ∧ m ∉ ns
    · rw [if_pos q] at h
      cases h
      obtain ⟨a, dx, vs, rfl, ha, _⟩ := dn
      rw [q.1] at ha
      exact ⟨rfl, a, dx, _, rfl, r.sub _ _ ha, lookup_zipNone q.2⟩
    · rw [if_neg q] at h; cases h
  · rename_i i
    dsimp only at h
    cases es : S[i]? with
    | none => rw [es] at h; cases h
    | some o =>
      rw [es] at h
      cases o with
      | tape _ => cases h
      | kd _ => cases h
      | tab _ _ => cases h
      | lst _ => cases h
      | inst c' ns fs =>
        dsimp only at h
        by_cases q : c' = c ∧ m ∉ ns
        · rw [if_pos q] at h
          cases h
          obtain ⟨l, x, hp, rfl⟩ := dn
          obtain ⟨rfl, _, dx, vs, hl, _⟩ := r.inst hp es
          rw [q.1] at hl
          exact ⟨rfl, l, dx, _, rfl, hl, lookup_zipNone q.2⟩
        · rw [if_neg q] at h; cases h
theorem isCm_st (c m : Str) (d : D) (S : Sto) : isCm c m d S = .ok () S ∨ isCm c m d S = .stuck := by
  unfold isCm
  split
  · split
    · exact .inl rfl
    · exact .inr rfl
  · split
    · split
      · exact .inl rfl
      · exact .inr rfl
    · exact .inr rfl
  · exact .inr rfl
structure OwnM (X : Cx) (k : Nat) (c m : Str) (f : Addr) (fd : FuncData) (ps : List Str) (gf : List D → M D) : Prop where
  fn : FnD X.prog X.w X.K X.mg X.base k f fd ps gf
  cl : Cls X.K (He.ga X.K c)
  me : Meth X.K (He.ga X.K c) m f
section
variable {X : Cx} {g : DSt} {o e : Expr} {es : List Expr} {mo : M D} {ms : List (M D)} {pos apos : Pos} {k : Nat} {f : Addr} {fd : FuncData} {ps : List Str} {gf : List D → M D} {dvs : List V} {ds : List Value} {dds : List D}
theorem xe_prop (c p : Str) {W : WX} (hp : PropOf X.K (He.ga X.K c) p (He.ma X.K (He.ga X.K c) p) f) (cl : Cls X.K (He.ga X.K c)) (F : FnD X.prog X.w X.K X.mg X.base k f fd ["self"] (l1 fun d => gf [d])) (hr : Room (k + 1) X.A) (hG : X.A.guards = some []) (hb : Binds X.K fd ["self"] [])
    (he : XE X W g e mo) (hab : attributeBase e p X.env (eval e X.env) = eval e X.env := by rfl) : XE X W g (.Attribute e p pos) (B mo fun d => B (isC c d) fun _ => noE (gf [d])) := by
  refine ⟨fun pins s σ H Q I ⟨q, G, S, ow, r, h⟩ => ?_⟩
  refine attr_of hab (thn (he.run pins s σ H (fun x H1 => ∃ a dx fs, x = .ref a ∧ H1 a = some (.ins (He.ga X.K c) dx fs) ∧ spD X.K 1 (l1 fun d => gf [d]) [.ref a] H1 Q fun _ _ _ => False) I ⟨q, G, S, ow, r, okR.seq h fun d S1 v p1 G1 H1 e1 dn r1 x1 h1 => ?_⟩) fun u s1 ⟨x, H1, I1, rx, a, dx, fs, ex, ea, hq⟩ => ?_)
  · have h2 : okR (Den X.K) X.K p1 G1 H1 (fun c d H' => W c d σ H') ((isC c d S1).andThen fun _ => noE (gf [d])) Q := h1
    rcases isC_st c d S1 with z | z
    · rw [z] at h2
      obtain ⟨_, a, dx, fs, rfl, ha⟩ := isC_at dn r1 z
      exact ⟨a, dx, fs, rfl, ha, [d], p1, G1, S1, rfl, DenL.one dn, r1, okR.noE h2⟩
    · rw [z] at h2; exact h2.elim
  · subst ex
    obtain rfl : u = Value.ref a := rx
    obtain ⟨mA, O, _, _, _, _⟩ := ins_get I1.hok ea
    obtain ⟨od, J, _⟩ := O.look
    obtain ⟨rest, hrec⟩ := hp.rec_
    have I2 := I1.tok (s1.toks + 1)
    have hc : (PySem.W.clsIn X.K (He.ga X.K c)).isSome = true := by
      obtain ⟨cd, hc, _⟩ := PySem.W.any_some cl.hd
      rw [hc]
      rfl
    refine PySem.W.get_bind I1.kIn J (PySem.W.plainGet_of (cl.get p)).1 (PySem.W.findObj_data hc hp.at_ hp.get hp.tak) (PySem.W.plainGet_of (cl.get p)).2 (wpAny_call (PySem.W.prop_get (s := { s1 with toks := s1.toks + 1 }) I1.kIn hrec ?_))
    refine codeAny_mono (F.go X.A.in1 X.stack { s1 with toks := s1.toks + 1 } H1 ⟨[.ref a], []⟩ [.ref a] [.ref a] Q (fun _ _ _ => False) hG hr.in1 I2.env0.in1 (hb _ [.ref a] I2.kIn rfl) (.cons rfl .nil) hq) fun rr s' hz => ?_
    cases rr with
    | error er =>
      obtain ⟨_, _, _, _, _, _, _, _, _, _, _, _, z⟩ := hz
      exact z.elim
    | ok fl =>
      cases fl with
      | ret u =>
        obtain ⟨v, H', I3, rv, q3⟩ := I2.after hz
        show wpAny _ _ (handedOut u) _ _ _
        rw [PySem.W.handedOut_of (handed_of rv)]
        exact wpAny_pure ⟨v, H', I3, rv, q3⟩
      | next => exact False.elim hz
      | brk => exact False.elim hz
      | cont => exact False.elim hz
theorem xe_meth (c m : Str) {W : WX} {pl : Sem Bool} (M : OwnM X k c m f fd ps gf) (hr : Room k X.A) (hG : X.A.guards = some []) (tk : Takes X W) (hb : Binds X.K fd ps ds) (hd : Vals dvs ds) (hdd : ∀ q G, DenL X.K q G dds dvs) (ho : XE X W g o mo) (ha : XA X W g (e :: es) ms) (hl : ms.length + dds.length + 1 = ps.length := by rfl)
    (hst : starEach (e :: es) X.env = (false, eval e X.env) :: starEach es X.env := by rfl) (hpl : (backTo pos (starEach es X.env)).any (·.1) = false := by rfl)
    (ht : eval (.Call (.Attribute o m apos) (e :: es) [] pos) X.env = (do
      let ov ← eval o X.env
      standAt apos.atName
      let (f, first) ← holding [ov] (getMethod ov m pl)
      callWith pos f first (backTo pos (starEach (e :: es) X.env)) (backToKw pos (keywordEach [] X.env))) := by rfl) :
    XE X W g (.Call (.Attribute o m apos) (e :: es) [] pos) (B mo fun d => B (isCm c m d) fun _ => argsB ms fun xs => gf (d :: (xs ++ dds))) := by
  refine ⟨fun pins s σ H Q I ⟨q, G, S, ow, r, h⟩ => ?_⟩
  refine PySem.W.methodCall_KW (pl := pl) (thn (ho.run pins s σ H (fun x H1 => ∃ a dx fs, x = .ref a ∧ H1 a = some (.ins (He.ga X.K c) dx fs) ∧ fs.lookup m = none ∧ tXA X.K W g (runA ms) σ H1 fun vs H2 => spD X.K ps.length gf (.ref a :: (vs ++ dvs)) H2 Q fun c d H' => W c d σ H') I ⟨q, G, S, ow, r, okR.seq h fun d S1 v p1 G1 H1 e1 dn r1 x1 h1 => ?_⟩) fun u s1 ⟨x, H1, I1, rx, a, dx, fs, ex, ea, hl2, hq⟩ => ?_) ht
  · have h2 : okR (Den X.K) X.K p1 G1 H1 (fun c d H' => W c d σ H') ((isCm c m d S1).andThen fun _ => argsB ms fun xs => gf (d :: (xs ++ dds))) Q := h1
    rcases isCm_st c m d S1 with z | z
    · rw [z] at h2
      obtain ⟨_, a, dx, fs, rfl, ha, hlk⟩ := isCm_at dn r1 z
      refine ⟨a, dx, fs, rfl, ha, hlk, p1, G1, S1, ow, r.ext x1 r1, ?_⟩
      have h3 : okR (Den X.K) X.K p1 G1 H1 (fun c d H' => W c d σ H') ((runA ms >>= fun xs => if xs.length = ms.length then gf (d :: (xs ++ dds)) else stuck) S1) Q := by
        rw [← argsB_eq, ← argsB_congr ms (F := fun xs => gf (d :: (xs ++ dds))) fun xs e => (if_pos e).symm]
        exact h2
      refine okR.seq h3 fun xs S2 vs p2 G2 H2 e2 dn2 r2 x2 h4 => ?_
      by_cases hz : xs.length = ms.length
      · rw [if_pos hz] at h4
        exact ⟨d :: (xs ++ dds), p2, G2, S2, by rw [List.length_cons, List.length_append, hz, hl], DenL.cons (dn.mono x2.pp x2.g) (dn2.append (hdd p2 G2)), r2, h4⟩
      · rw [if_neg hz] at h4; exact h4.elim
    · rw [z] at h2; exact h2.elim
  · subst ex
    obtain rfl : u = Value.ref a := rx
    refine getmeth_ok I1 ea M.cl M.me hl2 ?_
    refine PySem.W.callWith_K (first := [.ref a]) (h₀ := X.base) I.ok.mod.kin M.me.kp (thn (ha.run pos pins s1 σ H1 _ I1 hq) fun us s2 ⟨vs, H2, I2, rr, q2⟩ => ⟨I2.kIn, ?_⟩) hst hpl
    have r2 : Vals (.ref a :: (vs ++ dvs)) (.ref a :: (us ++ ds)) := .cons rfl (rr.append hd)
    exact call_G (us := .ref a :: us) M.fn hr hG tk I2 (hb s2 (.ref a :: us) I2.kIn (by rw [List.cons_append, ← r2.length]; exact M.fn.arity _ _ _ _ q2)) r2 q2
end
end RM

namespace RM
open PySem PySem.Spec PyProof.Rows L2
variable [PgW]
def rD (K : PySem.W.Frag) (V : Wf) (f : D → D → M D) : R2 := fun v u H Q => ∃ d e p G S, Den K p G d v ∧ Den K p G e u ∧ Rel0 K p S G H ∧ okR (Den K) K p G H V (f d e S) Q
def rA (K : PySem.W.Frag) (V : Wf) (f : List D → M D) : List L2.V → Hp → VK → Prop := fun vs H Q => ∃ ds p G S, DenL K p G ds vs ∧ Rel0 K p S G H ∧ okR (Den K) K p G H V (f ds S) Q
section
variable {X : Cx} {V : Wf} {g : DSt} {a b : Expr} {es : List Expr} {ma mb : M D} {ms : List (M D)} {pos p : Pos} {f : D → D → M D}
theorem tOpD {σ : L2.St} {H : Hp} {Q : VK} (h : tXE X.K V.x g (B ma fun x => B mb fun y => f x y) σ H Q) : tOp (rD X.K V f) (tXE X.K V.x g ma) (tXE X.K V.x g mb) σ H Q := by
  obtain ⟨p, G, S, ow, r, h⟩ := h
  have h : okR (Den X.K) X.K p G H (fun c d H' => V c d H') ((ma >>= fun x => mb >>= fun y => f x y) S) Q := h
  refine ⟨p, G, S, ow, r, okR.seq h fun d S1 v p1 G1 H1 e1 dn r1 x1 h1 => ?_⟩
  refine ⟨p1, G1, S1, ow, r.ext x1 r1, okR.seq h1 fun d2 S2 v2 p2 G2 H2 e2 dn2 r2 x2 h2 => ?_⟩
  exact ⟨d, d2, p2, G2, S2, dn.mono x2.pp x2.g, dn2, r2, h2⟩
theorem xe_cmpD {op : CmpOp} (ho : OpR X (compareOp op) (rD X.K V f)) (ha : XE X V.x g a ma) (hb : XE X V.x g b mb) (hm : behindInMarks op b = false) : XE X V.x g (.Compare a [op] [b] pos) (B ma fun x => B mb fun y => f x y) := PE.imp (pe_cmpR ho ha hb hm) fun _ _ _ h => tOpD h
theorem xe_callA {x : Str} {id : String} {fa : List D → M D} (hc : CallR X (.builtin id) (rA X.K V fa)) (hg : Gl X x) (hm : X.mg x = none) (hv : bootBuiltins x = some (.builtin id)) (ha : XA X V.x g (a :: es) ms) (hn : x ≠ "__name__" := by decide) (hdb : (x == ("__debug__" : Str)) = false := by decide)
    (he : starEach (a :: es) X.env = (false, eval a X.env) :: starEach es X.env := by rfl) (hpl : (backTo pos (starEach es X.env)).any (·.1) = false := by rfl) : XE X V.x g (.Call (.Name x p) (a :: es) [] pos) (argsB ms fa) := by
  rw [argsB_eq]
  refine PE.imp (pe_callB hc hg hm hv ha hn hdb he hpl) fun σ H Q ⟨p, G, S, ow, r, h⟩ => ?_
  exact ⟨p, G, S, ow, r, okR.seq h fun d S1 v p1 G1 H1 e1 dn r1 x1 h1 => ⟨d, p1, G1, S1, dn, r1, h1⟩⟩
end
abbrev MT := List (Str × (D → D → M D))
def AllM (X : Cx) (k : Nat) (m : Str) : MT → Prop
  | [] => True
  | q :: r => (∃ f fd ps, OwnM X k q.1 m f fd ps (l2 q.2) ∧ ps.length = 2 ∧ Binds X.K fd ps []) ∧ AllM X k m r
theorem AllM.get {X : Cx} {k : Nat} {m c : Str} {h : D → D → M D} : ∀ {T : MT}, AllM X k m T → T.lookup c = some h → ∃ f fd ps, OwnM X k c m f fd ps (l2 h) ∧ ps.length = 2 ∧ Binds X.K fd ps []
  | [], _, e => by cases e
  | q :: r, ⟨a, b⟩, e => by
    obtain ⟨c', h'⟩ := q
    rw [List.lookup_cons] at e
    cases z : c == c' with
    | true =>
      rw [z] at e
      cases e
      rw [beq_iff_eq.mp z]
      exact a
    | false =>
      rw [z] at e
      exact AllM.get b e
theorem own_run {X : Cx} {V : Wf} {k : Nat} {c m : Str} {h : D → D → M D} {T : MT} (hT : AllM X k m T) (hl : T.lookup c = some h) (hr : Room k X.A) (hG : X.A.guards = some []) (tk : Takes X V.x) {pins : List (Addr × Obj)} {s : Shared} {σ : L2.St} {H : Hp} {d e : D} {v u : L2.V} {uu : Value} {p : List (List Addr)} {G : Hp} {S : Sto} {Q : VK} {ns : List Str} {fs : List D}
    (I : Inv X pins σ H s) (hd : d = .ins c ns fs) (dn : Den X.K p G d v) (den : Den X.K p G e u) (ru : RelV u uu) (r : Rel0 X.K p S G H) (hq : okR (Den X.K) X.K p G H V (h d e S) Q) :
    ∃ f a dx xs, v = .ref a ∧ H a = some (.ins (He.ga X.K c) dx xs) ∧ Cls X.K (He.ga X.K c) ∧ Meth X.K (He.ga X.K c) m f ∧ wpAny (model X.prog X.w) X.A (call (.ref f) [.ref a, uu]) (EP X pins σ Q) X.xe s := by
  obtain ⟨f, fd, ps, M, hps, hb⟩ := hT.get hl
  subst hd
  obtain ⟨a, dx, vs, rfl, ha, hn⟩ := id dn
  have q1 : spD X.K ps.length (l2 h) [.ref a, u] H Q fun c d H' => V.x c d σ H' := ⟨[.ins c ns fs, e], p, G, S, hps.symm, DenL.cons dn (DenL.one den), r, hq⟩
  exact ⟨f, a, dx, _, rfl, r.sub _ _ ha, M.cl, M.me, call_G (us := [.ref a, uu]) (zs := [.ref a, uu]) M.fn hr hG tk I (by
    have := hb s [.ref a, uu] I.kIn (by rw [List.append_nil]; exact hps.symm)
    rwa [List.append_nil] at this) (vs := [.ref a, u]) (.cons rfl (.cons ru .nil)) q1⟩
theorem inst_at {X : Cx} {pins : List (Addr × Obj)} {s : Shared} {σ : L2.St} {H : Hp} {a C dx : Addr} {fs : List (Str × L2.V)} (I : Inv X pins σ H s) (ea : H a = some (.ins C dx fs)) : ∃ od, PySem.W.InstAt s.heap a (PySem.W.instObj C dx) C (some od) := by
  obtain ⟨mA, O, _, _, _, _⟩ := ins_get I.hok ea
  obtain ⟨od, J, _⟩ := O.look
  exact ⟨od, J⟩
end RM

namespace RM
open PySem PySem.Spec PyProof.Rows L2
variable [PgW]
def pick {α : Type} : List Nat → List α → List α
  | [], _ => []
  | i :: is, xs => (xs[i]?).elim (pick is xs) fun x => x :: pick is xs
@[simp] theorem pick_nil {α : Type} (xs : List α) : pick [] xs = [] := Eq.trans rfl rfl
@[simp] theorem pick_cons {α : Type} (i : Nat) (is : List Nat) (xs : List α) : pick (i :: is) xs = (xs[i]?).elim (pick is xs) fun x => x :: pick is xs := Eq.trans rfl rfl
end RM

namespace RM
open PySem PySem.Spec PyProof.Rows L2
variable [PgW]
end RM

namespace RM
open PySem PySem.Spec PyProof.Rows L2
variable [PgW]
@[simp] theorem tst_pure (b : Bool) : tst (pure (.bl b)) = pure b := Eq.trans rfl rfl
@[simp] theorem tNot_pure (b : Bool) : tNot (pure b) = pure (!b) := Eq.trans rfl rfl
@[simp] theorem tAnd_pure (b : Bool) (n : M Bool) : tAnd (pure b) n = if b then n else pure false := Eq.trans rfl rfl
@[simp] theorem tOr_pure (b : Bool) (n : M Bool) : tOr (pure b) n = if b then pure true else n := Eq.trans rfl rfl
@[simp] theorem eAnd_pure (b : Bool) (n : M D) : eAnd (pure (.bl b)) n = if b then n else pure (.bl false) := Eq.trans rfl rfl
@[simp] theorem eOr_pure (b : Bool) (n : M D) : eOr (pure (.bl b)) n = if b then pure (.bl true) else n := Eq.trans rfl rfl
@[simp] theorem eNot_pure (b : Bool) : eNot (pure (.bl b)) = pure (.bl (!b)) := Eq.trans rfl rfl
@[simp] theorem ifM_pure {α : Type} (b : Bool) (x y : M α) : ifM (pure b) x y = if b then x else y := Eq.trans rfl rfl
@[simp] theorem noE_pure {α : Type} (x : α) : noE (pure x : M α) = pure x := Eq.trans rfl rfl
@[simp] theorem noE_stuck {α : Type} : noE (stuck : M α) = stuck := Eq.trans rfl rfl
@[simp] theorem asB_bl' (b : Bool) : asB (.bl b) = pure b := Eq.trans rfl rfl
@[simp] theorem lendX_pure (d : D) : lendX (pure d) = if noLst d then pure d else stuck := Eq.trans rfl rfl
@[simp] theorem orRet_inl {α τ : Type} (r : D → α) (k : τ → M α) (d : D) : orRet r k (.inl d) = pure (r d) := Eq.trans rfl rfl
@[simp] theorem orRet_inr {α τ : Type} (r : D → α) (k : τ → M α) (x : τ) : orRet r k (.inr x) = k x := Eq.trans rfl rfl
@[simp] theorem loopN_nil {τ : Type} (f : D → τ → M τ) (x : τ) : loopN f [] x = pure x := Eq.trans rfl rfl
@[simp] theorem loopN_cons {τ : Type} (f : D → τ → M τ) (d : D) (ds : List D) (x : τ) : loopN f (d :: ds) x = B (f d x) fun y => loopN f ds y := Eq.trans rfl rfl
@[simp] theorem loopS_nil {τ : Type} (f : D → τ → M (D ⊕ τ)) (x : τ) : loopS f [] x = pure (.inr x) := Eq.trans rfl rfl
theorem idxT {xs : List D} {n : Nat} {d : D} (h : xs[n]? = some d) : idxD (.tup xs) (.int n) = pure d ∧ idxD (.lst xs) (.int n) = pure d := by
  have hl : n < xs.length := (List.getElem?_eq_some_iff.mp h).1
  obtain ⟨x, _, hx, ha⟩ := atI_in (xs := xs) (i := n) (by omega) (by omega)
  rw [Int.toNat_natCast] at hx
  rw [h] at hx
  cases hx
  exact ⟨by unfold idxD; dsimp only; rw [ha], by unfold idxD; dsimp only; rw [ha]⟩
@[simp] theorem isNon_non : isNonD .non .non = pure (.bl true) := Eq.trans rfl rfl
@[simp] theorem isNon_bl (b : Bool) : isNonD (.bl b) .non = pure (.bl false) := Eq.trans rfl rfl
@[simp] theorem isNon_int (i : Int) : isNonD (.int i) .non = pure (.bl false) := Eq.trans rfl rfl
@[simp] theorem isNon_str (x : Str) : isNonD (.str x) .non = pure (.bl false) := Eq.trans rfl rfl
@[simp] theorem isNon_tup (x : List D) : isNonD (.tup x) .non = pure (.bl false) := Eq.trans rfl rfl
@[simp] theorem isNon_lst (x : List D) : isNonD (.lst x) .non = pure (.bl false) := Eq.trans rfl rfl
@[simp] theorem isNon_dic (k : List Key) (x : List D) : isNonD (.dic k x) .non = pure (.bl false) := Eq.trans rfl rfl
@[simp] theorem isNon_ins (c : Str) (k : List Str) (x : List D) : isNonD (.ins c k x) .non = pure (.bl false) := Eq.trans rfl rfl
@[simp] theorem notNon_non : notNonD .non .non = pure (.bl false) := Eq.trans rfl rfl
@[simp] theorem notNon_bl (b : Bool) : notNonD (.bl b) .non = pure (.bl true) := Eq.trans rfl rfl
@[simp] theorem notNon_int (i : Int) : notNonD (.int i) .non = pure (.bl true) := Eq.trans rfl rfl
@[simp] theorem notNon_str (x : Str) : notNonD (.str x) .non = pure (.bl true) := Eq.trans rfl rfl
@[simp] theorem notNon_tup (x : List D) : notNonD (.tup x) .non = pure (.bl true) := Eq.trans rfl rfl
@[simp] theorem notNon_lst (x : List D) : notNonD (.lst x) .non = pure (.bl true) := Eq.trans rfl rfl
@[simp] theorem notNon_dic (k : List Key) (x : List D) : notNonD (.dic k x) .non = pure (.bl true) := Eq.trans rfl rfl
@[simp] theorem notNon_ins (c : Str) (k : List Str) (x : List D) : notNonD (.ins c k x) .non = pure (.bl true) := Eq.trans rfl rfl
@[simp] theorem idx_tup0 (a : D) (xs : List D) : idxD (.tup (a :: xs)) (.int 0) = pure a := (idxT (n := 0) rfl).1
@[simp] theorem idx_tup1 (a b : D) (xs : List D) : idxD (.tup (a :: b :: xs)) (.int 1) = pure b := (idxT (n := 1) rfl).1
@[simp] theorem idx_tup2 (a b c : D) (xs : List D) : idxD (.tup (a :: b :: c :: xs)) (.int 2) = pure c := (idxT (n := 2) rfl).1
@[simp] theorem idx_tup3 (a b c d : D) (xs : List D) : idxD (.tup (a :: b :: c :: d :: xs)) (.int 3) = pure d := (idxT (n := 3) rfl).1
@[simp] theorem idx_lst0 (a : D) (xs : List D) : idxD (.lst (a :: xs)) (.int 0) = pure a := (idxT (n := 0) rfl).2
@[simp] theorem idx_lst1 (a b : D) (xs : List D) : idxD (.lst (a :: b :: xs)) (.int 1) = pure b := (idxT (n := 1) rfl).2
@[simp] theorem idx_lst2 (a b c : D) (xs : List D) : idxD (.lst (a :: b :: c :: xs)) (.int 2) = pure c := (idxT (n := 2) rfl).2
@[simp] theorem idx_lst3 (a b c d : D) (xs : List D) : idxD (.lst (a :: b :: c :: d :: xs)) (.int 3) = pure d := (idxT (n := 3) rfl).2
@[simp] theorem lstD_eq (xs : List D) : lstD xs = if xs.length ≤ sizeLine then pure (.lst xs) else stuck := Eq.trans rfl rfl
@[simp] theorem tupD_eq (xs : List D) : tupD xs = if xs.length ≤ sizeLine then pure (.tup xs) else stuck := Eq.trans rfl rfl
@[simp] theorem sizeL_eq (xs : List D) : sizeL xs = if xs.length ≤ sizeLine then pure xs else stuck := Eq.trans rfl rfl
@[simp] theorem addD_lst_eq (xs ys : List D) : addD (.lst xs) (.lst ys) = if xs.length + ys.length ≤ sizeLine then pure (.lst (xs ++ ys)) else stuck := Eq.trans rfl rfl
@[simp] theorem addD_str_eq (xs ys : Str) : addD (.str xs) (.str ys) = if xs.length + ys.length ≤ sizeLine then pure (.str (xs ++ ys)) else stuck := Eq.trans rfl rfl
@[simp] theorem lenD_str_eq (x : Str) : lenD [.str x] = if x.length ≤ sizeLine then pure (.int x.length) else stuck := Eq.trans rfl rfl
@[simp] theorem appO_eq (xs : List D) (y : D) : appO xs y = if xs.length < sizeLine then pure (xs ++ [y]) else stuck := Eq.trans rfl rfl
@[simp] theorem listF_lst (xs : List D) : listF (.lst xs) = pure xs := Eq.trans rfl rfl
@[simp] theorem listF_tup (xs : List D) : listF (.tup xs) = pure xs := Eq.trans rfl rfl
@[simp] theorem tupleD_lst (xs : List D) : tupleD [.lst xs] = pure (.tup xs) := Eq.trans rfl rfl
@[simp] theorem tupleD_tup (xs : List D) : tupleD [.tup xs] = pure (.tup xs) := Eq.trans rfl rfl
@[simp] theorem listD_lst (xs : List D) : listD [.lst xs] = pure (.lst xs) := Eq.trans rfl rfl
@[simp] theorem listD_tup (xs : List D) : listD [.tup xs] = pure (.lst xs) := Eq.trans rfl rfl
@[simp] theorem minD_2 (i j : Int) : minD [.int i, .int j] = pure (.int (if j < i then j else i)) := Eq.trans rfl rfl
@[simp] theorem maxD_2 (i j : Int) : maxD [.int i, .int j] = pure (.int (if j > i then j else i)) := Eq.trans rfl rfl
@[simp] theorem addD_tup (xs ys : List D) : addD (.tup xs) (.tup ys) = if xs.length + ys.length ≤ sizeLine then pure (.tup (xs ++ ys)) else stuck := Eq.trans rfl rfl
@[simp] theorem sliceD_lst (xs : List D) (lo hi : Option Int) : sliceD (.lst xs) lo hi = pure (.lst (cutL xs lo hi)) := Eq.trans rfl rfl
@[simp] theorem sliceD_tup (xs : List D) (lo hi : Option Int) : sliceD (.tup xs) lo hi = pure (.tup (cutL xs lo hi)) := Eq.trans rfl rfl
@[simp] theorem powD_109 : powD (.int 10) (.int 9) = pure (.int 1000000000) := Eq.trans rfl rfl
@[simp] theorem powD_1012 : powD (.int 10) (.int 12) = pure (.int 1000000000000) := Eq.trans rfl rfl
@[simp] theorem neD_lst_nil : neD (.lst []) (.lst []) = pure (.bl false) := Eq.trans rfl rfl
@[simp] theorem B_Bs {α β γ : Type} (m : M α) (f : α → M β) (g : β → M γ) (d : Dep f) (e : Dep g) : B (B m f d) g e = B m (fun x => B (f x) g e) := B_B m f g d e
@[simp] theorem tst_B {α : Type} (m : M α) (f : α → M D) (d : Dep f) : tst (B m f d) = B m (fun x => tst (f x)) := B_B ..
@[simp] theorem tNot_B {α : Type} (m : M α) (f : α → M Bool) (d : Dep f) : tNot (B m f d) = B m (fun x => tNot (f x)) := B_B ..
@[simp] theorem tAnd_B {α : Type} (m : M α) (f : α → M Bool) (n : M Bool) (d : Dep f) : tAnd (B m f d) n = B m (fun x => tAnd (f x) n) := B_B ..
@[simp] theorem tOr_B {α : Type} (m : M α) (f : α → M Bool) (n : M Bool) (d : Dep f) : tOr (B m f d) n = B m (fun x => tOr (f x) n) := B_B ..
@[simp] theorem eAnd_B {α : Type} (m : M α) (f : α → M D) (n : M D) (d : Dep f) : eAnd (B m f d) n = B m (fun x => eAnd (f x) n) := B_B ..
@[simp] theorem eOr_B {α : Type} (m : M α) (f : α → M D) (n : M D) (d : Dep f) : eOr (B m f d) n = B m (fun x => eOr (f x) n) := B_B ..
@[simp] theorem eNot_B {α : Type} (m : M α) (f : α → M D) (d : Dep f) : eNot (B m f d) = B m (fun x => eNot (f x)) := B_B ..
@[simp] theorem ifM_B {α β : Type} (m : M α) (f : α → M Bool) (x y : M β) (d : Dep f) : ifM (B m f d) x y = B m (fun z => ifM (f z) x y) := B_B ..
@[simp] theorem noE_B {α β : Type} (m : M α) (f : α → M β) (d : Dep f) : noE (B m f d) = B (noE m) (fun x => noE (f x)) := by
  funext S
  show (match (m S).andThen f with | .exc _ _ => Res.stuck | r => r) = (match m S with | .exc _ _ => Res.stuck | r => r).andThen fun x => noE (f x)
  cases m S <;> rfl
@[simp] theorem lendX_B {α : Type} (m : M α) (f : α → M D) (d : Dep f) : lendX (B m f d) = B (noE m) (fun x => lendX (f x)) := by
  unfold lendX
  rw [noE_B, B_B]
@[simp] theorem joinX_pure (s : Str) (m : M D) : joinX (pure (.str s)) m = B m fun y => joinD (.str s) y := Eq.trans rfl rfl
@[simp] theorem chainM_pure (f f' : D → D → M D) (x : D) (mb mc : M D) : chainM f f' (pure x) mb mc = B mb fun y => B (f x y) fun z => B (asB z) fun t => if t then B mc fun w => f' y w else pure (.bl false) := Eq.trans rfl rfl
@[simp] theorem tst_ite (c : Prop) [Decidable c] (a b : M D) : tst (if c then a else b) = if c then tst a else tst b := by split <;> rfl
@[simp] theorem B_ite {α β : Type} (c : Prop) [Decidable c] (a b : M α) (f : α → M β) (d : Dep f) : B (if c then a else b) f d = if c then B a f d else B b f d := by split <;> rfl
@[simp] theorem isi_int_non (cs : List Str) : isiD cs [.b "int"] .non = pure (.bl false) := Eq.trans rfl rfl
@[simp] theorem isi_int_bl (cs : List Str) (b : Bool) : isiD cs [.b "int"] (.bl b) = pure (.bl true) := Eq.trans rfl rfl
@[simp] theorem isi_int_int (cs : List Str) (i : Int) : isiD cs [.b "int"] (.int i) = pure (.bl true) := Eq.trans rfl rfl
@[simp] theorem isi_int_str (cs : List Str) (x : Str) : isiD cs [.b "int"] (.str x) = pure (.bl false) := Eq.trans rfl rfl
@[simp] theorem isi_int_tup (cs : List Str) (xs : List D) : isiD cs [.b "int"] (.tup xs) = pure (.bl false) := Eq.trans rfl rfl
@[simp] theorem isi_int_lst (cs : List Str) (xs : List D) : isiD cs [.b "int"] (.lst xs) = pure (.bl false) := Eq.trans rfl rfl
@[simp] theorem isi_int_dic (cs : List Str) (ks : List Key) (vs : List D) : isiD cs [.b "int"] (.dic ks vs) = pure (.bl false) := Eq.trans rfl rfl
theorem isi_int_ins {cs : List Str} {c : Str} (h : c ∈ cs) (ns : List Str) (fs : List D) : isiD cs [.b "int"] (.ins c ns fs) = pure (.bl false) := if_pos ⟨decide_eq_true h, rfl⟩
@[simp] theorem isi_bool_non (cs : List Str) : isiD cs [.b "bool"] .non = pure (.bl false) := Eq.trans rfl rfl
@[simp] theorem isi_bool_bl (cs : List Str) (b : Bool) : isiD cs [.b "bool"] (.bl b) = pure (.bl true) := Eq.trans rfl rfl
@[simp] theorem isi_bool_int (cs : List Str) (i : Int) : isiD cs [.b "bool"] (.int i) = pure (.bl false) := Eq.trans rfl rfl
@[simp] theorem isi_bool_str (cs : List Str) (x : Str) : isiD cs [.b "bool"] (.str x) = pure (.bl false) := Eq.trans rfl rfl
@[simp] theorem isi_bool_tup (cs : List Str) (xs : List D) : isiD cs [.b "bool"] (.tup xs) = pure (.bl false) := Eq.trans rfl rfl
@[simp] theorem isi_bool_lst (cs : List Str) (xs : List D) : isiD cs [.b "bool"] (.lst xs) = pure (.bl false) := Eq.trans rfl rfl
@[simp] theorem isi_bool_dic (cs : List Str) (ks : List Key) (vs : List D) : isiD cs [.b "bool"] (.dic ks vs) = pure (.bl false) := Eq.trans rfl rfl
theorem isi_bool_ins {cs : List Str} {c : Str} (h : c ∈ cs) (ns : List Str) (fs : List D) : isiD cs [.b "bool"] (.ins c ns fs) = pure (.bl false) := if_pos ⟨decide_eq_true h, rfl⟩
@[simp] theorem isi_str_non (cs : List Str) : isiD cs [.b "str"] .non = pure (.bl false) := Eq.trans rfl rfl
@[simp] theorem isi_str_bl (cs : List Str) (b : Bool) : isiD cs [.b "str"] (.bl b) = pure (.bl false) := Eq.trans rfl rfl
@[simp] theorem isi_str_int (cs : List Str) (i : Int) : isiD cs [.b "str"] (.int i) = pure (.bl false) := Eq.trans rfl rfl
@[simp] theorem isi_str_str (cs : List Str) (x : Str) : isiD cs [.b "str"] (.str x) = pure (.bl true) := Eq.trans rfl rfl
@[simp] theorem isi_str_tup (cs : List Str) (xs : List D) : isiD cs [.b "str"] (.tup xs) = pure (.bl false) := Eq.trans rfl rfl
@[simp] theorem isi_str_lst (cs : List Str) (xs : List D) : isiD cs [.b "str"] (.lst xs) = pure (.bl false) := Eq.trans rfl rfl
@[simp] theorem isi_str_dic (cs : List Str) (ks : List Key) (vs : List D) : isiD cs [.b "str"] (.dic ks vs) = pure (.bl false) := Eq.trans rfl rfl
theorem isi_str_ins {cs : List Str} {c : Str} (h : c ∈ cs) (ns : List Str) (fs : List D) : isiD cs [.b "str"] (.ins c ns fs) = pure (.bl false) := if_pos ⟨decide_eq_true h, rfl⟩
@[simp] theorem isi_tuple_non (cs : List Str) : isiD cs [.b "tuple"] .non = pure (.bl false) := Eq.trans rfl rfl
@[simp] theorem isi_tuple_bl (cs : List Str) (b : Bool) : isiD cs [.b "tuple"] (.bl b) = pure (.bl false) := Eq.trans rfl rfl
@[simp] theorem isi_tuple_int (cs : List Str) (i : Int) : isiD cs [.b "tuple"] (.int i) = pure (.bl false) := Eq.trans rfl rfl
@[simp] theorem isi_tuple_str (cs : List Str) (x : Str) : isiD cs [.b "tuple"] (.str x) = pure (.bl false) := Eq.trans rfl rfl
@[simp] theorem isi_tuple_tup (cs : List Str) (xs : List D) : isiD cs [.b "tuple"] (.tup xs) = pure (.bl true) := Eq.trans rfl rfl
@[simp] theorem isi_tuple_lst (cs : List Str) (xs : List D) : isiD cs [.b "tuple"] (.lst xs) = pure (.bl false) := Eq.trans rfl rfl
@[simp] theorem isi_tuple_dic (cs : List Str) (ks : List Key) (vs : List D) : isiD cs [.b "tuple"] (.dic ks vs) = pure (.bl false) := Eq.trans rfl rfl
theorem isi_tuple_ins {cs : List Str} {c : Str} (h : c ∈ cs) (ns : List Str) (fs : List D) : isiD cs [.b "tuple"] (.ins c ns fs) = pure (.bl false) := if_pos ⟨decide_eq_true h, rfl⟩
@[simp] theorem isi_list_non (cs : List Str) : isiD cs [.b "list"] .non = pure (.bl false) := Eq.trans rfl rfl
@[simp] theorem isi_list_bl (cs : List Str) (b : Bool) : isiD cs [.b "list"] (.bl b) = pure (.bl false) := Eq.trans rfl rfl
@[simp] theorem isi_list_int (cs : List Str) (i : Int) : isiD cs [.b "list"] (.int i) = pure (.bl false) := Eq.trans rfl rfl
@[simp] theorem isi_list_str (cs : List Str) (x : Str) : isiD cs [.b "list"] (.str x) = pure (.bl false) := Eq.trans rfl rfl
@[simp] theorem isi_list_tup (cs : List Str) (xs : List D) : isiD cs [.b "list"] (.tup xs) = pure (.bl false) := Eq.trans rfl rfl
@[simp] theorem isi_list_lst (cs : List Str) (xs : List D) : isiD cs [.b "list"] (.lst xs) = pure (.bl true) := Eq.trans rfl rfl
@[simp] theorem isi_list_dic (cs : List Str) (ks : List Key) (vs : List D) : isiD cs [.b "list"] (.dic ks vs) = pure (.bl false) := Eq.trans rfl rfl
@[simp] theorem isi_dict_non (cs : List Str) : isiD cs [.b "dict"] .non = pure (.bl false) := Eq.trans rfl rfl
@[simp] theorem isi_dict_bl (cs : List Str) (b : Bool) : isiD cs [.b "dict"] (.bl b) = pure (.bl false) := Eq.trans rfl rfl
@[simp] theorem isi_dict_int (cs : List Str) (i : Int) : isiD cs [.b "dict"] (.int i) = pure (.bl false) := Eq.trans rfl rfl
@[simp] theorem isi_dict_str (cs : List Str) (x : Str) : isiD cs [.b "dict"] (.str x) = pure (.bl false) := Eq.trans rfl rfl
@[simp] theorem isi_dict_tup (cs : List Str) (xs : List D) : isiD cs [.b "dict"] (.tup xs) = pure (.bl false) := Eq.trans rfl rfl
@[simp] theorem isi_dict_lst (cs : List Str) (xs : List D) : isiD cs [.b "dict"] (.lst xs) = pure (.bl false) := Eq.trans rfl rfl
@[simp] theorem isi_dict_dic (cs : List Str) (ks : List Key) (vs : List D) : isiD cs [.b "dict"] (.dic ks vs) = pure (.bl true) := Eq.trans rfl rfl
@[simp] theorem isi_lt_non (cs : List Str) : isiD cs [.b "list", .b "tuple"] .non = pure (.bl false) := Eq.trans rfl rfl
@[simp] theorem isi_lt_bl (cs : List Str) (b : Bool) : isiD cs [.b "list", .b "tuple"] (.bl b) = pure (.bl false) := Eq.trans rfl rfl
@[simp] theorem isi_lt_int (cs : List Str) (i : Int) : isiD cs [.b "list", .b "tuple"] (.int i) = pure (.bl false) := Eq.trans rfl rfl
@[simp] theorem isi_lt_str (cs : List Str) (x : Str) : isiD cs [.b "list", .b "tuple"] (.str x) = pure (.bl false) := Eq.trans rfl rfl
@[simp] theorem isi_lt_tup (cs : List Str) (xs : List D) : isiD cs [.b "list", .b "tuple"] (.tup xs) = pure (.bl true) := Eq.trans rfl rfl
@[simp] theorem isi_lt_lst (cs : List Str) (xs : List D) : isiD cs [.b "list", .b "tuple"] (.lst xs) = pure (.bl true) := Eq.trans rfl rfl
@[simp] theorem isi_lt_dic (cs : List Str) (ks : List Key) (vs : List D) : isiD cs [.b "list", .b "tuple"] (.dic ks vs) = pure (.bl false) := Eq.trans rfl rfl
theorem isi_o_ins {cs : List Str} {o c : Str} (h : o ∈ cs) (h2 : c ∈ cs) (ns : List Str) (fs : List D) : isiD cs [.o o] (.ins c ns fs) = pure (.bl (decide (c = o))) := by
  unfold isiD
  exact (if_pos ⟨decide_eq_true h2, by simp [tyOk, h]⟩).trans (by simp [isKind])
def flatN : Nat → D → Bool
  | _, .non => true
  | _, .bl _ => true
  | _, .int _ => true
  | _, .str x => PyData.canLay0 (.str x)
  | n + 1, .tup xs => xs.all (flatN n)
  | n + 1, .lst xs => xs.all (flatN n)
  | _, _ => false
theorem toPyL_of {n : Nat} (ih : ∀ d, flatN n d = true → ∃ x, toPy d = some x ∧ PyData.canLay0 x = true ∧ PyData.depth x ≤ n) : ∀ (ds : List D), ds.all (flatN n) = true → ∃ xs, toPyL ds = some xs ∧ PyData.canLayAll0 xs = true ∧ PyData.depthAll xs ≤ n ∧ xs.length = ds.length
  | [], _ => ⟨[], rfl, rfl, Nat.zero_le _, rfl⟩
  | d :: ds, h => by
    rw [List.all_cons, Bool.and_eq_true] at h
    obtain ⟨x, h1, h2, h3⟩ := ih d h.1
    obtain ⟨xs, k1, k2, k3, k4⟩ := toPyL_of ih ds h.2
    refine ⟨x :: xs, ?_, ?_, ?_, by rw [List.length_cons, k4, List.length_cons]⟩
    · show (match toPy d, toPyL ds with | some y, some ys => some (y :: ys) | _, _ => none) = _
      rw [h1, k1]
    · show (PyData.canLay0 x && PyData.canLayAll0 xs) = true
      rw [h2, k2]; rfl
    · show max (PyData.depth x) (PyData.depthAll xs) ≤ n
      omega
theorem flatN_py : ∀ (n : Nat) (d : D), flatN n d = true → ∃ x, toPy d = some x ∧ PyData.canLay0 x = true ∧ PyData.depth x ≤ n
  | _, .non, _ => ⟨_, rfl, rfl, Nat.zero_le _⟩
  | _, .bl _, _ => ⟨_, rfl, rfl, Nat.zero_le _⟩
  | _, .int _, _ => ⟨_, rfl, rfl, Nat.zero_le _⟩
  | 0, .str x, h => ⟨_, rfl, h, Nat.zero_le _⟩
  | n + 1, .str x, h => ⟨_, rfl, h, Nat.zero_le _⟩
  | 0, .tup _, h => by cases h
  | 0, .lst _, h => by cases h
  | n + 1, .tup ds, h => by
    obtain ⟨xs, k1, k2, k3, _⟩ := toPyL_of (flatN_py n) ds h
    exact ⟨.tuple xs, by show (toPyL ds).map _ = _; rw [k1]; rfl, k2, by show PyData.depthAll xs + 1 ≤ n + 1; omega⟩
  | n + 1, .lst ds, h => by
    obtain ⟨xs, k1, k2, k3, _⟩ := toPyL_of (flatN_py n) ds h
    exact ⟨.list xs, by show (toPyL ds).map _ = _; rw [k1]; rfl, k2, by show PyData.depthAll xs + 1 ≤ n + 1; omega⟩
  | 0, .ins _ _ _, h => by cases h
  | _ + 1, .ins _ _ _, h => by cases h
  | 0, .mref _, h => by cases h
  | _ + 1, .mref _, h => by cases h
  | 0, .dic _ _, h => by cases h
  | _ + 1, .dic _ _, h => by cases h
  | 0, .scr _, h => by cases h
  | _ + 1, .scr _, h => by cases h
  | 0, .xcp _ _ _, h => by cases h
  | _ + 1, .xcp _ _ _, h => by cases h
  | 0, .dct _ _, h => by cases h
  | _ + 1, .dct _ _, h => by cases h
theorem shaped_of {x : PyData} {n : Nat} (h : PyData.canLay0 x = true) (h2 : PyData.depth x ≤ n) (hn : n ≤ 64) : SeqAt.shaped x = true := by
  unfold SeqAt.shaped
  rw [h, decide_eq_true (by omega : PyData.depth x ≤ 64)]; rfl
theorem nil_eq {n : Nat} {ds : List D} (h : ds.all (flatN n) = true) (hn : n < 64) : eqD (.lst ds) (.lst []) = pure (.bl ds.isEmpty) ∧ neD (.lst ds) (.lst []) = pure (.bl (!ds.isEmpty)) := by
  obtain ⟨xs, k1, k2, k3, k4⟩ := toPyL_of (flatN_py n) ds h
  have e1 : toPy (.lst ds) = some (.list xs) := by show (toPyL ds).map _ = _; rw [k1]; rfl
  have sh : SeqAt.shaped (.list xs) = true := shaped_of (n := n + 1) k2 (by show PyData.depthAll xs + 1 ≤ n + 1; omega) (by omega)
  have key : ∀ neg, eqDeep neg (.lst ds) (.lst []) = pure (.bl (if neg then !ds.isEmpty else ds.isEmpty)) := fun neg => by
    unfold eqDeep
    rw [e1]
    show (if SeqAt.shaped _ = true ∧ SeqAt.shaped (.list []) = true then _ else _) = _
    rw [if_pos ⟨sh, rfl⟩]
    have : PyData.eqv (.list xs) (.list []) = ds.isEmpty := by
      cases xs with
      | nil =>
        have : ds = [] := List.length_eq_zero_iff.mp k4.symm
        rw [this]; rfl
      | cons y ys =>
        cases ds with
        | nil => cases k4
        | cons _ _ => rfl
    rw [this]
  exact ⟨key false, key true⟩
theorem lcX_pure {mt : D → M Bool} {me : D → M D} (c : D → Bool) (f : D → D) : ∀ (ds acc : List D), (∀ d ∈ ds, mt d = pure (c d) ∧ (c d = true → me d = pure (f d))) → acc.length + ds.length ≤ sizeLine → lcX mt me ds acc = pure (acc ++ (ds.filter c).map f)
  | [], acc, _, _ => by simp [lcX]
  | d :: ds, acc, h, hl => by
    obtain ⟨h1, h2⟩ := h d (List.mem_cons_self ..)
    rw [List.length_cons] at hl
    unfold lcX
    rw [h1, B_pure]
    by_cases q : c d = true
    · rw [if_pos q, h2 q, B_pure, if_pos (by omega), lcX_pure c f ds (acc ++ [f d]) (fun z hz => h z (List.mem_cons_of_mem _ hz)) (by rw [List.length_append]; simp; omega), List.filter_cons_of_pos q]
      simp
    · rw [if_neg q, lcX_pure c f ds acc (fun z hz => h z (List.mem_cons_of_mem _ hz)) (by omega), List.filter_cons_of_neg q]
theorem lc_pureF {mt : D → M Bool} {me : D → M D} {ds : List D} (c : D → Bool) (f : D → D) (h : ∀ d ∈ ds, mt d = pure (c d) ∧ (c d = true → me d = pure (f d))) (hl : ds.length ≤ sizeLine) : lc mt me ds = pure ((ds.filter c).map f) := by
  unfold lc
  rw [lcX_pure c f ds [] h (by simpa using hl)]; rfl
theorem lc_map {me : D → M D} {ds : List D} (f : D → D) (h : ∀ d ∈ ds, me d = pure (f d)) (hl : ds.length ≤ sizeLine) : lc (fun _ => pure true) me ds = pure (ds.map f) := by
  rw [lc_pureF (fun _ => true) f (fun d hd => ⟨rfl, fun _ => h d hd⟩) hl, List.filter_eq_self.mpr fun _ _ => rfl]
theorem loopN_pure {τ : Type} {f : D → τ → M τ} (g : D → τ → τ) : ∀ (ds : List D) (x : τ), (∀ d ∈ ds, ∀ x, f d x = pure (g d x)) → loopN f ds x = pure (ds.foldl (fun x d => g d x) x)
  | [], x, _ => rfl
  | d :: ds, x, h => by
    rw [loopN_cons, h d (List.mem_cons_self ..) x, B_pure, loopN_pure g ds _ fun z hz => h z (List.mem_cons_of_mem _ hz)]
    rfl
section
variable [Pre]
theorem HT.B {α β : Type} {n k : Nat} {m : M α} {f : α → M β} {P : α → Prop} {Q : β → Prop} (h : HT n m P) (hf : ∀ a, P a → HT k (f a) Q) : HT (n + k) (RM.B m f) Q := HT.bind h hf
theorem HT.C {α β : Type} {n k : Nat} {m : M α} {f : α → M β} {P : α → Prop} {Q : β → Prop} (h : HT n m P) (hf : ∀ a, P a → HT k (f a) Q) : HT (k + n) (RM.B m f) Q := by rw [Nat.add_comm]; exact HT.bind h hf
theorem HT.Bp {α β : Type} {k : Nat} {m : M α} {f : α → M β} {x : α} {Q : β → Prop} (h : m = Pure.pure x) (hf : HT k (f x) Q) : HT k (RM.B m f) Q := by rw [h, B_pure]; exact hf
theorem HT.p0 {α : Type} {P : α → Prop} {x : α} (h : P x) (n : Nat := 0) : HT n (Pure.pure x : M α) P := HT.mono (HT.pure h) (Nat.zero_le _) fun _ h => h
theorem HT.e0 {α : Type} {x : α} {n : Nat} : HT n (Pure.pure x : M α) fun r => r = x := HT.p0 (P := fun r => r = x) rfl n
theorem HT.le {α : Type} {n k : Nat} {m : M α} {P : α → Prop} (h : HT n m P) (hn : n ≤ k) : HT k m P := HT.mono h hn fun _ h => h
theorem HT.imp {α : Type} {n : Nat} {m : M α} {P Q : α → Prop} (h : HT n m P) (hp : ∀ a, P a → Q a) : HT n m Q := HT.mono h (Nat.le_refl _) hp
theorem HT.drawI {n : Int} (hn : 0 < n) (hl : n < 18446744073709551616 := by omega) : HT 1 (drawM [.mref Pre.ix, .int n]) fun d => ∃ k, d = .int k ∧ 0 ≤ k ∧ k < n := drawM_ok hn (by
  have h2 : n.natAbs ≠ 0 := by omega
  have := (Nat.log2_lt h2 (k := 64)).mpr (by omega)
  omega)
theorem HT.draw {β : Type} {n : Int} {k : Nat} {f : D → M β} {Q : β → Prop} (hn : 0 < n) (hf : ∀ i, 0 ≤ i → i < n → HT k (f (.int i)) Q) (hl : n < 18446744073709551616 := by omega) : HT (k + 1) (RM.B (drawM [.mref Pre.ix, .int n]) f) Q := HT.C (HT.drawI hn hl) (by rintro _ ⟨i, rfl, h0, h1⟩; exact hf i h0 h1)
theorem HT.lend {n : Nat} {m : M D} {P : D → Prop} (h : HT n m P) (hp : ∀ d, P d → noLst d = true) : HT n (lendX m) P := by
  unfold lendX
  refine HT.le (HT.C (k := 0) (HT.noE h) fun d hd => ?_) (by omega)
  rw [if_pos (hp d hd)]
  exact HT.p0 hd
theorem ht_loopAux {τ : Type} {f : D → τ → M τ} {n N : Nat} {J : Nat → τ → Prop} : ∀ (ds : List D) (i : Nat) (x : τ), i + ds.length = N → J i x → (∀ d ∈ ds, ∀ i x, i < N → J i x → HT n (f d x) (J (i + 1))) → HT (ds.length * n) (loopN f ds x) (J N)
  | [], i, x, e, h, _ => by
    have : i = N := by simpa using e
    subst this
    exact HT.p0 h _
  | d :: ds, i, x, e, h, hf => by
    have sz : (d :: ds).length * n = n + ds.length * n := by rw [List.length_cons, Nat.add_mul, Nat.one_mul, Nat.add_comm]
    rw [List.length_cons] at e
    rw [sz, loopN_cons]
    refine HT.B (hf d (List.mem_cons_self ..) i x (by omega) h) fun y hy => ?_
    exact ht_loopAux ds (i + 1) y (by omega) hy fun z hz => hf z (List.mem_cons_of_mem _ hz)
theorem ht_loop0 {τ : Type} {f : D → τ → M τ} {n : Nat} (J : Nat → τ → Prop) (ds : List D) (x : τ) (h : J 0 x) (hf : ∀ d ∈ ds, ∀ i x, i < ds.length → J i x → HT n (f d x) (J (i + 1))) : HT (ds.length * n) (loopN f ds x) (J ds.length) := ht_loopAux ds 0 x (by omega) h hf
theorem ht_loopS {τ : Type} {f : D → τ → M (D ⊕ τ)} {n : Nat} {J : τ → Prop} : ∀ (ds : List D) (x : τ), J x → (∀ d ∈ ds, ∀ x, J x → HT n (f d x) fun r => ∃ y, r = .inr y ∧ J y) → HT (ds.length * n) (loopS f ds x) fun r => ∃ y, r = .inr y ∧ J y
  | [], x, h, _ => HT.p0 ⟨x, rfl, h⟩ _
  | d :: ds, x, h, hf => by
    have sz : (d :: ds).length * n = n + ds.length * n := by rw [List.length_cons, Nat.add_mul, Nat.one_mul, Nat.add_comm]
    rw [sz]
    show HT _ (RM.B (f d x) _) _
    refine HT.B (hf d (List.mem_cons_self ..) x h) ?_
    rintro r ⟨y, rfl, hy⟩
    exact ht_loopS ds y hy fun z hz => hf z (List.mem_cons_of_mem _ hz)
theorem ht_loopU {f : D → Unit → M (D ⊕ Unit)} {n : Nat} {ds : List D} (hf : ∀ d ∈ ds, HT n (f d ()) fun r => r = .inr ()) : HT (ds.length * n) (loopS f ds ()) fun r => r = .inr () := by
  refine HT.imp (ht_loopS (J := fun _ => True) ds () trivial fun d hd x _ => HT.imp (hf d hd) fun r e => ⟨(), e, trivial⟩) ?_
  rintro r ⟨y, rfl, _⟩
  rfl
end
theorem rangeD_one {j : Int} (h0 : 0 ≤ j) (h1 : j < 1000000) : rangeD [.int j] = pure (rangeL 0 j) := if_pos ⟨by omega, by omega⟩
theorem rangeL_length (i j : Int) : (rangeL i j).length = (j - i).toNat := by unfold rangeL; simp
theorem idx_at {xs : List D} {i : Int} (h0 : 0 ≤ i) (h1 : i < xs.length) : ∃ d, d ∈ xs ∧ xs[i.toNat]? = some d ∧ idxD (.lst xs) (.int i) = pure d ∧ idxD (.tup xs) (.int i) = pure d := by
  obtain ⟨d, hm, hg, ha⟩ := atI_in h0 h1
  exact ⟨d, hm, hg, by unfold idxD; dsimp only; rw [ha], by unfold idxD; dsimp only; rw [ha]⟩
theorem good_begun (ns : List Int) (h : ns.length ≤ 63) : Good (begun ns) := by
  have ab : ∀ z : Int, 0 ≤ absI z := fun z => by unfold absI; split <;> omega
  refine ⟨fun z hz => ?_, fun z hz => ?_, Int.le_refl 0, Int.le_refl 0, ?_⟩
  · obtain ⟨c, hc, rfl⟩ := List.mem_map.mp hz
    have := of_decide_eq_true (List.mem_filter.mp hc).2
    omega
  · obtain ⟨c, _, rfl⟩ := List.mem_map.mp hz
    exact ab c
  · show (List.map _ (List.filter _ (List.map absI ns))).length ≤ 1000
    rw [List.length_map]
    have h1 := List.length_filter_le (fun c => decide (10 ^ 18 ≤ c)) (ns.map absI)
    rw [List.length_map] at h1
    omega
theorem begun_run [Pre] (ns : List Int) (h : ns.length ≤ 63) : begunD [.scr ns] Pre.pre = .ok (.mref Pre.ix) (@onT _ ⟨[]⟩ (begun ns)) := by
  show (if ns.length ≤ 1000 then Res.ok (D.mref Pre.pre.length) (Pre.pre ++ [.tape (begun ns)]) else .stuck) = _
  rw [if_pos (by omega), Pre.hx]
  rfl
theorem law_run [Pre] {ns : List Int} (h : ns.length ≤ 63) {k : D → M D} {n : Nat} (hn : n ≤ 1000000000000) (hk : HT n (k (.mref Pre.ix)) fun d => d = .bl true) : ∃ S', (B (begunD [.scr ns]) k) Pre.pre = .ok (.bl true) S' := by
  obtain ⟨a, t', e, _, _, rfl⟩ := hk ⟨[]⟩ (begun ns) (good_begun ns h) (by show (0 : Int) + _ ≤ _; omega)
  refine ⟨@onT _ ⟨[]⟩ t', ?_⟩
  show (begunD [.scr ns] Pre.pre).andThen k = _
  rw [begun_run ns h]
  exact e
@[simp] theorem putX4_0 (a b c d y : D) : putX [a, b, c, d] y (.int 0) = pure [y, b, c, d] := Eq.trans rfl rfl
@[simp] theorem putX4_1 (a b c d y : D) : putX [a, b, c, d] y (.int 1) = pure [a, y, c, d] := Eq.trans rfl rfl
@[simp] theorem putX4_2 (a b c d y : D) : putX [a, b, c, d] y (.int 2) = pure [a, b, y, d] := Eq.trans rfl rfl
@[simp] theorem putX4_3 (a b c d y : D) : putX [a, b, c, d] y (.int 3) = pure [a, b, c, y] := Eq.trans rfl rfl
@[simp] theorem sizeLine_v : sizeLine = 16777216 := PySem.sizeLine_eq
end RM

namespace RM
open PySem PySem.Spec PyProof.Rows L2
variable [PgW]
mutual
def wt : PyData → Nat
  | .list xs => wts xs + 2
  | .tuple xs => wts xs + 3
  | .none => 4
  | .bool _ => 5
  | .int i => (PyData.shown (.int i)).length
  | .str x => (PyData.shown (.str x)).length
  | .dict kvs => (PyData.shown (.dict kvs)).length
def wts : List PyData → Nat
  | [] => 0
  | x :: xs => wt x + 2 + wts xs
end
def lens (ts : List Str) : Nat := (ts.map fun t => t.length + 2).sum
theorem textFrom_le : ∀ (ts : List Str) (k : Nat) (acc : Str), (textFrom k acc ts).length ≤ acc.length + lens ts
  | [], k, acc => by show acc.length ≤ acc.length + _; omega
  | t :: ts, k, acc => by
    have ih := textFrom_le ts (k + 1) (acc ++ (if k > 0 then ", " else "" : String) ++ t)
    have e : (acc ++ (if k > 0 then ", " else "" : String) ++ t).length ≤ acc.length + 2 + t.length := by
      rw [strLen_append, strLen_append]
      have : (Str.ofString (if k > 0 then ", " else "" : String)).length ≤ 2 := by split <;> decide
      omega
    show (textFrom (k + 1) (acc ++ (if k > 0 then ", " else "" : String) ++ t) ts).length ≤ _
    unfold lens at ih ⊢
    rw [List.map_cons, List.sum_cons]
    omega
theorem join_le : ∀ ts : List Str, (Str.join ", " ts).length ≤ lens ts
  | [] => Nat.zero_le _
  | [x] => by show x.length ≤ _; unfold lens; simp
  | x :: y :: r => by
    have ih := join_le (y :: r)
    show (x ++ ", " ++ Str.join ", " (y :: r)).length ≤ _
    rw [strLen_append, strLen_append]
    have : ((", " : String) : Str).length = 2 := rfl
    unfold lens at ih ⊢
    rw [List.map_cons, List.sum_cons]
    omega
mutual
theorem shown_le : ∀ x : PyData, (PyData.shown x).length ≤ wt x
  | .none => by decide +kernel
  | .bool true => by decide +kernel
  | .bool false => by decide +kernel
  | .int i => Nat.le_refl _
  | .str x => Nat.le_refl _
  | .dict kvs => Nat.le_refl _
  | .list xs => by
    have ih := shownAll_le xs
    show (listText (PyData.shownAll xs)).length ≤ wts xs + 2
    unfold listText
    rw [strLen_append]
    have := textFrom_le (PyData.shownAll xs) 0 "["
    have e1 : (("[" : String) : Str).length = 1 := rfl
    have e2 : (("]" : String) : Str).length = 1 := rfl
    omega
  | .tuple xs => by
    have ih := shownAll_le xs
    show (tupleText (PyData.shownAll xs)).length ≤ wts xs + 3
    unfold tupleText
    rw [strLen_append, strLen_append]
    have := join_le (PyData.shownAll xs)
    have e1 : (("(" : String) : Str).length = 1 := rfl
    have e2 : (Str.ofString (if (PyData.shownAll xs).length == 1 then ",)" else ")" : String)).length ≤ 2 := by split <;> decide
    omega
theorem shownAll_le : ∀ xs : List PyData, lens (PyData.shownAll xs) ≤ wts xs
  | [] => Nat.le_refl _
  | x :: xs => by
    have h1 := shown_le x
    have h2 := shownAll_le xs
    show lens (PyData.shown x :: PyData.shownAll xs) ≤ wt x + 2 + wts xs
    unfold lens at h2 ⊢
    rw [List.map_cons, List.sum_cons]
    omega
end
end RM

namespace RM
open PySem PySem.Spec PyProof.Rows L2
variable [PgW]
mutual
def rp : PyData → Bool
  | .none => true
  | .bool _ => true
  | .int i => decide (i.natAbs < 10 ^ 12)
  | .str x => PyData.canLay0 (.str x)
  | .list xs => rps xs
  | .tuple xs => rps xs
  | .dict _ => false
def rps : List PyData → Bool
  | [] => true
  | x :: xs => rp x && rps xs
end
theorem show_small {i : Int} (h : i.natAbs < 10 ^ 12) : PyData.showable (.int i) = true := by
  show decide (i.natAbs.log2 < 1920) = true
  refine decide_eq_true ?_
  by_cases z : i.natAbs = 0
  · rw [z]; decide
  · exact (Nat.log2_lt z).mpr (Nat.lt_trans h (by decide +kernel))
mutual
theorem rp_ok : ∀ x : PyData, rp x = true → x.canLay0 = true ∧ x.intsShort 13 = true ∧ x.showable = true
  | .none, _ => ⟨rfl, rfl, rfl⟩
  | .bool _, _ => ⟨rfl, rfl, rfl⟩
  | .int i, h => by
    have h : i.natAbs < 10 ^ 12 := of_decide_eq_true h
    exact ⟨rfl, decide_eq_true (PyData.shown_int_le h), show_small h⟩
  | .str x, h => ⟨h, rfl, rfl⟩
  | .list xs, h => rps_ok xs h
  | .tuple xs, h => rps_ok xs h
  | .dict _, h => by cases h
theorem rps_ok : ∀ xs : List PyData, rps xs = true → PyData.canLayAll0 xs = true ∧ PyData.intsShortAll 13 xs = true ∧ PyData.showableAll xs = true
  | [], _ => ⟨rfl, rfl, rfl⟩
  | x :: xs, h => by
    have h : (rp x && rps xs) = true := h
    rw [Bool.and_eq_true] at h
    obtain ⟨a, b, c⟩ := rp_ok x h.1
    obtain ⟨d, e, f⟩ := rps_ok xs h.2
    refine ⟨?_, ?_, ?_⟩
    · show (PyData.canLay0 x && PyData.canLayAll0 xs) = true
      rw [a, d]; rfl
    · show (PyData.intsShort 13 x && PyData.intsShortAll 13 xs) = true
      rw [b, e]; rfl
    · show (PyData.showable x && PyData.showableAll xs) = true
      rw [c, f]; rfl
end
theorem repr_rp {d : D} {x : PyData} (h : toPy d = some x) (r : rp x = true) (dp : x.depth ≤ 64) (w : x.weight ≤ 2 ^ 20) : reprD [d] = pure (.str x.shown) := by
  obtain ⟨a, b, c⟩ := rp_ok x r
  unfold reprD
  dsimp only
  rw [h]
  exact if_pos ⟨c, dp, PyData.shown_fits (by decide) (by decide) (PyData.leavesShort_of_canLay0 13 x a b) w⟩
structure Rp (n w : Nat) (d : D) : Prop where
  ex : ∃ x, toPy d = some x ∧ rp x = true ∧ x.depth ≤ n ∧ x.weight ≤ w
theorem Rp.le {n w n' w' : Nat} {d : D} (h : Rp n w d) (h1 : n ≤ n') (h2 : w ≤ w') : Rp n' w' d := by
  obtain ⟨x, a, b, c, e⟩ := h.ex
  exact ⟨x, a, b, by omega, by omega⟩
theorem Rp.repr {n w : Nat} {d : D} (h : Rp n w d) (hn : n ≤ 64) (hw : w ≤ 1000000) : ∃ s, reprD [d] = pure (.str s) := by
  obtain ⟨x, a, b, c, e⟩ := h.ex
  exact ⟨_, repr_rp a b (by omega) (by have : (2 : Nat) ^ 20 = 1048576 := by decide
                                       omega)⟩
structure RpL (n w : Nat) (ds : List D) : Prop where
  ex : ∃ xs, toPyL ds = some xs ∧ rps xs = true ∧ PyData.depthAll xs ≤ n ∧ PyData.weightAll xs ≤ w
theorem Rp.non : Rp 0 0 .non := ⟨_, rfl, rfl, Nat.le_refl _, Nat.le_refl _⟩
theorem Rp.bl (b : Bool) : Rp 0 0 (.bl b) := ⟨_, rfl, rfl, Nat.le_refl _, Nat.le_refl _⟩
theorem Rp.int {i : Int} (h : i.natAbs < 10 ^ 12) : Rp 0 50 (.int i) := by
  refine ⟨_, rfl, decide_eq_true h, Nat.le_refl _, ?_⟩
  show (if i == 0 then 0 else i.natAbs.log2 + 1) ≤ 50
  split
  · omega
  · rename_i z
    have z : i.natAbs ≠ 0 := fun e => z (by have : i = 0 := by omega
                                            rw [this]; rfl)
    have := (Nat.log2_lt z).mpr (Nat.lt_trans h (show 10 ^ 12 < 2 ^ 49 by decide +kernel))
    omega
theorem Rp.str {x : Str} {w : Nat} (h : PyData.canLay0 (.str x) = true) (hw : x.cps.size ≤ w) : Rp 0 w (.str x) := ⟨_, rfl, h, Nat.le_refl _, hw⟩
theorem RpL.nil : RpL 0 0 [] := ⟨_, rfl, rfl, Nat.le_refl _, Nat.le_refl _⟩
theorem RpL.cons {n n' w w' : Nat} {d : D} {ds : List D} (h : Rp n w d) (t : RpL n' w' ds) : RpL (max n n') (w + 1 + w') (d :: ds) := by
  obtain ⟨x, a, b, c, e⟩ := h.ex
  obtain ⟨xs, a', b', c', e'⟩ := t.ex
  refine ⟨x :: xs, ?_, ?_, ?_, ?_⟩
  · show (match toPy d, toPyL ds with | some y, some ys => some (y :: ys) | _, _ => none) = _
    rw [a, a']
  · show (rp x && rps xs) = true
    rw [b, b']; rfl
  · show max (PyData.depth x) (PyData.depthAll xs) ≤ _
    omega
  · show PyData.weight x + 1 + PyData.weightAll xs ≤ _
    omega
theorem RpL.le {n w n' w' : Nat} {ds : List D} (h : RpL n w ds) (h1 : n ≤ n') (h2 : w ≤ w') : RpL n' w' ds := by
  obtain ⟨x, a, b, c, e⟩ := h.ex
  exact ⟨x, a, b, by omega, by omega⟩
theorem RpL.all {n w : Nat} : ∀ {ds : List D}, (∀ d ∈ ds, Rp n w d) → RpL n (ds.length * (w + 1)) ds
  | [], _ => RpL.nil.le (by omega) (by omega)
  | d :: ds, h => (RpL.cons (h d (by simp)) (RpL.all fun x hx => h x (List.mem_cons_of_mem _ hx))).le (by omega) (by rw [List.length_cons, Nat.add_mul]; omega)
theorem Rp.tup {n w : Nat} {ds : List D} (h : RpL n w ds) : Rp (n + 1) w (.tup ds) := by
  obtain ⟨xs, a, b, c, e⟩ := h.ex
  refine ⟨.tuple xs, ?_, b, ?_, e⟩
  · show (toPyL ds).map _ = _
    rw [a]; rfl
  · show PyData.depthAll xs + 1 ≤ _
    omega
theorem Rp.lst {n w : Nat} {ds : List D} (h : RpL n w ds) : Rp (n + 1) w (.lst ds) := by
  obtain ⟨xs, a, b, c, e⟩ := h.ex
  refine ⟨.list xs, ?_, b, ?_, e⟩
  · show (toPyL ds).map _ = _
    rw [a]; rfl
  · show PyData.depthAll xs + 1 ≤ _
    omega
end RM

namespace RM
open PySem PySem.Spec PyProof.Rows L2
variable [PgW]
theorem meets_enumB1 {v : Value} {o : Obj} {H : Heap → Prop} (B : Begins v o H) :
    Meets (Builtin.«enumerate.__new__» ⟨[.type "enumerate", v], []⟩) (fun _ R s => H s.heap ∧
      R (.ok (.ret (.ref (s.heap.push o).objs.size))) { s with heap := (s.heap.push o).push { cls := .type "enumerate", data := .fields #[.none, .bool false, .ref s.heap.objs.size, rawInt 0, .none, .none] } }) :=
  .of_wp fun prog w A R s h => by
    obtain ⟨hp, g, d, tk, os⟩ := s; obtain ⟨h1, h⟩ := h
    have hsub := sub_enumerate
    have q1 : ∀ {A' : Around} {E : Value → Shared → Prop} {Q : Value → Shared → Prop}, Q (.ref hp.objs.size) ⟨hp.push o, g, d, tk, os⟩ → wpAny (model prog w) A' (pyIter v) Q E ⟨hp, g, d, tk, os⟩ :=
      fun q => B.iter prog w _ _ ⟨hp, g, d, tk, os⟩ _ h1 q
    wp_walk using q1
    refine wpAny_stack_any fun st => wpAny_pure ?_
    split
    · rename_i c _ _ _ _ _
      cases (c == Value.type "enumerate")
      · wp_walk using q1
        exact ⟨_, rfl, h⟩
      · wp_walk using q1
        exact ⟨_, rfl, h⟩
    · wp_walk using q1
      exact ⟨_, rfl, h⟩
theorem call_enumB1 {prog : Program} {w : World} {A : Around} {E : Value → Shared → Prop} {s : Shared} {v : Value} {o : Obj} {H : Heap → Prop} {Q : Value → Shared → Prop} (B : Begins v o H) (h1 : H s.heap)
    (h : ∀ h', IsEnum h' (s.heap.objs.size + 1) s.heap.objs.size 0 .none → h'.get? s.heap.objs.size = some o → h'.objs.size = s.heap.objs.size + 2 →
      (∀ b o, s.heap.get? b = some o → h'.get? b = some o) → Q (.ref (s.heap.objs.size + 1)) { s with heap := h' }) :
    wpAny (model prog w) A (call (.type "enumerate") [v]) Q E s := by
  refine callType_new F.called_enumerate (by decide) (F.typeCall_enumerate_1 _) (F.newCall_enumerate_1 _) (fun obj => F.args_object_init_2 obj _) F.entry_enumerate_new
    (meets_enumB1 B) ⟨h1, ?_⟩
  have hz : (s.heap.push o).objs.size = s.heap.objs.size + 1 := Heap.size_push ..
  show _ ∧ _
  rw [hz]
  have he : IsEnum ((s.heap.push o).push { cls := .type "enumerate", data := .fields #[.none, .bool false, .ref s.heap.objs.size, rawInt 0, .none, .none] }) (s.heap.objs.size + 1) s.heap.objs.size 0 .none := by
    have := Heap.get?_push_size (s.heap.push o) (o := { cls := .type "enumerate", data := .fields #[.none, .bool false, .ref s.heap.objs.size, rawInt 0, .none, .none] }) rfl
    rw [hz] at this; exact this
  refine ⟨⟨_, he, rfl⟩, h _ he (Heap.get?_push_of_some _ (Heap.get?_push_size _ B.free)) (by rw [Heap.size_push, hz]) fun b o x => Heap.get?_push_of_some _ (Heap.get?_push_of_some _ x)⟩
def IteT (K : PySem.W.Frag) (a : Addr) : It :=
  ⟨fun i H => ∃ (xs : List V) (x : V), SqT K H a xs ∧ xs[i]? = some x, fun i H v H' => ∃ T x, v = .ref T ∧ H T = none ∧ H' = upd H T (.tup [.int (i : Nat), x]) ∧ ∀ xs, SqT K H a xs → xs[i]? = some x, fun i H => ∃ xs : List V, SqT K H a xs ∧ xs.length ≤ i⟩
theorem turn_enumT {P : Program} {w : World} {K : PySem.W.Frag} {elts : List Expr} {kk : Nat} {tpos : Pos} (a e it : Addr) (hai : a ≠ it) (hea : e ≠ a) :
    Turn P w K (.Tuple elts kk tpos) (IteT K a) [e, it] e (fun i h => (∃ old, IsEnum h e it ((i : Nat) : Int) old) ∧ h.IsTupleIter it a i ∧ e ≠ it) where
  mem := by simp
  obj := fun i h st b hb => by
    obtain ⟨⟨old, he⟩, ⟨o, ho, hc, hd⟩, _⟩ := st
    have e' : b = e ∨ b = it := by simpa using hb
    rcases e' with z | z
    · rw [z]; exact ⟨_, he, fun v q => nomatch q⟩
    · rw [z]; exact ⟨o, ho, fun v q => by rw [hd] at q; cases q⟩
  keep := fun i h h' st k => let ⟨⟨old, he⟩, hi, hne⟩ := st; ⟨⟨old, k e (by simp) _ he⟩, hi.at fun o q => k it (by simp) o q, hne⟩
  item := by
    intro X hP hw hK hc i pins s σ H E I hf st hg
    subst hP hw hK
    obtain ⟨⟨old, he⟩, hit, hne⟩ := st
    obtain ⟨xs, x, hq, hx⟩ := hg
    obtain ⟨its, rv, p, hz⟩ := I.tuple hq
    obtain ⟨u, hu, ru⟩ := rv.get hx
    have hel : e < s.heap.objs.size := Heap.lt_size he
    have hil : it < s.heap.objs.size := by obtain ⟨_, q, _⟩ := hit; exact Heap.lt_size q
    have hil2 : i < its.toArray.size := by
      have := (List.getElem?_eq_some_iff.mp hu).1
      simpa using this
    have D := Draws.tuple (prog := X.prog) (w := X.w) (A := X.A.in1) (I.ok.hd hc) it a hai its.toArray
    refine wpAny_pyNext_enum_itemD D he ⟨hit, p⟩ hil2 hne (by simp [hne, hea]) fun x' h' tk hP ho hst' hT hsz hk => ?_
    obtain rfl : x' = u := by
      have h1 : its.toArray[i]? = some x' := hP
      have h2 : its.toArray[i]? = some u := by simpa using hu
      rw [h1] at h2; exact Option.some.inj h2
    obtain ⟨hit', _⟩ := hst'
    refine ⟨_, rfl, wpAny_letOwnedTupleGo_enum (s := { s with heap := h', toks := tk + 1 }) ho fun h'' he' sb => ?_⟩
    have hT2 : h''.get? s.heap.objs.size = some { cls := .type "tuple", data := .seq #[.int i tk, x'] } := (sb.2 _ (Nat.ne_of_gt hel)).trans hT
    have new : ObjOk X.prog X.w (upd H s.heap.objs.size (.tup [.int (i : Nat), x])) h'' s.heap.objs.size (.tup [.int (i : Nat), x]) :=
      ⟨by show 2 ≤ sizeLine; decide, [.int i tk, x'], .cons ⟨_, rfl⟩ (.cons ru .nil), ⟨_, hT2, rfl, _, rfl⟩⟩
    have I1 : Inv X pins σ (upd H s.heap.objs.size (.tup [.int (i : Nat), x])) { s with heap := h'', toks := tk + 1 } :=
      I.turnedNew (ch := [e, it]) (fun b ob hb q => (sb.2 b (fun z => hb (by simp [z]))).trans (hk b ob (fun z => hb (by simp [z])) (fun z => hb (by simp [z])) q)) hf (Nat.le_refl _) new
    refine ⟨.ref s.heap.objs.size, _, I1, rfl, ⟨_, x, rfl, I.hok.fresh (Nat.le_refl _), rfl, fun ys hy => by rw [I.tuple_inj hy hq]; exact hx⟩, ⟨⟨x', ?_⟩, hit'.at fun o q => (sb.2 it (Ne.symm hne)).trans q, hne⟩, fun b hb => ?_⟩
    · have e1 : ((i + 1 : Nat) : Int) = (i : Int) + 1 := by omega
      rw [e1]; exact he'
    · have hb' : b < s.heap.objs.size := by
        have e' : b = e ∨ b = it := by simpa using hb
        rcases e' with z | z
        · rw [z]; exact hel
        · rw [z]; exact hil
      rw [upd_ne (Nat.ne_of_lt hb')]
      exact (hf b hb).1
  done := by
    intro X hP hw hK hc i pins s σ H E I hf st hg
    subst hP hw hK
    obtain ⟨⟨old, he⟩, hit, hne⟩ := st
    obtain ⟨xs, hq, hx⟩ := hg
    obtain ⟨its, rv, p, hz⟩ := I.tuple hq
    obtain ⟨f0, f1, f2, f3, f4, f5⟩ := hf it (by simp)
    have hl := rv.length
    have hT : s.TypeIs (.ref e) "enumerate" := ⟨_, he, rfl⟩
    unfold pyNext
    refine wpAny_bind (wpAny_attempt (wpAny_callSpecial?_slot (name := Str.ofString "__next__") hT F.slot_enumerate_next
      (wpAny_call_entry F.slot_enumerate_next hT F.entry_enumerate_next ?_ (F.args_enumerate_next_1 _))))
    show wpAny _ _ (field (.ref e) 2 >>= _) _ _ _
    refine wpAny_bind (wpAny_field he rfl (x := .ref it) rfl ?_)
    refine wpAny_bind (wpAny_nextOf_tuple_end (I.ok.hd hc) hit p (by simp; omega) fun h' x he' hx' => ?_)
    obtain ⟨o, ho, hc⟩ := hx'
    refine wpAny_bind (wpAny_isInstance (T := "StopIteration") (b := true) ⟨o, ho, hc⟩ isSubtype_stop ?_)
    exact wpAny_pure ⟨rfl, I.turned (t' := s.toks) (fun b o hb q => he' b o hb q) f0 f1 f3 f4 f5⟩
  self := fun A i s Q E st h => let ⟨⟨_, he⟩, _⟩ := st; wpAny_pyIter_enum he h
def iEnumT (K : PySem.W.Frag) (ta : TA) : TI := fun σ H R => ta σ H fun vs H1 => ∃ a xs, vs = [.ref a] ∧ SqT K H1 a xs ∧ R (IteT K a) H1
theorem pi_enumT {X : Cx} {e : Expr} {ta : TA} {p pos tpos : Pos} {elts : List Expr} {kk : Nat} (hg : Gl X "enumerate") (hm : X.mg "enumerate" = none) (ha : PA X [e] ta) (hs : starEach [e] X.env = [(false, eval e X.env)] := by rfl) :
    PI X (.Tuple elts kk tpos) (.Call (.Name "enumerate" p) [e] [] pos) (iEnumT X.K ta) := by
  refine ⟨fun pins s σ H R I h => ?_⟩
  refine Call_ (ld_blt I hg hm boot_enumerate (PyProof.Rows.callWith_type1 (thn (ha.run pos pins s σ H _ I h) fun us s1 ⟨vs, H1, I1, r1, q1⟩ => ?_) hs rfl))
  obtain ⟨a, xs, ex, hq, q⟩ := q1
  subst ex
  cases r1 with
  | cons r rr =>
    cases rr
    cases r
    obtain ⟨its, rv, p', hz⟩ := I1.tuple hq
    have hal : a < s1.heap.objs.size := by obtain ⟨_, q, _⟩ := p'; exact Heap.lt_size q
    refine call_enumB1 (begins_tuple a its.toArray) p' fun h' he hit hsz hk => wpAny_pyIter_enum he ?_
    have I2 : Inv X pins σ H1 { s1 with heap := h' } := I1.kept (t' := s1.toks) hk
    refine ⟨s1.heap.objs.size + 1, [s1.heap.objs.size + 1, s1.heap.objs.size], _, _, H1, rfl, I2, turn_enumT a (s1.heap.objs.size + 1) s1.heap.objs.size (Nat.ne_of_lt hal) (Nat.ne_of_gt (Nat.lt_succ_of_lt hal)), ⟨⟨.none, he⟩, ⟨_, hit, rfl, rfl⟩, Nat.succ_ne_self _⟩, fun b hb => ?_, q⟩
    have e' : b = s1.heap.objs.size + 1 ∨ b = s1.heap.objs.size := by simpa using hb
    have hle : s1.heap.objs.size ≤ b := by
      rcases e' with z | z
      · rw [z]; exact Nat.le_add_right _ _
      · rw [z]; exact Nat.le_refl _
    exact I1.fpOk hle (I1.hok.fresh hle)
def enumFrom : Nat → List D → List D
  | _, [] => []
  | k, d :: ds => .tup [.int k, d] :: enumFrom (k + 1) ds
def enumD : D → M (List D)
  | .lst xs => pure (enumFrom 0 xs)
  | .tup xs => pure (enumFrom 0 xs)
  | _ => stuck
theorem enumFrom_len : ∀ (xs : List D) (k : Nat), (enumFrom k xs).length = xs.length
  | [], _ => rfl
  | _ :: xs, k => by
    show (enumFrom (k + 1) xs).length + 1 = xs.length + 1
    rw [enumFrom_len xs]
theorem enumFrom_get : ∀ (xs : List D) (k i : Nat), (enumFrom k xs)[i]? = (xs[i]?).map fun d => .tup [.int ((k + i : Nat) : Int), d]
  | [], _, _ => rfl
  | _ :: _, _, 0 => rfl
  | _ :: xs, k, i + 1 => by
    show (enumFrom (k + 1) xs)[i]? = _
    rw [enumFrom_get xs]
    show _ = (xs[i]?).map _
    rw [show k + 1 + i = k + (i + 1) from by omega]
section
variable {K : PySem.W.Frag} {p : List (List Addr)} {G : Hp}
theorem itok_enum {a : Addr} {ds : List D} {vs : List V} (h : SqL K G a vs) (dn : DenL K p G ds vs) : ItOk K p G (enumFrom 0 ds) (Ite K a) where
  go := fun i H s hi => by
    rw [enumFrom_len] at hi
    have hl := dn.length
    exact ⟨vs, vs[i], s.seq h, by simp [hl, hi]⟩
  stop := fun H s => ⟨vs, s.seq h, by rw [enumFrom_len, dn.length]; exact Nat.le_refl _⟩
  yld := fun i d H x H' e s y => by
    obtain ⟨T, x', rfl, hT, rfl, y⟩ := y
    rw [enumFrom_get] at e
    cases e0 : ds[i]? with
    | none => rw [e0] at e; cases e
    | some d0 =>
      rw [e0] at e
      obtain ⟨v, e1, e2⟩ := dn.get e0
      have := y vs (s.seq h)
      rw [e1] at this
      cases this
      cases e
      refine .inr ⟨T, _, _, rfl, hT, rfl, rfl, DenL.cons (d := .int _) ?_ (DenL.one e2)⟩
      show V.int _ = V.int _
      rw [Nat.zero_add]
theorem itok_enumT {a : Addr} {ds : List D} {vs : List V} (h : SqT K G a vs) (dn : DenL K p G ds vs) : ItOk K p G (enumFrom 0 ds) (IteT K a) where
  go := fun i H s hi => by
    rw [enumFrom_len] at hi
    have hl := dn.length
    exact ⟨vs, vs[i], SqT.mono s h, by simp [hl, hi]⟩
  stop := fun H s => ⟨vs, SqT.mono s h, by rw [enumFrom_len, dn.length]; exact Nat.le_refl _⟩
  yld := fun i d H x H' e s y => by
    obtain ⟨T, x', rfl, hT, rfl, y⟩ := y
    rw [enumFrom_get] at e
    cases e0 : ds[i]? with
    | none => rw [e0] at e; cases e
    | some d0 =>
      rw [e0] at e
      obtain ⟨v, e1, e2⟩ := dn.get e0
      have := y vs (SqT.mono s h)
      rw [e1] at this
      cases this
      cases e
      refine .inr ⟨T, _, _, rfl, hT, rfl, rfl, DenL.cons (d := .int _) ?_ (DenL.one e2)⟩
      show V.int _ = V.int _
      rw [Nat.zero_add]
end
section
variable {X : Cx} {W : WX} {g : DSt} {a : Expr} {ma : M D} {p pos tpos : Pos} {elts : List Expr} {kk : Nat}
theorem xi_enum (hg : Gl X "enumerate") (hm : X.mg "enumerate" = none) (ha : XE X W g a ma) (hs : starEach [a] X.env = [(false, eval a X.env)] := by rfl) : XI X W g (.Tuple elts kk tpos) (.Call (.Name "enumerate" p) [a] [] pos) (B ma enumD) := by
  have hA : PA X [a] _ := pa_cons ha pa_nil hs
  refine PI.imp (PI.or (pi_enum hg hm hA hs) (pi_enumT hg hm hA hs)) fun σ H R ⟨p, G, S, ow, r, h⟩ => ?_
  have h : okR (ItOk X.K) X.K p G H (fun c d H' => W c d σ H') ((ma S).andThen enumD) R := h
  cases e : ma S with
  | stuck => rw [e] at h; exact h.elim
  | exc z S1 =>
    rw [e] at h
    exact .inl ⟨p, G, S, ow, r, by rw [e]; exact h⟩
  | ok d S1 =>
    rw [e] at h
    cases d <;> try exact h.elim
    · rename_i xs
      refine .inr ⟨p, G, S, ow, r, ?_⟩
      rw [e]
      intro v p1 G1 H1 dn r1 x1
      obtain ⟨l, vs, rfl, hl, hv⟩ := dn
      exact ⟨l, vs, rfl, SqT.mono r1.sub hl, h _ p1 G1 H1 (itok_enumT hl hv) r1 x1⟩
    · rename_i xs
      refine .inl ⟨p, G, S, ow, r, ?_⟩
      rw [e]
      intro v p1 G1 H1 dn r1 x1
      obtain ⟨l, vs, rfl, hl, hv⟩ := dn
      exact ⟨l, vs, rfl, SqL.of (r1.sub _ _ hl), h _ p1 G1 H1 (itok_enum (SqL.of hl) hv) r1 x1⟩
end
end RM

namespace RM
open PySem PySem.Spec PyProof.Rows L2
variable [PgW]
abbrev TT := List (Str × Str)
structure TabF (K : PySem.W.Frag) (w : World) (a : Addr) (kvs : TT) : Prop where
  d : ∃ es n, KDict K w a es n
  v : ∀ z, ∃ r, PySem.W.nsIn K a z = some r ∧ (match kvs.lookup z with
    | some y => ∃ u, r = some u ∧ RelV (.str y) u
    | none => r = none)
def tabVals (kvs : TT) : List (Str × He.Dv) := kvs.map fun q => (q.1, .str q.2)
theorem lookup_mem {α : Type} : ∀ {kvs : List (Str × α)} {z : Str} {y : α}, kvs.lookup z = some y → (z, y) ∈ kvs
  | [], _, _, h => by cases h
  | q :: r, z, y, h => by
    obtain ⟨k, v⟩ := q
    rw [List.lookup_cons] at h
    cases e : z == k with
    | true =>
      rw [e] at h
      cases h
      rw [beq_iff_eq.mp e]
      exact List.mem_cons_self ..
    | false =>
      rw [e] at h
      exact List.mem_cons_of_mem _ (lookup_mem h)
theorem lookup_none {α : Type} : ∀ {kvs : List (Str × α)} {z : Str}, kvs.lookup z = none → z ∉ kvs.map (·.1)
  | [], _, _ => by simp
  | q :: r, z, h => by
    obtain ⟨k, v⟩ := q
    rw [List.lookup_cons] at h
    cases e : z == k with
    | true => rw [e] at h; cases h
    | false =>
      rw [e] at h
      have := lookup_none h
      simp only [List.map_cons, List.mem_cons, not_or]
      exact ⟨fun q => by rw [q] at e; simp at e, this⟩
theorem keyOf_mem {P : Params} : ∀ {l : List DictEntry} {ks : List Str}, l.map He.keyOf = He.keysIn P ks → ∀ e ∈ l, ∃ x t, e.key = .str x t ∧ x ∈ ks
  | [], _, _, e, he => by cases he
  | e :: r, [], h, _, _ => by cases h
  | e :: r, k :: ks, h, e', he => by
    have h1 : He.keyOf e :: r.map He.keyOf = some (k, PyData.keyHash P k) :: He.keysIn P ks := h
    injection h1 with h2 h3
    rcases List.mem_cons.mp he with rfl | he
    · unfold He.keyOf at h2
      split at h2
      · rename_i x t q
        obtain ⟨h5, h6⟩ := Prod.mk.inj (Option.some.inj h2)
        exact ⟨x, t, q, by rw [h5]; exact List.mem_cons_self ..⟩
      · cases h2
    · obtain ⟨x, t, a, b⟩ := keyOf_mem h3 e' he
      exact ⟨x, t, a, List.mem_cons_of_mem _ b⟩
theorem tabF_of {K : PySem.W.Frag} {w : World} {a : Addr} {kvs : TT} (h : He.dicW K a = some (He.keysIn w.params (kvs.map (·.1)))) (hv : He.valsB K a (tabVals kvs) = true) : TabF K w a kvs := by
  obtain ⟨es, n, KD⟩ := He.dicW_ok h
  refine ⟨⟨es, n, KD⟩, fun z => ?_⟩
  cases e : kvs.lookup z with
  | some y =>
    have hm : (z, He.Dv.str y) ∈ tabVals kvs := List.mem_map.mpr ⟨_, lookup_mem e, rfl⟩
    obtain ⟨u, h1, h2⟩ := He.valsB_ok hv hm
    exact ⟨some u, h1, u, rfl, h2⟩
  | none =>
    refine ⟨none, ?_, rfl⟩
    have hz := lookup_none e
    have hk : es.toList.map He.keyOf = He.keysIn w.params (kvs.map (·.1)) := by
      have h2 := h
      unfold He.dicW at h2
      rw [KD.at_] at h2
      have h3 : (match decide ("dict" = "dict") && ((#[] : Array (Option Value)).isEmpty && !(a == sysModules)) with
        | true => some (es.toList.map He.keyOf)
        | false => none) = some (He.keysIn w.params (kvs.map (·.1))) := h2
      rw [KD.low] at h3
      exact Option.some.inj h3
    have hs := keyOf_mem hk
    unfold PySem.W.nsIn
    rw [KD.at_]
    have f1 : es.toList.find? (·.key.isStr z) = none := List.find?_eq_none.mpr fun x hx => by
      obtain ⟨y, t, e1, e2⟩ := hs x hx
      rw [e1]
      show ¬ (y == z) = true
      intro q
      rw [beq_iff_eq.mp q] at e2
      exact hz e2
    have f2 : es.toList.any (·.refKey) = false := List.any_eq_false.mpr fun x hx => by
      obtain ⟨y, t, e1, e2⟩ := hs x hx
      unfold DictEntry.refKey
      rw [e1]
      simp
    show (match es.toList.find? (·.key.isStr z) with
      | some e => some (some e.val)
      | none => if es.toList.any (·.refKey) then none else some none) = some none
    rw [f1, f2]
    rfl
def inTab (neg : Bool) (kvs : TT) : D → M D
  | .str z => pure (.bl (if neg then !(kvs.lookup z).isSome else (kvs.lookup z).isSome))
  | _ => stuck
def ixTab (kvs : TT) : D → M D
  | .str z => match kvs.lookup z with
    | some y => pure (.str y)
    | none => stuck
  | _ => stuck
section
variable {X : Cx} {V : Wf} {g : DSt} {a : Expr} {ma : M D} {pos p : Pos} {kvs : TT} {x : Str}
theorem TabF.some_eq {K : PySem.W.Frag} {w : World} {a : Addr} {kvs : TT} (T : TabF K w a kvs) (z : Str) : ∃ r, PySem.W.nsIn K a z = some r ∧ r.isSome = (kvs.lookup z).isSome := by
  obtain ⟨r, h1, h2⟩ := T.v z
  refine ⟨r, h1, ?_⟩
  cases e : kvs.lookup z with
  | some y =>
    rw [e] at h2
    obtain ⟨u, rfl, _⟩ := h2
    rfl
  | none =>
    rw [e] at h2
    rw [h2]
    rfl
theorem tab_in {w : Bool} (T : TabF X.K X.w (He.ga X.K x) kvs) : OpR X (compareOp (if w then .NotIn else .In)) (fun v u H Q => u = .ref (He.ga X.K x) ∧ ∃ z, v = .str z ∧ Q (.bl (if w then !(kvs.lookup z).isSome else (kvs.lookup z).isSome)) H) := by
  obtain ⟨es, n, KD⟩ := T.d
  cases w with
  | false =>
    intro pins s σ H v0 u0 v u Q I rx ry ⟨e, z, ez, q⟩
    obtain ⟨r, h1, h2⟩ := T.some_eq z
    exact op_in_kd KD pins s σ H v0 u0 v u Q I rx ry ⟨z, r, ez, e, h1, by rw [h2]; exact q⟩
  | true =>
    intro pins s σ H v0 u0 v u Q I rx ry ⟨e, z, ez, q⟩
    obtain ⟨r, h1, h2⟩ := T.some_eq z
    exact op_notIn_kd KD pins s σ H v0 u0 v u Q I rx ry ⟨z, r, ez, e, h1, by rw [h2]; exact q⟩
theorem xe_inT (T : TabF X.K X.w (He.ga X.K x) kvs) (hg : Gl X x) (hm : X.mg x = some (.ref (He.ga X.K x))) (ha : XE X V.x g a ma) (hd : (x == ("__debug__" : Str)) = false := by decide) : XE X V.x g (.Compare a [.In] [.Name x p] pos) (B ma (inTab false kvs)) := by
  refine PE.imp (pe_cmpR (tab_in (w := false) T) ha (pe_glob (v := .ref (He.ga X.K x)) hg hm rfl hd) rfl) fun σ H Q ⟨p, G, S, ow, r, h⟩ => ?_
  refine ⟨p, G, S, ow, r, okR.seq h fun d S1 v p1 G1 H1 e1 dn r1 x1 h1 => ?_⟩
  cases d <;> try exact h1.elim
  exact ⟨rfl, _, dn, okR.fin (d := D.bl _) (v := L2.V.bl _) h1 rfl r1⟩
theorem ix_tab (T : TabF X.K X.w (He.ga X.K x) kvs) : IxR X (fun v u H Q => v = .ref (He.ga X.K x) ∧ ∃ z y, u = .str z ∧ kvs.lookup z = some y ∧ Q (.str y) H) := by
  obtain ⟨es, n, KD⟩ := T.d
  intro value slice pins s σ H v0 u0 v u Q I rx ry ⟨e, z, y, ez, ey, q⟩ hs
  subst e ez
  obtain ⟨r, h1, h2⟩ := T.v z
  rw [ey] at h2
  obtain ⟨u1, rfl, hu⟩ := h2
  cases rx
  refine tail_any (kd_type KD I) F.slot_dict_getitem.lookup ?_ hs
  exact op_item_kd KD pins s σ H (.ref _) (.str z) _ _ Q I rfl ry ⟨z, u1, .str y, rfl, rfl, h1, hu, q⟩
theorem xe_ixT (T : TabF X.K X.w (He.ga X.K x) kvs) (hg : Gl X x) (hm : X.mg x = some (.ref (He.ga X.K x))) (ha : XE X V.x g a ma) (hs : PlainIx a) (hd : (x == ("__debug__" : Str)) = false := by decide) : XE X V.x g (.Subscript (.Name x p) a pos) (B ma (ixTab kvs)) := by
  refine PE.imp (pe_ix (ix_tab T) (pe_glob (v := .ref (He.ga X.K x)) hg hm rfl hd) ha hs) fun σ H Q ⟨p, G, S, ow, r, h⟩ => ?_
  refine ⟨p, G, S, ow, r, okR.seq h fun d S1 v p1 G1 H1 e1 dn r1 x1 h1 => ?_⟩
  cases d <;> try exact h1.elim
  rename_i z
  have h1 : okR (Den X.K) X.K p1 G1 H1 _ ((match kvs.lookup z with
    | some y => (pure (.str y) : M D)
    | none => stuck) S1) Q := h1
  cases ez : kvs.lookup z with
  | none => rw [ez] at h1; exact h1.elim
  | some y =>
    rw [ez] at h1
    exact ⟨rfl, z, y, dn, ez, okR.fin (d := D.str y) (v := L2.V.str y) h1 rfl r1⟩
end
end RM

namespace RM
open PySem PySem.Spec PyProof.Rows L2
variable [PgW]
def eqX (T : MT) (d e : D) : M D := match d, e with
  | .ins c ns fs, .ins c' ns' fs' => if c' = c then match T.lookup c with
    | some h => B (h (.ins c ns fs) (.ins c' ns' fs')) fun r => B (asB r) fun b => pure (.bl b)
    | none => stuck
    else stuck
  | d, e => eqD d e
section
variable {X : Cx} {V : Wf} {k : Nat} {T : MT}
theorem eqX_split {K : PySem.W.Frag} {p : List (List Addr)} {G H : Hp} {S : Sto} {Q : VK} {d e : D} (h : okR (Den K) K p G H V (eqX T d e S) Q) : (∃ c ns fs ns' fs' m, d = .ins c ns fs ∧ e = .ins c ns' fs' ∧ T.lookup c = some m ∧ okR (Den K) K p G H V (m d e S) fun r H' => ∃ b, r = .bl b ∧ Q (.bl b) H') ∨ okR (Den K) K p G H V (eqD d e S) Q := by
  unfold eqX at h
  split at h
  · rename_i c ns fs c' ns' fs'
    by_cases q : c' = c
    · rw [if_pos q] at h
      subst q
      cases el : T.lookup c' with
      | none => rw [el] at h; exact h.elim
      | some m =>
        rw [el] at h
        refine .inl ⟨_, _, _, _, _, m, rfl, rfl, el, ?_⟩
        have h : okR (Den K) K p G H V ((m (.ins c' ns fs) (.ins c' ns' fs') >>= fun r => asB r >>= fun b => pure (.bl b)) S) Q := h
        refine okR.seq h fun r S1 v p1 G1 H1 e1 dn r1 x1 h1 => ?_
        cases r <;> try exact h1.elim
        rename_i b
        cases (show v = .bl b from dn)
        exact ⟨b, rfl, okR.fin (d := D.bl b) (v := L2.V.bl b) h1 rfl r1⟩
    · rw [if_neg q] at h; exact h.elim
  · exact .inr h
theorem op_eqX (hu : X.A.units + 64 < cLine) (hT : AllM X k "__eq__" T) (hr : Room k X.A) (hG : X.A.guards = some []) (tk : Takes X V.x) : OpR X (compareOp .Eq) (rD X.K V (eqX T)) := by
  intro pins s σ H x y v u Q I rx ry ⟨d, e, p, G, S, hd, he, r, h⟩
  rcases eqX_split h with ⟨c, ns, fs, ns', fs', m, rfl, rfl, hl, h2⟩ | h2
  · obtain ⟨f, a, dx, xs, rfl, ha, _, me, run⟩ := own_run hT hl hr hG tk I rfl hd he ry r h2
    obtain rfl : v = Value.ref a := rx
    obtain ⟨od, J⟩ := inst_at I ha
    obtain ⟨a2, dx2, vs2, rfl, ha2, _⟩ := id he
    obtain rfl : u = Value.ref a2 := ry
    obtain ⟨od2, J2⟩ := inst_at I (r.sub _ _ ha2)
    obtain ⟨mm, F⟩ := I.fr
    show wpAny _ _ (richCompare .Eq (.ref a) (.ref a2)) _ _ _
    refine PySem.W.cmp_K (by omega) F I.mod.kin J J2.type (by unfold PySem.W.notFirst; simp) me.at_ me.fn (wpAny_mono run (fun rv s1 hz => ?_) fun _ _ z => z)
    obtain ⟨z, H1, I1, rz, b, rfl, q⟩ := hz
    cases (show rv = Value.bool b from rz)
    exact ⟨.bl b, H1, I1, rfl, q⟩
  · exact (op_eq.or (op_eqD hu)) pins s σ H x y v u Q I rx ry (by_eq d e x y p G H S V Q hd he r h2)
def AllF (K : PySem.W.Frag) : MT → Prop
  | [] => True
  | q :: r => PySem.W.selfFirst K (He.ga K q.1) = true ∧ AllF K r
theorem AllF.get {K : PySem.W.Frag} {c : Str} {h : D → D → M D} : ∀ {T : MT}, AllF K T → T.lookup c = some h → PySem.W.selfFirst K (He.ga K c) = true
  | [], _, e => by cases e
  | q :: r, ⟨a, b⟩, e => by
    obtain ⟨c', h'⟩ := q
    rw [List.lookup_cons] at e
    cases z : c == c' with
    | true =>
      rw [beq_iff_eq.mp z]
      exact a
    | false =>
      rw [z] at e
      exact AllF.get b e
end
abbrev TabD := Str × TT
def tabKeys (t : TabD) : List Str := t.2.map fun q : Str × Str => q.1
abbrev AlY : Type := AlX × List (Option (List (Option (Str × Int))))
section
variable (fa : List He.Fa) (fn : List He.DefD) (pr : List PrD) (chk : PySem.W.Frag → Bool) (ts : List TabD)
def obsY (K : PySem.W.Frag) : AlY := (obsX fa fn pr chk K, ts.map fun t => He.dicW K (He.ga K t.1))
structure SaysY (w : World) (K : PySem.W.Frag) : Prop where
  x : SaysX fa fn pr chk K
  t : ts.map (fun t => He.dicW K (He.ga K t.1)) = ts.map fun t => some (He.keysIn w.params (tabKeys t))
end
theorem SaysY.tab {fa : List He.Fa} {fn : List He.DefD} {pr : List PrD} {chk : PySem.W.Frag → Bool} {ts : List TabD} {w : World} {K : PySem.W.Frag} (s : SaysY fa fn pr chk ts w K) (i : Nat) {t : TabD} (hv : He.valsB K (He.ga K t.1) (tabVals t.2) = true) (h : ts[i]? = some t := by rfl) : TabF K w (He.ga K t.1) t.2 := by
  have e : (ts.map fun t => He.dicW K (He.ga K t.1))[i]? = (ts.map fun t => some (He.keysIn w.params (tabKeys t)))[i]? := by rw [s.t]
  rw [List.getElem?_map, List.getElem?_map, h] at e
  exact tabF_of (Option.some.inj e) hv
end RM

namespace RM
open PySem PySem.Spec PyProof.Rows L2
variable [PgW]
abbrev MT1 := List (Str × (D → M D))
def AllM1 (X : Cx) (k : Nat) (m : Str) : MT1 → Prop
  | [] => True
  | q :: r => (∃ f fd ps, OwnM X k q.1 m f fd ps (l1 q.2) ∧ ps.length = 1 ∧ Binds X.K fd ps []) ∧ AllM1 X k m r
theorem AllM1.get {X : Cx} {k : Nat} {m c : Str} {h : D → M D} : ∀ {T : MT1}, AllM1 X k m T → T.lookup c = some h → ∃ f fd ps, OwnM X k c m f fd ps (l1 h) ∧ ps.length = 1 ∧ Binds X.K fd ps []
  | [], _, e => by cases e
  | q :: r, ⟨a, b⟩, e => by
    obtain ⟨c', h'⟩ := q
    rw [List.lookup_cons] at e
    cases z : c == c' with
    | true =>
      rw [z] at e
      cases e
      rw [beq_iff_eq.mp z]
      exact a
    | false =>
      rw [z] at e
      exact AllM1.get b e
def lenI (r : D) : M D := match r with
  | .int n => if 0 ≤ n ∧ n < 2 ^ 63 then pure (.int n) else stuck
  | _ => stuck
def lenX (T : MT1) (ds : List D) : M D := match ds with
  | [.ins c ns fs] => match T.lookup c with
    | some h => B (noE (h (.ins c ns fs))) lenI
    | none => stuck
  | ds => lenD ds
section
variable {X : Cx} {V : Wf} {k : Nat} {T : MT1}
theorem lenX_split {K : PySem.W.Frag} {p : List (List Addr)} {G H : Hp} {S : Sto} {Q : VK} {ds : List D} (h : okR (Den K) K p G H V (lenX T ds S) Q) : (∃ c ns fs m, ds = [.ins c ns fs] ∧ T.lookup c = some m ∧ okR (Den K) K p G H (fun _ _ _ => False) (m (.ins c ns fs) S) fun r H' => ∃ n, r = .int n ∧ 0 ≤ n ∧ n < 2 ^ 63 ∧ Q (.int n) H') ∨ okR (Den K) K p G H V (lenD ds S) Q := by
  unfold lenX at h
  split at h
  · rename_i c ns fs
    cases el : T.lookup c with
    | none => rw [el] at h; exact h.elim
    | some m =>
      rw [el] at h
      refine .inl ⟨c, ns, fs, m, rfl, el, ?_⟩
      have h : okR (Den K) K p G H V ((noE (m (.ins c ns fs)) >>= lenI) S) Q := h
      refine okR.noE (okR.seq h fun r S1 v p1 G1 H1 e1 dn r1 x1 h1 => ?_)
      cases r <;> try exact h1.elim
      rename_i n
      have h1 : okR (Den K) K p1 G1 H1 V ((if 0 ≤ n ∧ n < 2 ^ 63 then (pure (.int n) : M D) else stuck) S1) Q := h1
      by_cases q : 0 ≤ n ∧ n < 2 ^ 63
      · rw [if_pos q] at h1
        exact ⟨n, dn, q.1, q.2, okR.fin (d := D.int n) (v := L2.V.int n) h1 rfl r1⟩
      · rw [if_neg q] at h1; exact h1.elim
  · exact .inr h
theorem cr_lenX (hT : AllM1 X k "__len__" T) (hr : Room (k + 1) X.A) (hG : X.A.guards = some []) : CallR X (.builtin "len") (rA X.K V (lenX T)) := by
  intro pins s σ H vs us Q I rv ⟨ds, p, G, S, hd, r, h⟩
  rcases lenX_split h with ⟨c, ns, fs, m, rfl, hl, h2⟩ | h2
  · obtain ⟨f, fd, ps, M, hps, hb⟩ := hT.get hl
    obtain ⟨v, vr, rfl, hv, hn⟩ := id hd
    obtain rfl : vr = [] := hn
    obtain ⟨a, dx, ws, rfl, ha, hn⟩ := id hv
    cases rv with
    | cons r1 rr =>
      cases rr
      rename_i u
      obtain rfl : u = Value.ref a := r1
      obtain ⟨od, J⟩ := inst_at I (r.sub _ _ ha)
      obtain ⟨mm, F⟩ := I.fr
      have q1 : spD X.K ps.length (l1 m) [.ref a] H (fun r H' => ∃ n, r = L2.V.int n ∧ 0 ≤ n ∧ n < 2 ^ 63 ∧ Q (.int n) H') fun _ _ _ => False := ⟨[.ins c ns fs], p, G, S, hps.symm, hd, r, h2⟩
      have bd := hb s [.ref a] I.kIn (by rw [List.append_nil]; exact hps.symm)
      rw [List.append_nil] at bd
      refine PySem.W.len_K F I.mod.kin J M.me.at_ M.me.fn (wpAny_call (codeAny_mono (M.fn.go X.A.in1 X.stack s H ⟨[.ref a], []⟩ [.ref a] [.ref a] _ (fun _ _ _ => False) hG hr.in1 I.env0.in1 bd (.cons rfl .nil) q1) fun rr s' hz => ?_))
      cases rr with
      | error er =>
        obtain ⟨_, _, _, _, _, _, _, _, _, _, _, _, z⟩ := hz
        exact z.elim
      | ok fl =>
        cases fl with
        | ret u =>
          obtain ⟨v, H', I3, rv, n, rfl, n0, n1, q3⟩ := I.after hz
          obtain ⟨t, rfl⟩ := rv
          exact ⟨⟨n0, n1⟩, .int n, H', I3.tok _, ⟨_, rfl⟩, q3⟩
        | next => exact False.elim hz
        | brk => exact False.elim hz
        | cont => exact False.elim hz
  · exact call_len pins s σ H vs us Q I rv (by_len ds vs p G H S V Q hd r h2)
end
end RM

namespace RM
open PySem PySem.Spec PyProof.Rows L2
variable [PgW]
section
variable {X : Cx} {W : Wf} {e : Expr} {ma : DSt → M D} {pos : Pos}
abbrev FewA (X : Cx) (e : Expr) (cpos : Pos) : Prop := ((backTo cpos (starEach [e] X.env)).all (fun x => !x.1) && (backToKw cpos (keywordEach [] X.env)).all (fun x => x.1.isSome) && decide ([e].length + ([] : List Keyword).length + (if ([] : List Keyword).isEmpty then 0 else 1) < 30)) = true
theorem ds_appPop (i j : Nat) (hij : i ≠ j) {x y : Str} {px py apos cpos bpos dpos : Pos} (hN : X.N[i]? = some x) (hN2 : X.N[j]? = some y) (he : DE X W.x e ma) (hv : Vis X.env.scope x) (hd : (x == ("__debug__" : Str)) = false) (hcd : (x == ("__classdict__" : Str)) = false)
    (hv2 : Vis X.env.scope y) (hd2 : (y == ("__debug__" : Str)) = false) (hcd2 : (y == ("__classdict__" : Str)) = false)
    (hst : starEach [e] X.env = [(false, eval e X.env)]) (hst2 : starEach [.Call (.Attribute (.Name y py) "pop" bpos) [e] [] dpos] X.env = [(false, eval (.Call (.Attribute (.Name y py) "pop" bpos) [e] [] dpos) X.env)])
    (hfew : FewA X e dpos) (hfew2 : FewA X (.Call (.Attribute (.Name y py) "pop" bpos) [e] [] dpos) cpos) (hline : (bpos.endLine == dpos.line) = true) (hline2 : (apos.endLine == cpos.line) = true)
    (hs : swapsWith (.Call (.Attribute (.Name x px) "append" apos) [.Call (.Attribute (.Name y py) "pop" bpos) [e] [] dpos] [] cpos) none pos.line X.env = pure false) :
    DS X W (.Expr (.Call (.Attribute (.Name x px) "append" apos) [.Call (.Attribute (.Name y py) "pop" bpos) [e] [] dpos] [] cpos) pos)
      (fun t => do let xs ← getO t i; let ys ← getO t j; let k ← ma t; let r ← liftO (popO ys k); if xs.length < sizeLine then pure (.nx ((t.set j (some (.own r.2))).set i (some (.own (xs ++ [r.1]))))) else stuck) := by
  refine PS.imp (ps_expr (pe_bm PySem.F.plainAttrs_list PySem.F.slot_list_append PySem.F.type_list_append mt_append (pe_var hN hv hd hcd)
    (pa_cons (pe_bm PySem.F.plainAttrs_list PySem.F.slot_list_pop PySem.F.type_list_pop mt_popAt (pe_var hN2 hv2 hd2 hcd2) (pa_cons he pa_nil hst) rfl hfew hline hst rfl) pa_nil hst2) rfl hfew2 hline2 hst2 rfl) hs) fun E σ H ⟨n, t, p, G, S, ow, r, h⟩ => ?_
  obtain ⟨xs, l, vs, e1, e2, e3, e4, e5, h⟩ := own_at (Z := fun z => okS X.K W n z E) r (fun z => z) h
  obtain ⟨ys, l2, vs2, a1, a2, a3, a4, a5, h⟩ := own_at (Z := fun z => okS X.K W n z E) r (fun z => z) h
  refine ⟨_, e2, .inl ⟨rfl, vs, SqL.of e4⟩, _, a2, .inl ⟨rfl, vs2, SqL.of a4⟩, t, p, G, S, ow, r.rs, okS.seq h r fun y S1 v p1 G1 H1 ey dy r1 x1 h1 => ?_⟩
  obtain ⟨f1, f2⟩ := own_later r x1 a3 a4 a5
  cases eq : popO ys y with
  | none => rw [eq] at h1; exact h1.elim
  | some q =>
    rw [eq] at h1
    obtain ⟨w, zs⟩ := q
    obtain ⟨k, jj, u, rfl, g1, g2, g3, g4, g5, g6⟩ := popO_ok f2 dy eq
    have R2 := r1.putO a1 a2 a3 g6
    have ei : (t.set j (some (.own zs)))[i]? = some (some (.own xs)) := by
      rw [List.getElem?_set_ne (Ne.symm hij)]; exact e1
    obtain ⟨l3, vs3, c1, c2, c3, c4⟩ := R2.rs.sl.getO ei
    rw [e2] at c1
    cases c1
    refine ⟨l2, vs2, k, jj, u, rfl, rfl, f1, g1, g2, g3, g4, ?_⟩
    by_cases hz : xs.length < sizeLine
    · have h2 : okS X.K W n ((if xs.length < sizeLine then pure (.nx ((t.set j (some (.own zs))).set i (some (.own (xs ++ [w]))))) else stuck : M Ctl) S1) E := h1
      rw [if_pos hz] at h2
      exact ⟨l, vs3, u, rfl, rfl, c3, by rw [c4.length]; exact hz, h2 p1 G1 _ σ ow (R2.putO ei e2 e3 (c4.append (DenL.one g5)))⟩
    · have h2 : okS X.K W n ((if xs.length < sizeLine then pure (.nx ((t.set j (some (.own zs))).set i (some (.own (xs ++ [w]))))) else stuck : M Ctl) S1) E := h1
      rw [if_neg hz] at h2
      exact h2.elim
end
section
variable {α : Type} {X : Cx} {W : Wf} {g : DSt} {I : IC α} {e : Expr} {rest : List Stmt} {pos : Pos} {me : M D}
def appPop (xs ys : List D) (k : D) : M (List D × List D) := B (popX ys k) fun r => B (appO xs r.1) fun zs => pure (zs, r.2)
theorem xs_appPop (i j : Nat) (hij : i ≠ j) {x y : Str} {px py apos cpos bpos dpos : Pos} {xs ys : List D} {k : List D × List D → M α} (hg : g[i]? = some (some (.own xs))) (hg2 : g[j]? = some (some (.own ys))) (hN : X.N[i]? = some x) (hN2 : X.N[j]? = some y) (he : XE X W.x g e me)
    (hk : ∀ v, XS X W ((g.set j (some (.own v.2))).set i (some (.own v.1))) I rest (k v)) (hv : Vis X.env.scope x := by first | exact Or.inl rfl | exact Or.inr (Or.inl rfl) | exact Or.inr (Or.inr rfl)) (hv2 : Vis X.env.scope y := by first | exact Or.inl rfl | exact Or.inr (Or.inl rfl) | exact Or.inr (Or.inr rfl)) (hd : (x == ("__debug__" : Str)) = false := by decide) (hcd : (x == ("__classdict__" : Str)) = false := by decide) (hd2 : (y == ("__debug__" : Str)) = false := by decide) (hcd2 : (y == ("__classdict__" : Str)) = false := by decide)
    (hst : starEach [e] X.env = [(false, eval e X.env)] := by rfl) (hst2 : starEach [.Call (.Attribute (.Name y py) "pop" bpos) [e] [] dpos] X.env = [(false, eval (.Call (.Attribute (.Name y py) "pop" bpos) [e] [] dpos) X.env)] := by rfl)
    (hfew : FewA X e dpos := by rfl) (hfew2 : FewA X (.Call (.Attribute (.Name y py) "pop" bpos) [e] [] dpos) cpos := by rfl) (hline : (bpos.endLine == dpos.line) = true := by rfl) (hline2 : (apos.endLine == cpos.line) = true := by rfl)
    (hs : swapsWith (.Call (.Attribute (.Name x px) "append" apos) [.Call (.Attribute (.Name y py) "pop" bpos) [e] [] dpos] [] cpos) none pos.line X.env = pure false := by rfl) :
    XS X W g I (.Expr (.Call (.Attribute (.Name x px) "append" apos) [.Call (.Attribute (.Name y py) "pop" bpos) [e] [] dpos] [] cpos) pos :: rest) (B (B me fun c => appPop xs ys c) k) := by
  refine xs_next (e := fun v => (g.set j (some (.own v.2))).set i (some (.own v.1))) (ds_appPop i j hij hN hN2 he.de hv hd hcd hv2 hd2 hcd2 hst hst2 hfew hfew2 hline hline2 hs) ?_ hk
  rw [AtG_self, getO_at hg, getO_at hg2]
  unfold appPop B popX appO
  rw [pure_bind, pure_bind, bind_assoc]
  congr 1
  funext c
  rw [bind_assoc]
  congr 1
  funext r
  split <;> rfl
end
end RM

namespace RM
open PySem PySem.Spec PyProof.Rows L2
variable [PgW]
def stepK (σ : List Key) (k : Key) : List Key := if σ.any (fun x => decide (x = k)) then σ else σ ++ [k]
def once (ks : List Key) : List Key := ks.foldl stepK []
theorem once_snoc (ks : List Key) (k : Key) : once (ks ++ [k]) = stepK (once ks) k := by unfold once; rw [List.foldl_append]; rfl
theorem stepK_any (σ : List Key) (v k : Key) : (stepK σ v).any (fun x => decide (x = k)) = (σ.any (fun x => decide (x = k)) || decide (k = v)) := by
  unfold stepK
  by_cases h : σ.any (fun x => decide (x = v)) = true
  · rw [if_pos h]
    by_cases e : k = v
    · subst e; rw [h]; simp
    · simp [e]
  · rw [if_neg h, List.any_append]
    by_cases e : k = v
    · subst e; simp
    · have hb : ¬ v = k := fun h' => e h'.symm
      simp [hb, e]
theorem stepK_len (σ : List Key) (v : Key) : (stepK σ v).length = if σ.any (fun x => decide (x = v)) then σ.length else σ.length + 1 := by
  unfold stepK; split <;> simp
theorem stepK_le (σ : List Key) (v : Key) : (stepK σ v).length ≤ σ.length + 1 := by rw [stepK_len]; split <;> omega
theorem once_le : ∀ (n : Nat) (ks : List Key), ks.length = n → (once ks).length ≤ n
  | 0, ks, h => by
    have : ks = [] := List.length_eq_zero_iff.mp h
    subst this; exact Nat.le_refl _
  | n + 1, ks, h => by
    have hn : ks ≠ [] := fun e => by rw [e] at h; cases h
    rw [← List.dropLast_concat_getLast hn, once_snoc]
    have := once_le n ks.dropLast (by rw [List.length_dropLast]; omega)
    have := stepK_le (once ks.dropLast) (ks.getLast hn)
    omega
theorem setOf_congr {prog : Program} {w : World} {h : Heap} {a : Addr} {S S' : Key → Bool} {n n' : Nat} (hS : h.SetOf (mixKind prog w) a S n) (e : ∀ k, S k = S' k) (en : n = n') : h.SetOf (mixKind prog w) a S' n' := by
  have : S = S' := funext e
  subst this; subst en; exact hS
theorem set_fresh {prog : Program} {w : World} {h : Heap} {a : Addr} {led : Bool} (hg : h.get? a = some { cls := .type "set", dict := none, data := .set #[] 0 (.fresh 0 0 led) }) : h.SetOf (mixKind prog w) a (fun k' => (once (([] : List Key))).any fun x => decide (x = k')) (once ([] : List Key)).length := by
  refine ⟨_, #[], 0, _, hg, ⟨rfl, rfl, rfl⟩, rfl, (fun e he => by simp at he), (fun k => by simp [once]), ?_, by cases led <;> rfl, rfl⟩
  decide
section
variable {prog : Program} {w : World} {A : Around} {R : Result → Shared → Prop} {I : Addr} {fp wr : List Addr} {G : Array GenState → Array GenState → Prop} {n : Nat} {P : Nat → Value → Prop} {St : Nat → Shared → Prop}
theorem loopKey (W : WalksS prog w A.in1 I fp wr G n P St) (S : Addr) (hSf : S ∉ fp) (ks : List Key) (hval : ∀ i v, P i v → ∃ k, ks[i]? = some k ∧ RelV (kV k) v) (hb : ks.length + 1 < scanBound) :
    ∀ (c i : Nat) (s : Shared), n - i = c → i ≤ n → St i s →
      s.heap.SetOf (mixKind prog w) S (fun k' => (once (ks.take i)).any fun x => decide (x = k')) (once (ks.take i)).length →
      (∀ s', Moved (S :: wr) G s s' → s'.heap.SetOf (mixKind prog w) S (fun k' => (once (ks.take n)).any fun x => decide (x = k')) (once (ks.take n)).length → R (.ok (.ret .none)) s') →
      codeAny (model prog w) A (.builtin "set.update.loop" ⟨[.ref S, .ref I], []⟩) R s := by
  have hSw : S ∉ wr := fun h => hSf (W.sub _ h)
  have hsub : ∀ b ∈ wr, b ∈ S :: wr := fun b hb => List.mem_cons_of_mem _ hb
  intro c
  induction c with
  | zero =>
    intro i s hk hi hst hS hR
    have hin : i = n := by omega
    subst hin
    refine codeAny_builtin PyProof.Rows.F.entry_set_update_loop ?_
    rw [Around.under_plainId PyProof.Rows.F.plain_set_update_loop _]
    show wpAny _ A.in1 (pyNext (.ref I) >>= _) _ _ s
    refine wpAny_bind (W.done s _ _ hst fun s' hm => ?_)
    show wpAny _ A.in1 (ret Value.none) _ _ s'
    exact wpAny_pure (hR s' (hm.mono hsub) (by
      obtain ⟨o, es, ep, t, ho, rest⟩ := hS
      exact ⟨o, es, ep, t, hm.heap S _ hSw ho, rest⟩))
  | succ c ih =>
    intro i s hk hi hst hS hR
    have hlt : i < n := by omega
    refine codeAny_builtin PyProof.Rows.F.entry_set_update_loop ?_
    rw [Around.under_plainId PyProof.Rows.F.plain_set_update_loop _]
    show wpAny _ A.in1 (pyNext (.ref I) >>= _) _ _ s
    refine wpAny_bind (W.item i s _ _ hlt hst fun v s' hP hst' hm => ?_)
    obtain ⟨k, ek, rv⟩ := hval i v hP
    have hS' : s'.heap.SetOf (mixKind prog w) S (fun k' => (once (ks.take i)).any fun x => decide (x = k')) (once (ks.take i)).length := by
      obtain ⟨o, es, ep, tb, ho, rest⟩ := hS
      exact ⟨o, es, ep, tb, hm.heap S _ hSw ho, rest⟩
    show wpAny _ A.in1 (holding [v] (setAdd S v) >>= _) _ _ s'
    refine wpAny_bind (wpAny_holding ?_)
    unfold setAdd
    refine wpAny_holding ?_
    refine wpAny_bind ((mixKind prog w).pyHash (k := k) (kV_is rv) ?_)
    have hil : i < ks.length := (List.getElem?_eq_some_iff.mp ek).1
    have hroom : (once (ks.take i)).length + 1 < scanBound := by
      have := once_le (ks.take i).length (ks.take i) rfl
      rw [List.length_take] at this
      omega
    refine wpAny_setAddHashed_of (knd := mixKind prog w) (s := { s' with toks := s'.toks + 1 }) (kV_is rv) (key_scan rv) hS' hroom fun h' hsb hS2 => ?_
    have et : ks.take (i + 1) = ks.take i ++ [k] := by rw [List.take_add_one, ek]; rfl
    have hSi : h'.SetOf (mixKind prog w) S (fun k' => (once (ks.take (i + 1))).any fun x => decide (x = k')) (once (ks.take (i + 1))).length :=
      setOf_congr hS2 (fun k' => by rw [et, once_snoc, stepK_any]) (by rw [et, once_snoc, stepK_len])
    refine wpAny_pure ⟨plainId_quiet PyProof.Rows.F.plain_set_update_loop _, ih (i + 1) _ (by omega) hlt (W.frame _ s' _ _ hst' (Nat.le_succ _) fun b hb o e => ?_) hSi fun s'' hm'' hS'' => ?_⟩
    · rw [hsb.2 b (fun h : b = S => hSf (by rw [← h]; exact hb))]; exact e
    · refine hR s'' (Moved.trans W.gtrans ((hm.mono hsub).then_heap (Nat.le_succ _) fun b o hb e => ?_) hm'') hS''
      rw [hsb.2 b (fun h : b = S => hb (by rw [h]; exact List.mem_cons_self))]; exact e
end
structure Src (prog : Program) (w : World) (T : String) (l : Addr) (items : Array Value) (h : Heap) : Prop where
  at_ : ∃ od nl sl, h.get? l = some { cls := .type T, dict := od, data := .seq items nl, slots := sl }
  s1 : isSubtype (.type T) (.type "set") = pure false
  s2 : isSubtype (.type T) (.type "frozenset") = pure false
  s3 : (Value.type T == Value.type "dict") = false
  it : ∃ (o : Obj) (Hh : Heap → Prop), Begins (.ref l) o Hh ∧ Hh h ∧ ∀ (A : Around) (I : Addr), A.handled = none → l ≠ I → ∃ St : Nat → Heap → Prop, Walks prog w A I [I, l] [I] items.size (fun i v => items[i]? = some v) St ∧ ∀ h', Hh h' → h'.get? I = some o → St 0 h'
theorem src_list {prog : Program} {w : World} {l : Addr} {items : Array Value} {h : Heap} (hl : h.IsList l items) : Src prog w "list" l items h where
  at_ := by
    obtain ⟨⟨c, d, dt, sl⟩, h1, h2, n, h3⟩ := hl
    simp only at h2 h3
    subst h2 h3
    exact ⟨d, n, sl, h1⟩
  s1 := PySem.F.sub_list_set
  s2 := PySem.F.sub_list_frozenset
  s3 := by decide
  it := ⟨_, _, begins_list l items, hl, fun A I hh hne => ⟨_, Walks.list hh I l hne items, fun h' a b => ⟨⟨_, b, rfl, rfl⟩, a⟩⟩⟩
theorem src_tup {prog : Program} {w : World} {l : Addr} {items : Array Value} {h : Heap} (hl : h.IsTuple l items) : Src prog w "tuple" l items h where
  at_ := by
    obtain ⟨⟨c, d, dt, sl⟩, h1, h2, n, h3⟩ := hl
    simp only at h2 h3
    subst h2 h3
    exact ⟨d, n, sl, h1⟩
  s1 := PySem.F.sub_tuple_set
  s2 := PySem.F.sub_tuple_frozenset
  s3 := by decide
  it := ⟨_, _, begins_tuple l items, hl, fun A I hh hne => ⟨_, Walks.tuple hh I l hne items, fun h' a b => ⟨⟨_, b, rfl, rfl⟩, a⟩⟩⟩
section
variable {prog : Program} {w : World} {A : Around} {E : Value → Shared → Prop} {s : Shared}
theorem call_setK {T : String} {l : Addr} {items : Array Value} {ks : List Key} {Q : Value → Shared → Prop}
    (hh : A.handled = none) (sr : Src prog w T l items s.heap) (hi : ∀ (i : Nat) (v : Value), items[i]? = some v → ∃ k, ks[i]? = some k ∧ RelV (kV k) v) (hsz : ks.length = items.size) (hn1 : ks.length + 1 < scanBound)
    (h : ∀ (h' : Heap) (tk : Nat), h'.SetOf (mixKind prog w) s.heap.objs.size (fun k' => (once ks).any fun x => decide (x = k')) (once ks).length →
      (∀ b o, b < s.heap.objs.size → s.heap.get? b = some o → h'.get? b = some o) → Q (.ref s.heap.objs.size) { s with heap := h', toks := tk }) :
    wpAny (model prog w) A (call (.type "set") [.ref l]) Q E s := by
  obtain ⟨c, tl, hmro⟩ := PySem.F.called_set.mro
  have hmade := PySem.F.called_set.made
  have hsub := PySem.F.called_set.sub
  refine wpAny_call (codeAny_of_tree ?_)
  show wpAny _ _ (callAny (.type "set") _) _ _ _
  refine wpAny_pure ⟨Code.quiet_builtin _ (by decide +kernel), codeAny_builtin PySem.F.entry_type_call ?_⟩
  rw [Around.under_plain (weight_type_call_type "set" [.ref l] []) rfl]
  have h1 := PySem.F.called_set.notType
  have h2 := PySem.F.called_set.canCreate
  have hct := PySem.F.typeCall_set_1 (.ref l)
  repeat (any_goals (first | assumption | wp_step))
  refine codeAny_mono (PySem.code_set_new_1 (.ref l) (E := E) (Q₁ := fun obj s₁ => ∃ led : Bool, obj = .ref s.heap.objs.size ∧ s₁ = { s with heap := s.heap.push { cls := .type "set", dict := none, data := .set #[] 0 (.fresh 0 0 led) } }) fun led => ⟨led, rfl, rfl⟩) fun r s₁ hr => ?_
  cases r with
  | error e => exact hr
  | ok fl =>
    cases fl with
    | ret obj =>
      obtain ⟨led, rfl, rfl⟩ := hr
      have hS : (s.heap.push { cls := .type "set", dict := none, data := .set #[] 0 (.fresh 0 0 led) }).get? s.heap.objs.size = some { cls := .type "set", dict := none, data := .set #[] 0 (.fresh 0 0 led) } := Heap.get?_push_size _ rfl
      have hT : Shared.TypeIs { s with heap := s.heap.push { cls := .type "set", dict := none, data := .set #[] 0 (.fresh 0 0 led) } } (.ref s.heap.objs.size) "set" := ⟨_, hS, rfl⟩
      have hli := PySem.F.called_set.init.lookup
      have hbi := PySem.F.called_set.init.bind (.ref s.heap.objs.size)
      repeat (any_goals (first | assumption | wp_step))
      refine codeAny_mono (codeAny_call_builtin (R := wants (fun r s₂ => r = .none ∧ ∃ h' tk, s₂ = { s with heap := h', toks := tk } ∧
          h'.SetOf (mixKind prog w) s.heap.objs.size (fun k' => (once ks).any fun x => decide (x = k')) (once ks).length ∧
          (∀ b o, b < s.heap.objs.size → s.heap.get? b = some o → h'.get? b = some o)) E) PySem.F.called_set.init.plain PySem.F.entry_set_init (PySem.check_set_init_1 hT ?_)) fun r₂ s₂ hr₂ => ?_
      · obtain ⟨od, nl, osl, hol⟩ := sr.at_
        obtain ⟨o, Hh, Bg, hH, hW⟩ := sr.it
        have hol' : (s.heap.push { cls := .type "set", dict := none, data := .set #[] 0 (.fresh 0 0 led) }).get? l = some { cls := .type T, dict := od, data := .seq items nl, slots := osl } := Heap.get?_push_of_some _ hol
        have hsls := sr.s1
        have hslf := sr.s2
        have hne := sr.s3
        have hH1 : Hh (s.heap.push { cls := .type "set", dict := none, data := .set #[] 0 (.fresh 0 0 led) }) := Bg.keeps _ _ hH fun b o' e => Heap.get?_push_of_some _ e
        unfold Builtin.«set.__init__» noKeywords Builtin.Frozenset.updateFrom
        generalize hPI : pyIter = PI
        wp_walk
        subst hPI
        refine Bg.iter _ _ _ _ _ _ hH1 ?_
        refine wpAny_bind (wpAny_runValue ?_)
        have hlS : l < s.heap.objs.size := Heap.lt_size hol
        have hh3 : A.in1.in1.in1.handled = none := by simp [hh]
        have hneI : l ≠ (s.heap.push { cls := .type "set", dict := none, data := .set #[] 0 (.fresh 0 0 led) }).objs.size := by
          rw [Heap.size_push]; exact Nat.ne_of_lt (Nat.lt_succ_of_lt hlS)
        have hSf : s.heap.objs.size ∉ [(s.heap.push { cls := .type "set", dict := none, data := .set #[] 0 (.fresh 0 0 led) }).objs.size, l] := by
          rw [Heap.size_push]; simp only [List.mem_cons, List.mem_singleton, List.not_mem_nil, or_false, not_or]
          exact ⟨Nat.ne_of_lt (Nat.lt_succ_self _), Nat.ne_of_gt hlS⟩
        obtain ⟨St, Wk, st0⟩ := hW _ _ hh3 hneI
        refine loopKey (Wk.toS) s.heap.objs.size hSf ks hi hn1 (items.size - 0) 0 _ (by omega) (Nat.zero_le _)
          (st0 _ (Bg.keeps _ _ hH1 fun b o' e => Heap.get?_push_of_some _ e) (Heap.get?_push_size _ Bg.free)) ?hS0 ?hR
        case hS0 =>
          have hget : ((s.heap.push { cls := .type "set", dict := none, data := .set #[] 0 (.fresh 0 0 led) }).push o).get? s.heap.objs.size
              = some { cls := .type "set", dict := none, data := .set #[] 0 (.fresh 0 0 led) } := Heap.get?_push_of_some _ hS
          have := set_fresh (prog := prog) (w := w) hget
          simpa using this
        case hR =>
          intro s' hm hS'
          rw [← hsz, List.take_length] at hS'
          obtain ⟨h', g', d', tk', os'⟩ := s'
          have eg : g' = s.gens := hm.gens
          have ed : d' = s.drawn := hm.drawn
          have eo : os' = s.os := hm.os
          subst eg; subst ed; subst eo
          show wpAny _ _ _ _ _ _
          refine wpAny_pure ?_
          show wpAny _ _ (ret Value.none) _ _ _
          refine wpAny_pure ⟨rfl, h', tk', rfl, hS', fun b o hb e => ?_⟩
          have hb1 : b ≠ s.heap.objs.size := Nat.ne_of_lt hb
          have hb2 : b ≠ (s.heap.push { cls := .type "set", dict := none, data := .set #[] 0 (.fresh 0 0 led) }).objs.size := by
            rw [Heap.size_push]; exact Nat.ne_of_lt (Nat.lt_succ_of_lt hb)
          exact hm.heap b o (by simp only [List.mem_cons, List.mem_singleton, List.not_mem_nil, or_false, not_or]; exact ⟨hb1, hb2⟩) (Heap.get?_push_of_some _ (Heap.get?_push_of_some _ e))
      · cases r₂ with
        | error e => exact hr₂
        | ok fl₂ =>
          cases fl₂ with
          | ret r =>
            obtain ⟨rfl, h', tk, rfl, hS', hk'⟩ := hr₂
            repeat (any_goals (first | assumption | wp_step))
            exact h _ _ hS' hk'
          | _ => exact hr₂.elim
    | _ => exact hr.elim
end
end RM

namespace RM
open PySem PySem.Spec PyProof.Rows L2
variable [PgW]
def keyD : D → Option Key
  | .int i => some (.inl i)
  | .str x => some (.inr x)
  | _ => none
def keysD : List D → Option (List Key)
  | [] => some []
  | d :: ds => match keyD d, keysD ds with
    | some k, some ks => some (k :: ks)
    | _, _ => none
theorem keysD_den {K : PySem.W.Frag} {p : List (List Addr)} {G : Hp} : ∀ {ds : List D} {vs : List V} {ks : List Key}, DenL K p G ds vs → keysD ds = some ks → vs = ks.map kV
  | [], vs, ks, h, e => by
    cases e
    exact h
  | d :: ds, vs, ks, ⟨v, r, h1, h2, h3⟩, e => by
    unfold keysD at e
    cases e1 : keyD d with
    | none => rw [e1] at e; cases e
    | some k =>
      cases e2 : keysD ds with
      | none => rw [e1, e2] at e; cases e
      | some ks' =>
        rw [e1, e2] at e
        cases e
        rw [h1, keysD_den h3 e2]
        cases d <;> try cases e1
        · cases (show v = .int _ from h2); rfl
        · cases (show v = .str _ from h2); rfl
def lenSetD : D → M D
  | .lst xs => match keysD xs with
    | some ks => if ks.length ≤ 4000 then pure (.int (once ks).length) else stuck
    | none => stuck
  | .tup xs => match keysD xs with
    | some ks => if ks.length ≤ 4000 then pure (.int (once ks).length) else stuck
    | none => stuck
  | _ => stuck
def tLenK (K : PySem.W.Frag) (ta : TE) : TE := fun σ H Q => ta σ H fun x H1 => ∃ (l : Addr) (ks : List Key), x = .ref l ∧ (SqL K H1 l (ks.map kV) ∨ SqT K H1 l (ks.map kV)) ∧ ks.length ≤ 4000 ∧ Q (.int (once ks).length) H1
section
variable {X : Cx}
theorem pe_lenK {a : Expr} {ta : TE} {p p2 q pos : Pos} (hc : X.calm = true) (hg : Gl X "len") (hm : X.mg "len" = none) (hg2 : Gl X "set") (hm2 : X.mg "set" = none) (ha : PE X a ta)
    (na : starEach [a] X.env = (false, eval a X.env) :: starEach [] X.env := by rfl) : PE X (.Call (.Name "len" p) [.Call (.Name "set" p2) [a] [] q] [] pos) (tLenK X.K ta) := by
  refine ⟨fun pins s σ H Q I h => ?_⟩
  refine Call_ (ld_blt I hg hm boot_len ?_)
  refine PyProof.Rows.callWith_builtin1 (PyProof.Rows.args_cons ?_ rfl) rfl rfl
  refine Call_ (ld_blt I hg2 hm2 PyProof.Rows.boot_set ?_)
  refine PyProof.Rows.callWith_type1 (PyProof.Rows.args_cons (thn (ha.run pins s σ H _ I h) fun v s1 ⟨x, H1, I1, r1, q1⟩ => PyProof.Rows.args_nil ?_) na) na rfl
  obtain ⟨l, ks, rfl, hq, h1, q1⟩ := q1
  cases r1
  have hle := once_le ks.length ks rfl
  have fin : ∀ (h' : Heap) (tk : Nat), h'.SetOf (mixKind X.prog X.w) s1.heap.objs.size (fun k' => (once ks).any fun x => decide (x = k')) (once ks).length →
      (∀ b o, b < s1.heap.objs.size → s1.heap.get? b = some o → h'.get? b = some o) →
      wpAny (model X.prog X.w) X.A (spliced (backTo pos (starEach [] X.env))) (fun vs s₂ => wpAny (model X.prog X.w) X.A (call (.builtin "len") (Value.ref s1.heap.objs.size :: vs)) (EP X pins σ Q) X.xe s₂) X.xe { s1 with heap := h', toks := tk } := fun h' tk hS hk => by
    refine PyProof.Rows.args_nil ?_
    obtain ⟨o, es, ep, t, ho, hex, hd, _, _, _, hf, hn⟩ := hS
    have I2 : Inv X pins σ H1 { s1 with heap := h', toks := tk } := I1.kept fun b o e => hk b o (Heap.lt_size e) e
    refine call_len_set ho hex hd hf (by rw [hn] <;> omega) ⟨.int (once ks).length, H1, I2.tok _, ⟨_, by rw [hn]⟩, q1⟩
  have at_ : ∀ (its : List Value), Vals (ks.map kV) its → (∀ (i : Nat) (v : Value), its.toArray[i]? = some v → ∃ k, ks[i]? = some k ∧ RelV (kV k) v) ∧ ks.length = its.toArray.size := fun its r => by
    have hl := r.length
    rw [List.length_map] at hl
    refine ⟨fun i v hv => ?_, by simp [hl]⟩
    have hv : its[i]? = some v := by simpa using hv
    have hi : i < ks.length := by
      have := (List.getElem?_eq_some_iff.mp hv).1
      omega
    obtain ⟨u, e1, e2⟩ := r.get (i := i) (x := kV ks[i]) (by simp [hi])
    rw [hv] at e1
    cases e1
    exact ⟨ks[i], by simp [hi], e2⟩
  rcases hq with hq | hq
  · obtain ⟨its, r, pl, hz⟩ := I1.list hq
    obtain ⟨a1, a2⟩ := at_ its r
    exact call_setK (I1.ok.hd hc) (src_list pl.isList) a1 a2 (by unfold scanBound; omega) fin
  · obtain ⟨its, r, pl, hz⟩ := I1.tuple hq
    obtain ⟨a1, a2⟩ := at_ its r
    exact call_setK (I1.ok.hd hc) (src_tup pl) a1 a2 (by unfold scanBound; omega) fin
theorem xe_lenSet {W : WX} {g : DSt} {a : Expr} {ma : M D} {p p2 q pos : Pos} (hc : X.calm = true) (hg : Gl X "len") (hm : X.mg "len" = none) (hg2 : Gl X "set") (hm2 : X.mg "set" = none) (ha : XE X W g a ma)
    (na : starEach [a] X.env = (false, eval a X.env) :: starEach [] X.env := by rfl) : XE X W g (.Call (.Name "len" p) [.Call (.Name "set" p2) [a] [] q] [] pos) (B ma lenSetD) := by
  refine PE.imp (pe_lenK hc hg hm hg2 hm2 ha na) fun σ H Q ⟨p, G, S, ow, r, h⟩ => ?_
  refine ⟨p, G, S, ow, r, okR.seq h fun d S1 v p1 G1 H1 e1 dn r1 x1 h1 => ?_⟩
  have key : ∀ (xs : List D) (l : Addr) (vs : List V), v = .ref l → (SqL X.K H1 l vs ∨ SqT X.K H1 l vs) → DenL X.K p1 G1 xs vs → okR (Den X.K) X.K p1 G1 H1 (fun c d H' => W c d σ H') ((match keysD xs with
      | some ks => if ks.length ≤ 4000 then (pure (.int (once ks).length) : M D) else stuck
      | none => stuck) S1) Q → ∃ (l : Addr) (ks : List Key), v = .ref l ∧ (SqL X.K H1 l (ks.map kV) ∨ SqT X.K H1 l (ks.map kV)) ∧ ks.length ≤ 4000 ∧ Q (.int (once ks).length) H1 := by
    intro xs l vs ev hs hd h
    cases e : keysD xs with
    | none => rw [e] at h; exact h.elim
    | some ks =>
      rw [e] at h
      have h : okR (Den X.K) X.K p1 G1 H1 (fun c d H' => W c d σ H') ((if ks.length ≤ 4000 then (pure (.int (once ks).length) : M D) else stuck) S1) Q := h
      by_cases hz : ks.length ≤ 4000
      · rw [if_pos hz] at h
        rw [keysD_den hd e] at hs
        exact ⟨l, ks, ev, hs, hz, okR.fin (d := D.int _) (v := L2.V.int _) h rfl r1⟩
      · rw [if_neg hz] at h; exact h.elim
  cases d <;> try exact h1.elim
  · obtain ⟨l, vs, ev, hl, hv⟩ := dn
    exact key _ l vs ev (.inr (SqT.mono r1.sub hl)) hv h1
  · obtain ⟨l, vs, ev, hl, hv⟩ := dn
    exact key _ l vs ev (.inl (SqL.of (r1.sub _ _ hl))) hv h1
end
end RM

namespace RM
open PySem PySem.Spec PyProof.Rows L2
variable [PgW]
end RM

namespace RM
open PySem PySem.Spec PyProof.Rows L2
variable [PgW]
end RM

namespace RM
open PySem PySem.Spec PyProof.Rows L2
variable [PgW]
def keyV : Value → Key
  | .int k _ => .inl k
  | .str x _ => .inr x
  | _ => .inl 0
abbrev keysOf (l : List (Int × Value)) : List Key := l.map fun e => keyV e.2
def SetW (P : Program) (w : World) (h : Heap) (a : Addr) (ks : List Key) : Prop :=
  ∃ o es ep t, h.get? a = some o ∧ o.ExactSet ∧ o.data = .set es ep t ∧ ElemsOf (mixKind P w) es.toList ∧ (keysOf es.toList).Perm (once ks) ∧
    es.size < scanBound ∧ t.fits es.size = true ∧ Ris t.place.toList ∧ (w.params.followText "set-order" = true ∨ t.led = true)
theorem SetW.at {P : Program} {w : World} {h h' : Heap} {a : Addr} {ks : List Key} (R : SetW P w h a ks) (k : ∀ o, h.get? a = some o → h'.get? a = some o) : SetW P w h' a ks := by
  obtain ⟨o, es, ep, t, ho, r⟩ := R
  exact ⟨o, es, ep, t, k o ho, r⟩
section
variable {P : Program} {w : World} {A : Around} {E : Value → Shared → Prop} {s : Shared} {a : Addr} {ks : List Key}
theorem stored {h : Heap} {o : Obj} {xs ys : Array (Int × Value)} {ep : Nat} {t u : SetTable} (ho : h.get? a = some o) (hd : o.data = .set xs ep t) :
    (h.update a (Obj.putSet ys u)).get? a = some { o with data := .set ys (ep + 1) u } := by
  have e := putSet_of ys u hd
  have z := Heap.get?_update_self (Obj.putSet ys u) ho (by rw [e]; rfl)
  rwa [e] at z
end
end RM

namespace RM
open PySem PySem.Spec PyProof.Rows L2
variable [PgW]
end RM

namespace RM
open PySem PySem.Spec PyProof.Rows L2
variable [PgW]
def outL (o : Obj) : List Addr := match o.data with
  | .seq its _ => its.toList.flatMap He.refV
  | .dict es _ => es.toList.flatMap fun e => He.refV e.val
  | .func fd => He.refV fd.code ++ (He.refV fd.defaults ++ He.refV fd.kwdefaults)
  | .cls cd => [cd.ns]
  | .fields vs => vs.toList.flatMap He.refV
  | _ => []
end RM

namespace RM
open PySem PySem.Spec PyProof.Rows L2
variable [PgW]
def j0 {α : Type} (f : M α) : List D → M α
  | [] => f
  | _ => stuck
def j1 {α : Type} (f : D → M α) : List D → M α
  | [a] => f a
  | _ => stuck
def j2 {α : Type} (f : D → D → M α) : List D → M α
  | [a, b] => f a b
  | _ => stuck
def j3 {α : Type} (f : D → D → D → M α) : List D → M α
  | [a, b, c] => f a b c
  | _ => stuck
def j4 {α : Type} (f : D → D → D → D → M α) : List D → M α
  | [a, b, c, d] => f a b c d
  | _ => stuck
def j5 {α : Type} (f : D → D → D → D → D → M α) : List D → M α
  | [a, b, c, d, e] => f a b c d e
  | _ => stuck
@[simp] theorem j0_at {α : Type} (f : M α) : j0 f [] = f := Eq.trans rfl rfl
@[simp] theorem j1_at {α : Type} (f : D → M α) (a : D) : j1 f [a] = f a := Eq.trans rfl rfl
@[simp] theorem j2_at {α : Type} (f : D → D → M α) (a b : D) : j2 f [a, b] = f a b := Eq.trans rfl rfl
@[simp] theorem j3_at {α : Type} (f : D → D → D → M α) (a b c : D) : j3 f [a, b, c] = f a b c := Eq.trans rfl rfl
@[simp] theorem j4_at {α : Type} (f : D → D → D → D → M α) (a b c d : D) : j4 f [a, b, c, d] = f a b c d := Eq.trans rfl rfl
@[simp] theorem j5_at {α : Type} (f : D → D → D → D → D → M α) (a b c d e : D) : j5 f [a, b, c, d, e] = f a b c d e := Eq.trans rfl rfl
def spF (K : PySem.W.Frag) (k : Nat) (f : List D → M (List D)) : Sp := fun vs H Q E => ∃ ds p G S, ds.length = k ∧ DenL K p G ds vs ∧ Rel0 K p S G H ∧ okF K p G H E (f ds S) Q
theorem spF.len {K : PySem.W.Frag} {k : Nat} {f : List D → M (List D)} (vs : List V) (H : Hp) (Q : VK) (E : L2.XK) (h : spF K k f vs H Q E) : vs.length = k := by
  obtain ⟨ds, p, G, S, e, dn, _⟩ := h
  rw [dn.length, e]
end RM

namespace RM
open PySem PySem.Spec PyProof.Rows L2
variable [PgW]
end RM

namespace RM
open PySem PySem.Spec PyProof.Rows L2
variable [PgW]
theorem rev_places : ∀ n : Nat, (List.range n).map (fun (k : Nat) => (((n : Int) - 1) + (-1) * (k : Int)).toNat) = (List.range n).reverse := by
  intro n
  apply List.ext_getElem
  · simp
  · intro i h1 h2
    simp at h1
    simp only [List.getElem_map, List.getElem_range, List.getElem_reverse, List.length_range]
    omega
theorem all_picked (its : List Value) : (List.range its.length).filterMap (fun i => its.toArray[i]?) = its := by
  have := slicePick_all its.toArray
  unfold slicePick at this
  obtain ⟨h1, h2, h3⟩ := slice_bounds none none its.toArray.size
  rw [h1, h2, h3] at this
  have e : sliceRange ((_root_.HT.sIx its.toArray.size 0 none : Nat) : Int) ((_root_.HT.sIx its.toArray.size its.toArray.size none : Nat) : Int) 1 = List.range its.length := by
    rw [sliceRange_one, _root_.HT.sIx_none, _root_.HT.sIx_none, List.size_toArray]
    simp
  rw [e] at this
  exact congrArg Array.toList this
theorem slicePick_rev (its : List Value) : slicePick its.toArray none none (some (-1)) = its.reverse.toArray := by
  unfold slicePick
  have b : sliceBounds none none (some (-1)) its.toArray.size = ((its.length : Int) - 1, -1, -1) := by
    unfold sliceBounds
    simp
  rw [b]
  have r : sliceRange ((its.length : Int) - 1) (-1) (-1) = (List.range its.length).reverse := by
    unfold sliceRange
    have e : ((if (-1 : Int) > 0 then (if (its.length : Int) - 1 < -1 then (-1 - ((its.length : Int) - 1) + -1 - 1) / -1 else 0) else (if (its.length : Int) - 1 > -1 then ((its.length : Int) - 1 - -1 - -1 - 1) / (- -1) else 0)) : Int).toNat = its.length := by
      simp
      split
      · omega
      · omega
    show (List.range (((if (-1 : Int) > 0 then (if (its.length : Int) - 1 < -1 then (-1 - ((its.length : Int) - 1) + -1 - 1) / -1 else 0) else (if (its.length : Int) - 1 > -1 then ((its.length : Int) - 1 - -1 - -1 - 1) / (- -1) else 0)) : Int).toNat)).map _ = _
    rw [e]
    exact rev_places its.length
  rw [r, List.filterMap_reverse, all_picked]
def tRevL (K : PySem.W.Frag) (ta ts : TE) : TE := fun σ H Q => ta σ H fun x H1 => ts σ H1 fun y H2 => y = .int (-1) ∧ ∃ l xs, x = .ref l ∧ SqL K H2 l xs ∧ ∀ q, H2 q = none → Q (.ref q) (upd H2 q (.lst xs.reverse))
section
variable {X : Cx}
theorem pe_revL {a st : Expr} {ta ts : TE} {pos p2 : Pos} (ha : PE X a ta) (hs : PE X st ts) : PE X (.Subscript a (.Slice none none (some st) p2) pos) (tRevL X.K ta ts) := by
  refine ⟨fun pins s σ H Q I h => ?_⟩
  refine Subscript_ (thn (ha.run pins s σ H _ I h) fun v s1 ⟨x, H1, I1, r1, q1⟩ => ?_)
  refine wpAny_Slice ?_
  rw [evalPart_none, evalPart_some]
  refine wpAny_pure (wpAny_pure (thn (hs.run pins s1 σ H1 _ I1 q1) fun z s3 ⟨y, H3, I3, r3, q3⟩ => ?_))
  obtain ⟨rfl, l, xs, rfl, hx, q⟩ := q3
  obtain ⟨t, rfl⟩ := r3
  cases r1
  have I4 : Inv X pins σ H3 { s3 with heap := s3.heap.push { cls := .type "slice", data := .fields #[.none, .none, .int (-1) t] } } := I3.kept (t' := s3.toks) fun b ob e => Heap.get?_push_of_some _ e
  obtain ⟨its, r, hl, hz⟩ := I4.list hx
  have hlen := r.length
  have hg : wpAny (model X.prog X.w) X.A (getItem (.ref l) (.ref s3.heap.objs.size)) (EP X pins σ Q) X.xe { s3 with heap := s3.heap.push { cls := .type "slice", data := .fields #[.none, .none, .int (-1) t] } } := by
    refine wpAny_getItem_list_slice (st := some (-1)) hl.isList (Heap.IsSliceOf.new ..) .none .none (.int (-1) t) (by simp) ?_ (by rw [List.size_toArray]; omega)
    rw [slicePick_rev]
    refine ⟨.ref _, _, I4.laid (t' := s3.toks) (o := .lst xs.reverse) (fun b ob e => Heap.get?_push_of_some _ e) (Nat.le_refl _) ?_, rfl, q _ (I4.hok.fresh (Nat.le_refl _))⟩
    exact ⟨by rw [List.length_reverse]; exact hz, _, 0, r.reverse, Heap.get?_push_size _ rfl⟩
  exact tail_any (ops := [.ref l, .ref s3.heap.objs.size]) hl.isList.typeIs slot_list_getitem.lookup hg (by with_unfolding_all rfl)
end
def revF : D → M (List D)
  | .lst xs => pure xs.reverse
  | _ => stuck
theorem DenL.rev {K : PySem.W.Frag} {p : List (List Addr)} {G : Hp} : ∀ {ds : List D} {vs : List V}, DenL K p G ds vs → DenL K p G ds.reverse vs.reverse
  | [], _, h => by cases (show _ = [] from h); exact rfl
  | d :: ds, _, ⟨v, r, h1, h2, h3⟩ => by
    rw [h1, List.reverse_cons, List.reverse_cons]
    exact (DenL.rev h3).append (DenL.one h2)
section
variable {X : Cx} {W : WX} {g : DSt} {a b : Expr} {ma mb : M D} {pos p2 p3 p4 apos cpos : Pos}
theorem xf_rev {j : Nat} (ha : XE X W g a ma) : XF X W g (.Subscript a (.Slice none none (some (.UnaryOp .USub (.Constant (.int 1) j p3) p4)) p2) pos) (B ma revF) := by
  have hst : XE X W g (.UnaryOp .USub (.Constant (.int 1) j p3) p4) (B (pure (.int 1)) negD) := xe_neg xe_int
  refine PE.imp (pe_revL ha hst) fun σ H Q ⟨p, G, S, ow, r, h⟩ => ?_
  have h : okF X.K p G H (fun c d H' => W c d σ H') ((ma >>= revF) S) Q := h
  refine ⟨p, G, S, ow, r, okF.seq h fun d S1 v p1 G1 H1 e1 dn r1 x1 h1 => ⟨p1, G1, S1, ow, r.ext x1 r1, ?_⟩⟩
  show okR (Den X.K) X.K p1 G1 H1 _ (.ok (.int (-1)) S1) _
  intro u p2 G2 H2 du r2 x2
  refine ⟨du, ?_⟩
  cases d <;> try exact h1.elim
  rename_i xs
  obtain ⟨l, vs, rfl, hl, hv⟩ := dn
  have h2 := h1.ext x2
  exact ⟨l, vs, rfl, SqL.of (r2.sub _ _ (x2.g _ _ hl)), fun q hq => okF.lay (xs := xs.reverse) h2 r2 hq ((hv.mono x2.pp x2.g).rev)⟩
end
end RM

namespace RM
open PySem PySem.Spec PyProof.Rows L2
variable [PgW]
theorem SetW.ty {P : Program} {w : World} {s : Shared} {a : Addr} {ks : List Key} (R : SetW P w s.heap a ks) : s.TypeIs (.ref a) "set" := by
  obtain ⟨o, es, ep, t, ho, hx, _⟩ := R
  exact ⟨o, ho, hx.1⟩
end RM

namespace RM
open PySem PySem.Spec PyProof.Rows L2
variable [PgW]
def zipL : List D → List D → List D
  | x :: xs, y :: ys => .tup [x, y] :: zipL xs ys
  | _, _ => []
def zipD : D → D → M (List D)
  | .lst xs, .lst ys => pure (zipL xs ys)
  | .tup xs, .tup ys => pure (zipL xs ys)
  | _, _ => stuck
end RM

namespace RM
open PySem PySem.Spec PyProof.Rows L2
variable [PgW]
def AllG (K : PySem.W.Frag) (m : Str) : MT → Prop
  | [] => True
  | q :: r => PySem.W.fnIn K (He.ma K (He.ga K q.1) m) = true ∧ AllG K m r
theorem AllG.get {K : PySem.W.Frag} {m c : Str} {h : D → D → M D} : ∀ {T : MT}, AllG K m T → T.lookup c = some h → PySem.W.fnIn K (He.ma K (He.ga K c) m) = true
  | [], _, e => by cases e
  | q :: r, ⟨a, b⟩, e => by
    obtain ⟨c', h'⟩ := q
    rw [List.lookup_cons] at e
    cases z : c == c' with
    | true =>
      rw [beq_iff_eq.mp z]
      exact a
    | false =>
      rw [z] at e
      exact AllG.get b e
end RM

namespace RM
open PySem PySem.Spec PyProof.Rows L2
variable [PgW]
end RM

namespace RM
open PySem PySem.Spec PyProof.Rows L2
variable [PgW]
end RM

namespace RM
open PySem PySem.Spec PyProof.Rows L2
variable [PgW]
theorem SlotsR.getL {K : PySem.W.Frag} {p : List (List Addr)} {G H : Hp} : ∀ {t : DSt} {σ : L2.St} {ow : List Addr} {i : Nat} {v : V} {R : List (List Addr) → Hp → Prop}, SlotsR K p G H t σ ow → t[i]? = some (some (.lam v R)) → σ[i]? = some (some v) ∧ R p G
  | [], _, _, _, _, _, _, e => by simp at e
  | _ :: _, _, _, 0, v, R, ⟨u, r, l, k, h1, h2, h3, _⟩, e => by
    simp only [List.getElem?_cons_zero, Option.some.injEq] at e
    subst e
    obtain ⟨e1, e2, e3⟩ := h3
    exact ⟨by rw [h1, e2]; rfl, e3 p G ⟨[], by simp⟩ (Same.refl _)⟩
  | _ :: _, _, _, i + 1, v, R, ⟨u, r, l, k, h1, h2, _, h4⟩, e => by
    obtain ⟨e1, e2⟩ := SlotsR.getL (i := i) h4 (by simpa using e)
    exact ⟨by rw [h1]; simpa using e1, e2⟩
def tryM (z0 y0 : D) (cs : List Str) (mw : M D) : M (D × D) := fun S => match mw S with
  | .ok d S' => .ok (d, y0) S'
  | .exc x S' => if x.cls ∈ cs then .ok (z0, .xcp x.cls x.ns x.fs) S' else .stuck
  | .stuck => .stuck
def tryE (y0 : D) (cs : List Str) (mw : M D) : M D := fun S => match mw S with
  | .ok _ S' => .ok y0 S'
  | .exc x S' => if x.cls ∈ cs then .ok (.xcp x.cls x.ns x.fs) S' else .stuck
  | .stuck => .stuck
end RM

namespace RM
open PySem PySem.Spec PyProof.Rows L2
variable [PgW]
def tabbed {α : Type} (j : Nat) (fnm q : Str) (m : M α) : M α := fun S => match S[j]? with
  | some (.tab n' q') => if n' = fnm ∧ q' = q then m S else .stuck
  | _ => .stuck
def valsOnly : DSt → DSt
  | [] => []
  | some (.val d) :: t => some (.val d) :: valsOnly t
  | some (.lam v R) :: t => some (.lam v R) :: valsOnly t
  | _ :: t => none :: valsOnly t
section
variable {K : PySem.W.Frag} {p : List (List Addr)} {S : Sto} {G H : Hp}
theorem Rel0.tab (r : Rel0 K p S G H) {j : Nat} {fnm q : Str} (hs : S[j]? = some (.tab fnm q)) : p[j]? = some [(He.cT K (fnm, none)).2] ∧ ∃ ps, H (He.cT K (fnm, none)).2 = some (.tbl ps) ∧ TriplesOk ps.toList ∧ ∀ (pos : Pos) (cv : Value), codeAmong pos ps.toList = some cv → ∃ c, cv = .ref c ∧ G c = some (LamX.CodeO c q) := by
  have hj : j < p.length := by rw [r.len]; exact (List.getElem?_eq_some_iff.mp hs).1
  have e : p[j]? = some p[j] := List.getElem?_eq_getElem hj
  have m := r.mo j _ _ e hs
  match as : p[j], m with
  | [x], m =>
    obtain ⟨rfl, h⟩ := m
    exact ⟨by rw [e, as], h⟩
  | [], m => exact m.elim
  | _ :: _ :: _, m => exact absurd m (by unfold MoAt; simp)
end
end RM

namespace RM
open PySem PySem.Spec PyProof.Rows L2
variable [PgW]
def subE (c : Str) : Ty → Bool
  | .o e => decide (c = e) || decide (e = "PriceError")
  | .b _ => true
def excB (K : PySem.W.Frag) (ex : List Str) : Bool := ex.all fun c =>
  He.eqO (PySem.W.findIn K (.ref (He.ga K c)) "__getattribute__") (some (some (.builtin "BaseException.__getattribute__"))) && He.eqO (PySem.W.findIn K (.ref (He.ga K c)) "__getattr__") (some none) && decide (PySem.W.subIn K (.ref (He.ga K c)) (.type "BaseException") = some true) && PySem.W.hasDictIn K (He.ga K c) &&
  He.eqO (PySem.W.findIn K (.ref (He.ga K c)) "__class__") (some (some (.builtin "object.__class__"))) && He.eqO (PySem.W.specialIn K (.builtin "object.__class__") "__get__") (some (some (.builtin "getset_descriptor.__get__"))) && decide (PySem.W.takesIn K (.builtin "object.__class__") = some true) &&
  decide (PySem.W.mroIn K (He.ga K c) (.type "object") = some true) && decide (PySem.W.kitOne K (.ref (He.ga K c)) (.type "ValueError") = some true) && decide (PySem.W.kitOne K (.type "NoneType") (.ref (He.ga K c)) = some false) &&
  ex.all fun e => decide (PySem.W.kitOne K (.ref (He.ga K c)) (.ref (He.ga K e)) = some (subE c (.o e)))
structure ExT (K : PySem.W.Frag) (ex : List Str) : Prop where
  xc : ∀ c ∈ ex, L2.ExcC K (He.ga K c)
  ve : ∀ c ∈ ex, PySem.W.kitOne K (.ref (He.ga K c)) (.type "ValueError") = some true
  nn : ∀ c ∈ ex, PySem.W.kitOne K (.type "NoneType") (.ref (He.ga K c)) = some false
  oo : ∀ c ∈ ex, ∀ e ∈ ex, PySem.W.kitOne K (.ref (He.ga K c)) (.ref (He.ga K e)) = some (subE c (.o e))
theorem excB_ok {K : PySem.W.Frag} {ex : List Str} (h : excB K ex = true) : ExT K ex := by
  have k : ∀ c ∈ ex, _ := fun c hc => List.all_eq_true.mp h c hc
  simp only [Bool.and_eq_true, List.all_eq_true, decide_eq_true_eq] at k
  exact ⟨fun c hc => ⟨He.eqO_ok (k c hc).1.1.1.1.1.1.1.1.1.1, He.eqO_ok (k c hc).1.1.1.1.1.1.1.1.1.2, (k c hc).1.1.1.1.1.1.1.1.2, (k c hc).1.1.1.1.1.1.1.2, He.eqO_ok (k c hc).1.1.1.1.1.1.2, He.eqO_ok (k c hc).1.1.1.1.1.2, (k c hc).1.1.1.1.2, (k c hc).1.1.1.2⟩,
    fun c hc => (k c hc).1.1.2, fun c hc => (k c hc).1.2, fun c hc e he => (k c hc).2 e he⟩
def xfldB (K : PySem.W.Frag) (tb : List (Str × Str)) : Bool := tb.all fun q => He.eqO (PySem.W.findIn K (.ref (He.ga K q.1)) q.2) (some none)
theorem xfldB_ok {K : PySem.W.Frag} {tb : List (Str × Str)} (h : xfldB K tb = true) : ∀ q ∈ tb, PySem.W.findIn K (.ref (He.ga K q.1)) q.2 = some none := fun q hq => He.eqO_ok (List.all_eq_true.mp h q hq)
end RM

namespace RM
open PySem PySem.Spec PyProof.Rows L2
variable [PgW]
def outE (o : Obj) : List Addr := match o.data with
  | .func fd => He.refV fd.code ++ (He.refV fd.defaults ++ (He.refV fd.kwdefaults ++ fd.closure.map fun q => q.2))
  | _ => outL o
def lvE (g : Addr → Option Obj) : Nat → List Addr → List Addr
  | 0, as => as
  | n + 1, as => as ++ lvE g n ((as.flatMap fun a => match g a with
    | some o => outE o
    | none => []).filter fun a => Nat.blt 3 a)
abbrev asE (n : Nat) (g : Addr → Option Obj) : List Addr := cStatics :: lvE g n [mainGlobals]
abbrev frE (n : Nat) (g : Addr → Option Obj) : PySem.W.Frag := He.frT g (asE n g)
def oexB (K : PySem.W.Frag) (C : Addr) : Bool := (match K.lookup C with
  | some ⟨.type t, _, .cls cd, sl⟩ => decide (t = "type") && (match cd.mro with | .ref c :: bm => decide (c = C) && PySem.HandSPX.refsVE bm | _ => false) && cd.hasDict && !cd.hasDel && (match sl.toList with | [_, _, _, _, some (.builtin n), _] => decide (n = "ValueError.__new__") | _ => false)
  | _ => false) && He.eqO (PySem.W.findIn K (.ref C) "__setattr__") (some (some (.builtin "object.__setattr__"))) && decide (PySem.W.subIn K (.ref C) (.type "BaseException") = some true) && decide (PySem.W.typeIn K (.ref C) = some (.type "type")) && PySem.W.keepIn K (.ref C)
structure SupD where
  cls : Str
  fl : Str
  name : Str
  qual : Str
  params : Arguments
  body : List Stmt
  scope : Scope
abbrev SupW : Type := Option (Str × Str × Arguments × FuncBody × Scope × Addr × List Str × Addr)
abbrev SupD.f (d : SupD) (K : PySem.W.Frag) : Addr := He.ma K (He.ga K d.cls) "__init__"
def supW (K : PySem.W.Frag) (d : SupD) : SupW := match K.lookup (d.f K) with
  | some ⟨_, _, .func fd, _⟩ => some (fd.name, fd.qualname, fd.params, fd.body, fd.scope, fd.globals, fd.closure.map (fun q => q.1), fd.builtins)
  | _ => none
def SupD.val (d : SupD) : SupW := some (d.name, d.qual, d.params, .stmts d.body, d.scope, mainGlobals, ["__class__"], builtinsNs)
def supOk (file : Str) (K : PySem.W.Frag) (d : SupD) : Bool := oexB K (He.ga K d.cls) && He.eqO (PySem.W.findIn K (.ref (He.ga K d.cls)) "__init__") (some (some (.ref (d.f K)))) && decide (PySem.W.typeIn K (.ref (d.f K)) = some (.type "function")) && He.eqO (PySem.W.findIn K (.ref (He.ga K d.cls)) d.fl) (some none) &&
  (match K.lookup (d.f K) with
  | some ⟨_, _, .func fd, _⟩ => (match fd.code, fd.closure with
    | .ref cda, [(_, cc)] => (match fd.defaults with | .none => true | _ => false) && PySem.W.codeIn K (.ref cda) d.qual && (match K.lookup cda with
      | some ⟨_, _, .fields vs, _⟩ => (match (vs[2]? : Option Value) with
        | some (.str f _) => file == f
        | _ => false)
      | _ => false) && (match K.lookup cc with
      | some ⟨_, _, .cell (some (.ref C')), _⟩ => decide (C' = He.ga K d.cls)
      | _ => false)
    | _, _ => false)
  | _ => false) && He.eqO (PySem.W.nsIn K cStatics "thirdparty.any") (some none) && He.eqO (PySem.W.ks_superIn K (He.ga K d.cls) (He.ga K d.cls) "__init__") (some (some (.builtin "ValueError.__init__"))) &&
  decide (PySem.W.subIn K (.ref (He.ga K d.cls)) (.type "ValueError") = some true) && decide (PySem.W.mroIn K (He.ga K d.cls) (.ref (He.ga K d.cls)) = some true)
structure HkE where
  fa : List He.Fa
  fn : List He.DefD
  pr : List PrD
  chk : PySem.W.Frag → Bool
  ts : List TabD
  sp : List SupD
  tf : List (Str × Str)
  file : Str
def modsE (g : Addr → Option Obj) : Bool := match g sysModules with
  | some o => (match o.data with | .dict _ _ => true | _ => false)
  | none => false
def tabsE (g : Addr → Option Obj) (tf : List (Str × Str)) (K : PySem.W.Frag) : Bool := (tf.all fun p => PySem.W.codeHdIn K (He.cT K (p.1, none)).1 (He.cT K (p.1, none)).2 && (match g (He.cT K (p.1, none)).2 with
  | some o => He.emptyTab o
  | none => false)) && decide ((tf.map fun p => (He.cT K (p.1, none)).2).Nodup)
abbrev AlE : Type := AlY × Bool × List SupW
namespace HkE
variable (h : HkE)
def obsK (g : Addr → Option Obj) (K : PySem.W.Frag) : AlE := (obsY h.fa h.fn h.pr h.chk h.ts K, ((modsE g && tabsE g h.tf K) && h.sp.all fun d => supOk h.file K d), h.sp.map fun d => supW K d)
def obs (n : Nat) (g : Addr → Option Obj) : AlE := h.obsK g (frE n g)
def val (w : World) : AlE := (((He.valD h.fn, true, h.pr.map fun q : PrD => q.d.val), h.ts.map fun t => some (He.keysIn w.params (tabKeys t))), true, h.sp.map SupD.val)
structure Says (w : World) (hp : Heap) (K : PySem.W.Frag) : Prop where
  y : SaysY h.fa h.fn h.pr h.chk h.ts w K
  sp : ∀ d ∈ h.sp, supOk h.file K d = true ∧ supW K d = d.val
  hd : ∀ p ∈ h.tf, PySem.W.codeHdIn K (He.cT K (p.1, none)).1 (He.cT K (p.1, none)).2 = true
  out : ∀ p ∈ h.tf, K.lookup (He.cT K (p.1, none)).2 = none
  empty : ∀ p ∈ h.tf, hp.get? (He.cT K (p.1, none)).2 = some { cls := .none, data := .fields #[] }
  nd : (h.tf.map fun p => (He.cT K (p.1, none)).2).Nodup
  sm : ∃ o es ep, hp.get? sysModules = some o ∧ o.data = .dict es ep
theorem says_of {n : Nat} {w : World} {hp : Heap} (e : h.obs n hp.get? = h.val w) : h.Says w hp (frE n hp.get?) := by
  unfold obs obsK val at e
  have e1 := congrArg (fun z : AlE => z.1) e
  have e2 := congrArg (fun z : AlE => z.2.1) e
  have e3 := congrArg (fun z : AlE => z.2.2) e
  dsimp only at e1 e2 e3
  generalize hK : frE n hp.get? = K at *
  rw [Bool.and_eq_true] at e2
  obtain ⟨e4, e5⟩ := e2
  rw [Bool.and_eq_true] at e4
  obtain ⟨e0, e4⟩ := e4
  have sm : ∃ o es ep, hp.get? sysModules = some o ∧ o.data = .dict es ep := by
    unfold modsE at e0
    cases q : hp.get? sysModules with
    | none => rw [q] at e0; cases e0
    | some o =>
      rw [q] at e0
      dsimp only at e0
      split at e0
      · rename_i es ep q2
        exact ⟨o, es, ep, rfl, q2⟩
      · cases e0
  unfold tabsE at e4
  rw [Bool.and_eq_true] at e4
  have key : ∀ p ∈ h.tf, PySem.W.codeHdIn K (He.cT K (p.1, none)).1 (He.cT K (p.1, none)).2 = true ∧ ∃ o, hp.get? (He.cT K (p.1, none)).2 = some o ∧ He.emptyTab o = true := fun p hp' => by
    have z := List.all_eq_true.mp e4.1 p hp'
    rw [Bool.and_eq_true] at z
    refine ⟨z.1, ?_⟩
    cases q : hp.get? (He.cT K (p.1, none)).2 with
    | none => rw [q] at z; cases z.2
    | some o => rw [q] at z; exact ⟨o, rfl, z.2⟩
  refine ⟨⟨SaysX.of (congrArg (fun z : AlY => z.1) e1), congrArg (fun z : AlY => z.2) e1⟩, fun d hd => ⟨List.all_eq_true.mp e5 d hd, ?_⟩, fun p hp' => (key p hp').1, fun p hp' => ?_, fun p hp' => ?_, of_decide_eq_true e4.2, sm⟩
  · obtain ⟨i, hi, ed⟩ := List.mem_iff_getElem.mp hd
    have z : (h.sp.map fun d => supW K d)[i]? = (h.sp.map SupD.val)[i]? := congrArg (fun l : List SupW => l[i]?) e3
    rw [List.getElem?_map, List.getElem?_map, List.getElem?_eq_getElem hi, ed] at z
    exact Option.some.inj z
  · obtain ⟨_, o, q, z⟩ := key p hp'
    rw [← hK]
    rw [← hK] at q
    exact He.frT_none q z
  · obtain ⟨_, o, q, z⟩ := key p hp'
    rw [q, He.emptyTab_eq z]
def hook (n : Nat) : PySem.W.Hook where
  α := AlE
  obs := fun s => h.obs n s.heap.get?
  val := fun w => h.val w
  says := fun w hp => ∃ K : PySem.W.Frag, K.In hp ∧ h.Says w hp K
  of := fun _ _ e => ⟨_, He.frT_in, h.says_of e⟩
  keeps := fun _ _ _ ⟨K, hK, c⟩ k => ⟨K, PySem.W.Frag.In.keeps hK k, ⟨c.y, c.sp, c.hd, c.out, fun p hp => k _ _ (c.empty p hp), c.nd, let ⟨o, es, ep, a, b⟩ := c.sm; ⟨o, es, ep, k _ _ a, b⟩⟩⟩
theorem obs_eq {n : Nat} {g : Addr → Option Obj} {s : Shared} (e : ∀ a, g a = s.heap.get? a) : h.obs n g = (h.hook n).obs s := by
  have e : g = s.heap.get? := funext e
  rw [e] <;> rfl
end HkE
abbrev tabP (K : PySem.W.Frag) (tf : List (Str × Str)) : List (List Addr) := tf.map fun t => [(He.cT K (t.1, none)).2]
abbrev tabS (tf : List (Str × Str)) : Sto := tf.map fun t => .tab t.1 t.2
structure TabsB (base : Heap) (mg : Str → Option Value) (K : PySem.W.Frag) (tf : List (Str × Str)) : Prop where
  tb : ∀ t ∈ tf, LamX.TabB base mg (He.cT K (t.1, none)).1 (He.cT K (t.1, none)).2
  sm : ∃ o, base.get? sysModules = some o
theorem law_GT {P : Program} {w : World} {K : PySem.W.Frag} {mg mb : Str → Option Value} {k : Nat} {fa a : Addr} {fd : FuncData} {x : Str} {g : List D → M D} {s : Shared} {us : List Value} {ns : List Int} {S' : Sto} {tf : List (Str × Str)}
    (kin : K.In s.heap) (gl : s.heap.Ns mainGlobals mg) (bl : s.heap.Ns builtinsNs mb) (bb : ∀ x : Str, x ≠ "__name__" → mb x = bootBuiltins x) (lim : s.heap.NoLimit) (gens : s.gens = #[])
    (hbm : ∃ (bm : Addr) (ob : Obj), mg "__builtins__" = some (.ref bm) ∧ bm ≠ builtinsNs ∧ s.heap.get? bm = some ob ∧ ob.cls = .type "module" ∧ ob.dict = some builtinsNs ∧ ob.data = .plain)
    (hS : ∃ o es ep, s.heap.get? sysModules = some o ∧ o.data = .dict es ep) (hT : ∀ t ∈ tf, s.heap.get? (He.cT K (t.1, none)).2 = some { cls := .none, data := .fields #[] }) (nT : ∀ t ∈ tf, K.lookup (He.cT K (t.1, none)).2 = none) (cT : ∀ t ∈ tf, PySem.W.CodeHd s.heap (He.cT K (t.1, none)).1 (He.cT K (t.1, none)).2) (nd : (tf.map fun t => (He.cT K (t.1, none)).2).Nodup)
    (ha : s.heap.get? a = some { cls := .type "list", data := .seq us.toArray }) (hi : IntsAre us ns) (hl : ns.length ≤ sizeLine) (hr : Room k callerA)
    (F : ∀ base : Heap, K.In base → base.Ns mainGlobals mg → TabsB base mg K tf → FnD P w K mg base k fa fd [x] g) (bd : ∀ (s : Shared) (u : Value), BindsTo s fd ⟨[u], []⟩ [(x, u)]) (hm : g [.scr ns] (tabS tf) = .ok (.bl true) S') :
    codeAny (model P w) callerA (.call (.ref fa) ⟨[.ref a], []⟩) (fun r s' => r = .ok (.ret (.bool true)) ∧ OldK s.heap s'.heap ∧ s'.os = s.os ∧ AllBare s'.gens) s := by
  have rv := vals_ints hi
  -- the addresses of the tables
  let Ts : List Addr := tf.map fun t => (He.cT K (t.1, none)).2
  have inT : ∀ b, b ∈ Ts → ∃ t ∈ tf, (He.cT K (t.1, none)).2 = b := fun b hb => List.mem_map.mp hb
  have tIn : ∀ t ∈ tf, (He.cT K (t.1, none)).2 ∈ Ts := fun t ht => List.mem_map.mpr ⟨t, ht, rfl⟩
  have atT : ∀ b, b ∈ Ts → s.heap.get? b = some { cls := .none, data := .fields #[] } := fun b hb => by
    obtain ⟨t, ht, rfl⟩ := inT b hb
    exact hT t ht
  have aT : a ∉ Ts := fun z => by
    have q := atT a z
    rw [ha] at q
    have q2 : Data.seq us.toArray _ = Data.fields #[] := congrArg Obj.data (Option.some.inj q)
    cases q2
  -- G: what is frozen (the script, if K does not tell it)
  have main : ∀ G : Hp, (∀ b o, G b = some o → b = a ∧ o = .frz { cls := .type "list", data := .seq us.toArray } (.lst (ns.map V.int))) → SqL K G a (ns.map V.int) → (G a ≠ none → K.lookup a = none) →
      codeAny (model P w) callerA (.call (.ref fa) ⟨[.ref a], []⟩) (fun r s' => r = .ok (.ret (.bool true)) ∧ OldK s.heap s'.heap ∧ s'.os = s.os ∧ AllBare s'.gens) s := by
    intro G only seq far
    have gT : ∀ b, b ∈ Ts → G b = none := fun b hb => by
      cases q : G b with
      | none => rfl
      | some o => obtain ⟨rfl, _⟩ := only b o q; exact absurd hb aT
    let H : Hp := fun b => if b ∈ Ts then some (.tbl #[]) else G b
    have hTb : ∀ b, b ∈ Ts → H b = some (.tbl #[]) := fun b hb => if_pos hb
    have hNo : ∀ b, b ∉ Ts → H b = G b := fun b hb => if_neg hb
    have sm : Same G H := fun b o e => by
      have : b ∉ Ts := fun z => by rw [gT b z] at e; cases e
      rw [hNo b this]; exact e
    have hok : HOk P w H s.heap := fun b o e => by
      by_cases z : b ∈ Ts
      · rw [hTb b z] at e
        cases e
        exact atT b z
      · rw [hNo b z] at e
        obtain ⟨rfl, rfl⟩ := only b o e
        exact ⟨ha, by rw [List.length_map]; exact hl, us, _, rv, ha⟩
    have free : ∀ {b : Addr} {o : Obj}, s.heap.get? b = some o → (∀ vs n, o.data ≠ .seq vs n) → o.data ≠ .fields #[] → H b = none := fun {b o} e h1 h2 => by
      by_cases z : b ∈ Ts
      · rw [atT b z] at e
        cases e
        exact absurd rfl h2
      · rw [hNo b z]
        cases q : G b with
        | none => rfl
        | some u =>
          obtain ⟨rfl, _⟩ := only b u q
          rw [ha] at e
          cases e
          exact absurd rfl (h1 _ _)
    have nsK : ∀ {b : Addr} {m : Str → Option Value}, s.heap.Ns b m → (hidT s.heap H).Ns b m := fun {b m} h => by
      obtain ⟨o, es, ep, e, d, rest⟩ := h
      exact ⟨o, es, ep, hidT_get e (free e (fun _ _ z => by rw [d] at z; cases z) fun z => by rw [d] at z; cases z), d, rest⟩
    have kb : K.In (hidT s.heap H) := fun b o e => by
      refine hidT_get (kin b o e) ?_
      by_cases z : b ∈ Ts
      · obtain ⟨t, ht, rfl⟩ := inT b z
        rw [nT t ht] at e; cases e
      · rw [hNo b z]
        cases q : G b with
        | none => rfl
        | some u =>
          obtain ⟨rfl, _⟩ := only b u q
          rw [far (by rw [q]; simp)] at e
          cases e
    obtain ⟨mc, l1, l2⟩ := lim
    have hM : Mod K mg (hidT s.heap H) := ⟨kb, nsK gl, ⟨mb, nsK bl, bb⟩, ⟨mc, nsK l1, l2⟩⟩
    have TB0 : ∀ t ∈ tf, LamX.TabB (hidT s.heap H) mg (He.cT K (t.1, none)).1 (He.cT K (t.1, none)).2 := fun t ht => by
      refine ⟨?_, ?_, fun z => ?_⟩
      · obtain ⟨o, vs, f1, f2, f3, f4, f5, f6, f7, c1, c2, c3, c4⟩ := cT t ht
        exact ⟨o, vs, f1, f2, f3, f4, f5, f6, f7, hidT_get c1 (free c1 (fun _ _ z => by rw [c3] at z; cases z) fun z => by rw [c3] at z; cases z; simp at c4), c2, c3, c4⟩
      · obtain ⟨bm, ob, b1, b2, b3, b4, b5, b6⟩ := hbm
        refine ⟨bm, ob, b1, b2, fun q => ?_, fun q => ?_, hidT_get b3 (free b3 (fun _ _ z => by rw [b6] at z; cases z) fun z => by rw [b6] at z; cases z), b4, b5, b6⟩
        · obtain ⟨o, es, ep, e, d, _⟩ := gl
          rw [q, e] at b3
          cases b3
          rw [d] at b6; cases b6
        · rw [q, hT t ht] at b3
          cases b3
          cases b6
      · obtain ⟨o, es, ep, e, d, _⟩ := gl
        rw [z, hT t ht] at e
        cases e
        cases d
    have TB : TabsB (hidT s.heap H) mg K tf := ⟨TB0, by
      obtain ⟨o, es, ep, q1, q2⟩ := hS
      exact ⟨o, hidT_get q1 (free q1 (fun _ _ z => by rw [q2] at z; cases z) fun z => by rw [q2] at z; cases z)⟩⟩
    have e0 : Env0 P w K mg (hidT s.heap H) callerA [] s H := ⟨rfl, hM, fun b o e => of_hidT e, Nat.le_of_eq (hidT_size _ _), trivial, (fun b hb => nomatch (show b ∈ ([] : List Addr) from hb)), hok, AllBare.of_eq gens⟩
    have fl : (tabP K tf).flatten = Ts := by
      show (tf.map fun t => [(He.cT K (t.1, none)).2]).flatten = tf.map _
      clear hTb hNo sm hok free nsK kb hM TB TB0 e0 hm F nd hT nT cT inT tIn atT aT gT
      induction tf with
      | nil => rfl
      | cons t r ih => simp only [List.map_cons, List.flatten_cons, ih, List.singleton_append]
    have want : spD K 1 g [.ref a] H (fun v _ => v = .bl true) fun _ _ _ => False := by
      refine ⟨[.scr ns], tabP K tf, G, tabS tf, rfl, DenL.one ⟨a, rfl, seq⟩, ⟨sm, by simp, fun i as o e1 e2 => ?_, by rw [fl]; exact nd, fun b hb => gT b (by rw [← fl]; exact hb)⟩, ?_⟩
      · rw [List.getElem?_map] at e1 e2
        cases q : tf[i]? with
        | none => rw [q] at e1; cases e1
        | some t =>
          rw [q] at e1 e2
          cases e1
          cases e2
          exact ⟨rfl, #[], hTb _ (tIn t (List.mem_of_getElem? q)), trivial, fun pos cv z => by cases z⟩
      · rw [hm]
        exact fun v p' G' H' dv _ _ => dv
    refine codeAny_mono ((F _ kb (nsK gl) TB).go callerA [] s H ⟨[.ref a], []⟩ [.ref a] [.ref a] _ _ rfl hr e0 (bd s (.ref a)) (.cons rfl .nil) want) fun r s2 q => ?_
    match r, q with
    | .error e, q =>
      obtain ⟨_, _, _, _, _, _, _, _, _, _, _, _, z⟩ := q
      exact z.elim
    | .ok .next, q => exact False.elim q
    | .ok .brk, q => exact False.elim q
    | .ok .cont, q => exact False.elim q
    | .ok (.ret u), ⟨v, H', os, bare, un, hok', r', q⟩ =>
      have q' : v = .bl true := q
      subst q'
      cases (show u = Value.bool true from r')
      have stay : ∀ b o, b ∉ Ts → s.heap.get? b = some o → s2.heap.get? b = some o := fun b o nb e => by
        cases q : H b with
        | none => exact un.keep b o e q (fun z => nomatch (show b ∈ ([] : List Addr) from z)) (by simp)
        | some z =>
          rw [hNo b nb] at q
          obtain ⟨rfl, rfl⟩ := only b z q
          obtain ⟨e2, _⟩ := hok' b _ (un.frzs b _ _ (by rw [hNo b nb]; exact q))
          rw [ha] at e
          cases e
          exact e2
      have more : ∀ b, b ∈ Ts → ∃ vs : Array Value, s2.heap.get? b = some { cls := .none, data := .fields vs } := fun b hb => by
        obtain ⟨m, z⟩ := un.tbls b #[] (hTb b hb)
        exact ⟨_, hok' b _ z⟩
      refine ⟨rfl, ⟨fun b o e => ?_, fun b o e => ?_⟩, os, bare⟩
      · by_cases hb : b ∈ Ts
        · obtain ⟨vs, e2⟩ := more b hb
          obtain ⟨t, ht, rfl⟩ := inT b hb
          rw [hT t ht] at e
          cases e
          exact .inr (.inl ⟨((cT t ht).tab (hT t ht)).isCodeTable, rfl, #[], vs, rfl, by rw [Array.empty_append]; exact e2⟩)
        · exact .inl (stay b o hb e)
      · by_cases hb : b ∈ Ts
        · obtain ⟨vs, e2⟩ := more b hb
          exact ⟨_, e2⟩
        · exact ⟨o, stay b o hb e⟩
  cases hk : K.lookup a with
  | some o =>
    have e := kin a o hk
    rw [ha] at e
    cases e
    exact main (fun _ => none) (fun b o z => nomatch (show (none : Option HO) = some o from z)) (.inr ⟨_, us.toArray, _, hk, rfl, rfl, rfl, by rw [List.size_toArray, hi.length]; exact hl, by simpa using rv⟩) fun z => absurd rfl z
  | none =>
    refine main (fun b => if b = a then some (.frz { cls := .type "list", data := .seq us.toArray } (.lst (ns.map V.int))) else none) (fun b o z => ?_) (.inl (.inr ⟨_, if_pos rfl⟩)) fun _ => hk
    by_cases hb : b = a
    · have z' := (if_pos hb).symm.trans z
      cases z'
      exact ⟨hb, rfl⟩
    · have z' := (if_neg hb).symm.trans z
      cases z'
omit [PgW] in
theorem walk_GT {l : PySem.W.OpenLaw} {n k : Nat} {q : Program} {loose : List Str} {XP : (Str → Option Value) → Heap → Prop} {YP : World → Heap → Prop} {d : DefRec} {x : Str} {g : List D → M D} {tf : List (Str × Str)}
    (hn : l.most = some n) (hn2 : n ≤ sizeLine) (hdf : d.params.defaults = []) (hr : Room k callerA)
    (F : ∀ (w : World) (mg : Str → Option Value) (fa : Addr) (h : Heap), YP w h → h.Ns mainGlobals mg → mg d.name = some (.ref fa) →
      ∃ (K : PySem.W.Frag) (fd : FuncData), K.In h ∧ (∃ o es ep, h.get? sysModules = some o ∧ o.data = .dict es ep) ∧ (∀ t ∈ tf, h.get? (He.cT K (t.1, none)).2 = some { cls := .none, data := .fields #[] }) ∧ (∀ t ∈ tf, K.lookup (He.cT K (t.1, none)).2 = none) ∧ (∀ t ∈ tf, PySem.W.CodeHd h (He.cT K (t.1, none)).1 (He.cT K (t.1, none)).2) ∧ (tf.map fun t => (He.cT K (t.1, none)).2).Nodup ∧
        (∀ (s : Shared) (u : Value), BindsTo s fd ⟨[u], []⟩ [(x, u)]) ∧ ∀ base : Heap, K.In base → base.Ns mainGlobals mg → TabsB base mg K tf → @FnD ⟨l.prog, w⟩ l.prog w K mg base k fa fd [x] g)
    (law : ∀ (w : World) (ns : List Int), ns.length ≤ n → (∀ z ∈ ns, Builtin.Int.intBits z ≤ 1048576) → ∃ S', g [.scr ns] (tabS tf) = .ok (.bl true) S') :
    PySem.W.WalkO q loose XP YP l.row.toRowW d [] (fun f vs => PySem.call f vs) := by
  refine Att.attach_callB hn hdf fun w s₀ s₁ mg mb fa o pm cd doc a vs ns G Y ho hd hcd hmg hobj hints hlen hbits hg => ?_
  obtain ⟨K, fd, kin, hS, hT, nT, cT, nd, hb, hF⟩ := F w mg fa _ Y G.T.g hmg
  obtain ⟨S', e⟩ := law w ns hlen hbits
  letI : PgW := ⟨l.prog, w⟩
  exact law_GT kin G.T.g G.T.b G.T.builtins G.T.nolimit hg G.T.bmain hS hT nT cT nd hobj hints (Nat.le_trans hlen hn2) hr hF hb e
end RM

namespace RM
open PySem PySem.Spec PyProof.Rows L2
variable [PgW]
theorem BodyX.mono {X : Cx} {k j : Nat} {W : Wf} (B : BodyX X k W) (h : j ≤ k) : BodyX X j W := ⟨B.room.mono h, B.gd, B.tk, B.po, B.calm⟩
section
variable [Pre]
theorem HT.tab {α : Type} {n j : Nat} {nm q : Str} {m : M α} {P : α → Prop} (h : HT n m P) (hp : (Pre.pre : Sto)[j]? = some (.tab nm q) := by rfl) : HT n (tabbed j nm q m) P := by
  intro z0 t ht hn
  obtain ⟨a, t', e, r⟩ := h z0 t ht hn
  refine ⟨a, t', ?_, r⟩
  unfold tabbed
  have e2 : (onT t)[j]? = some (.tab nm q) := by
    show (Pre.pre ++ MO.tape t :: Hs.hs)[j]? = _
    rw [List.getElem?_append_left (List.getElem?_eq_some_iff.mp hp).1]; exact hp
  rw [e2]
  dsimp only
  rw [if_pos ⟨rfl, rfl⟩]
  exact e
end
@[simp] theorem tryM_pure (z0 y0 : D) (cs : List Str) (d : D) : tryM z0 y0 cs (pure d) = pure (d, y0) := Eq.trans rfl rfl
@[simp] theorem tryE_pure (y0 : D) (cs : List Str) (d : D) : tryE y0 cs (pure d) = pure y0 := Eq.trans rfl rfl
end RM

namespace RM
open PySem PySem.Spec PyProof.Rows L2
variable [PgW]
def nfB (K : PySem.W.Frag) (cs eq : List Str) : Bool := eq.all fun c => (builtinKinds.all fun n => PySem.W.notFirst K (He.ga K c) (.type n)) && (cs.all fun e => PySem.W.notFirst K (He.ga K c) (.ref (He.ga K e))) &&
  He.eqO (PySem.W.findIn K (.ref (He.ga K c)) "__ne__") (some (some (.builtin "object.__ne__"))) && decide (PySem.W.mroIn K (He.ga K c) (.type "object") = some true)
structure NfT (K : PySem.W.Frag) (cs eq : List Str) : Prop where
  nb : ∀ c ∈ eq, ∀ n ∈ builtinKinds, PySem.W.notFirst K (He.ga K c) (.type n) = true
  no : ∀ c ∈ eq, ∀ e ∈ cs, PySem.W.notFirst K (He.ga K c) (.ref (He.ga K e)) = true
  ne : ∀ c ∈ eq, PySem.W.findIn K (.ref (He.ga K c)) "__ne__" = some (some (.builtin "object.__ne__"))
  ob : ∀ c ∈ eq, PySem.W.mroIn K (He.ga K c) (.type "object") = some true
theorem nfB_ok {K : PySem.W.Frag} {cs eq : List Str} (h : nfB K cs eq = true) : NfT K cs eq := by
  have k : ∀ c ∈ eq, _ := fun c hc => List.all_eq_true.mp h c hc
  simp only [Bool.and_eq_true, List.all_eq_true, decide_eq_true_eq] at k
  exact ⟨fun c hc => (k c hc).1.1.1, fun c hc => (k c hc).1.1.2, fun c hc => He.eqO_ok (k c hc).1.2, fun c hc => (k c hc).2⟩
theorem NfT.at_ {K : PySem.W.Frag} {cs eq : List Str} (N : NfT K cs eq) {c : Str} (hc : c ∈ eq) {k : Ty} (hk : kindOk cs k = true) : PySem.W.notFirst K (He.ga K c) (tyVal K k) = true := by
  cases k with
  | b n => exact N.nb c hc n (of_decide_eq_true hk)
  | o e => exact N.no c hc e (of_decide_eq_true hk)
end RM

namespace RM
open PySem PySem.Spec PyProof.Rows L2
variable [PgW]
def tl2 {α : Type} (f : D → D → M α) : D → M α
  | .lst [a, b] => f a b
  | _ => stuck
def tl3 {α : Type} (f : D → D → D → M α) : D → M α
  | .lst [a, b, c] => f a b c
  | _ => stuck
def tl4 {α : Type} (f : D → D → D → D → M α) : D → M α
  | .lst [a, b, c, d] => f a b c d
  | _ => stuck
@[simp] theorem tl2_lst {α : Type} (f : D → D → M α) (a b : D) : tl2 f (.lst [a, b]) = f a b := Eq.trans rfl rfl
@[simp] theorem tl3_lst {α : Type} (f : D → D → D → M α) (a b c : D) : tl3 f (.lst [a, b, c]) = f a b c := Eq.trans rfl rfl
@[simp] theorem tl4_lst {α : Type} (f : D → D → D → D → M α) (a b c d : D) : tl4 f (.lst [a, b, c, d]) = f a b c d := Eq.trans rfl rfl
end RM

namespace RM
open PySem PySem.Spec PyProof.Rows L2
variable [PgW]
end RM

namespace RM
open PySem PySem.Spec PyProof.Rows L2
variable [PgW]
mutual
def toPyE : D → Option PyData
  | .non => some .none
  | .bl b => some (.bool b)
  | .int i => some (.int i)
  | .str x => some (.str x)
  | .tup xs => (toPyEL xs).map .tuple
  | .lst xs => (toPyEL xs).map .list
  | .dic ks vs => match ks, vs with
    | [], [] => some (.dict [])
    | _, _ => none
  | .ins _ _ _ => none
  | .mref _ => none
  | .scr _ => none
  | .xcp _ _ _ => none
  | .dct _ _ => none
def toPyEL : List D → Option (List PyData)
  | [] => some []
  | x :: xs => match toPyE x, toPyEL xs with
    | some y, some ys => some (y :: ys)
    | _, _ => none
end
def reprE : List D → M D
  | [d] => match toPyE d with
    | some x => if x.showable = true ∧ x.depth ≤ 64 ∧ x.shown.length ≤ sizeLine then pure (.str x.shown) else stuck
    | none => stuck
  | _ => stuck
section
variable {X : Cx} {pins : List (Addr × Obj)} {σ : L2.St} {G H : Hp} {s : Shared} {p : List (List Addr)}
mutual
theorem den_reads (I : Inv X pins σ H s) (sub : Same G H) (hb : H sysModules = none) : ∀ {d : D} {v : L2.V} {u : Value} {x : PyData}, Den X.K p G d v → toPyE d = some x → RelV v u → ∃ as, Reads s.heap u x as ∧ sysModules ∉ as
  | .non, v, u, x, dn, e, r => by
    cases e
    cases (show v = _ from dn)
    cases r
    exact ⟨_, Reads.none, by simp⟩
  | .bl b, v, u, x, dn, e, r => by
    cases e
    cases (show v = _ from dn)
    cases r
    exact ⟨_, Reads.bool b, by simp⟩
  | .int i, v, u, x, dn, e, r => by
    cases e
    cases (show v = _ from dn)
    obtain ⟨t, rfl⟩ := r
    exact ⟨_, Reads.int i t, by simp⟩
  | .str y, v, u, x, dn, e, r => by
    cases e
    cases (show v = _ from dn)
    obtain ⟨t, rfl⟩ := r
    exact ⟨_, Reads.str y t, by simp⟩
  | .tup xs, v, u, x, dn, e, r => by
    obtain ⟨ys, e1, rfl⟩ := Option.map_eq_some_iff.mp (show (toPyEL xs).map PyData.tuple = some x from e)
    obtain ⟨a, vs, rfl, ha, hv⟩ := dn
    cases r
    obtain ⟨its, rv, ⟨o, ho, hc, n, hd⟩, _⟩ := I.tuple (SqT.mono sub ha)
    obtain ⟨as, hr, hn⟩ := den_readsL I sub hb hv e1 rv
    exact ⟨_, Reads.tuple ho hc hd hr, hn⟩
  | .lst xs, v, u, x, dn, e, r => by
    obtain ⟨ys, e1, rfl⟩ := Option.map_eq_some_iff.mp (show (toPyEL xs).map PyData.list = some x from e)
    obtain ⟨a, vs, rfl, ha, hv⟩ := dn
    cases r
    have ha := sub _ _ ha
    obtain ⟨its, rv, ⟨o, n, ho, hc, _, hd⟩, _⟩ := I.list (.inl (.inl ha))
    obtain ⟨as, hr, hn⟩ := den_readsL I sub hb hv e1 rv
    refine ⟨_, Reads.list ho hc hd hr, fun z => ?_⟩
    rcases List.mem_cons.mp z with z | z
    · rw [← z, hb] at ha; cases ha
    · exact hn z
  | .dic [] [], v, u, x, dn, e, r => by
    cases (show some (PyData.dict []) = some x from e)
    obtain ⟨a, o1, vs, rfl, ha, hl, hv⟩ := dn
    cases r
    have ha := sub _ _ ha
    obtain ⟨_, hm, qs, kv, o, es, ep, ho, hx, hd, _, hp, _⟩ := dk_rd I.hok (.inr ⟨_, ha⟩)
    have hq : qs = [] := by
      cases vs with
      | nil => cases kv; rfl
      | cons => cases hl
    subst hq
    have he : es.toList = [] := by
      cases q : es.toList with
      | nil => rfl
      | cons => rw [q] at hp; cases hp
    refine ⟨_, Reads.dict (kvs := []) ho hx.1 hd (by rw [he]; exact ReadsAll.nil) (by rw [he]; exact ReadsAll.nil), fun z => ?_⟩
    simp at z
    rw [← z] at hm
    simp at hm
  | .dic (_ :: _) _, _, _, _, _, e, _ => by cases e
  | .dic [] (_ :: _), _, _, _, _, e, _ => by cases e
  | .ins _ _ _, _, _, _, _, e, _ => by cases e
  | .mref _, _, _, _, _, e, _ => by cases e
  | .scr _, _, _, _, _, e, _ => by cases e
  | .xcp _ _ _, _, _, _, _, e, _ => by cases e
  | .dct _ _, _, _, _, _, e, _ => by cases e
theorem den_readsL (I : Inv X pins σ H s) (sub : Same G H) (hb : H sysModules = none) : ∀ {ds : List D} {vs : List L2.V} {us : List Value} {xs : List PyData}, DenL X.K p G ds vs → toPyEL ds = some xs → Vals vs us → ∃ as, ReadsAll s.heap us xs as ∧ sysModules ∉ as
  | [], vs, us, xs, dn, e, r => by
    cases e
    cases dn
    cases r
    exact ⟨_, ReadsAll.nil, by simp⟩
  | d :: ds, vs, us, xs, dn, e, r => by
    have e' : (match toPyE d, toPyEL ds with
      | some y, some ys => some (y :: ys)
      | _, _ => none) = some xs := e
    cases q1 : toPyE d with
    | none => rw [q1] at e'; cases e'
    | some z =>
      cases q2 : toPyEL ds with
      | none => rw [q1, q2] at e'; cases e'
      | some zs =>
        rw [q1, q2] at e'
        cases e'
        obtain ⟨w, ws, rfl, d1, d2⟩ := dn
        cases r with
        | cons r1 r2 =>
          obtain ⟨as, h1, n1⟩ := den_reads I sub hb d1 q1 r1
          obtain ⟨bs, h2, n2⟩ := den_readsL I sub hb d2 q2 r2
          exact ⟨_, ReadsAll.cons h1 h2, by simp [n1, n2]⟩
end
end
end RM

namespace RM
open PySem PySem.Spec PyProof.Rows L2
variable [PgW]
structure RpE (n w : Nat) (d : D) : Prop where
  ex : ∃ x, toPyE d = some x ∧ x.showable = true ∧ x.leavesShort 13 = true ∧ x.depth ≤ n ∧ x.weight ≤ w
structure RpEL (n w : Nat) (ds : List D) : Prop where
  ex : ∃ xs, toPyEL ds = some xs ∧ PyData.showableAll xs = true ∧ PyData.leavesShortAll 13 xs = true ∧ PyData.depthAll xs ≤ n ∧ PyData.weightAll xs ≤ w
theorem RpE.le {n w n' w' : Nat} {d : D} (h : RpE n w d) (h1 : n ≤ n') (h2 : w ≤ w') : RpE n' w' d := by
  obtain ⟨x, a, b, c, e, f⟩ := h.ex
  exact ⟨x, a, b, c, by omega, by omega⟩
theorem RpE.repr {n w : Nat} {d : D} (h : RpE n w d) (hn : n ≤ 64) (hw : w ≤ 1000000) : ∃ s, reprE [d] = pure (.str s) := by
  obtain ⟨x, a, b, c, e, f⟩ := h.ex
  refine ⟨x.shown, ?_⟩
  unfold reprE
  dsimp only
  rw [a]
  have p20 : (2 : Nat) ^ 20 = 1048576 := by decide
  exact if_pos ⟨b, by omega, PyData.shown_fits (by decide) (by decide) c (by omega)⟩
theorem RpE.str {x : Str} {w : Nat} (h : PyData.canLay0 (.str x) = true) (hw : x.cps.size ≤ w) : RpE 0 w (.str x) := ⟨_, rfl, rfl, PyData.leavesShort_of_canLay0 13 _ h rfl, Nat.le_refl _, hw⟩
theorem RpEL.nil : RpEL 0 0 [] := ⟨_, rfl, rfl, rfl, Nat.le_refl _, Nat.le_refl _⟩
theorem RpEL.cons {n n' w w' : Nat} {d : D} {ds : List D} (h : RpE n w d) (t : RpEL n' w' ds) : RpEL (max n n') (w + 1 + w') (d :: ds) := by
  obtain ⟨x, a, b, c, e, f⟩ := h.ex
  obtain ⟨xs, a', b', c', e', f'⟩ := t.ex
  refine ⟨x :: xs, ?_, ?_, ?_, ?_, ?_⟩
  · show (match toPyE d, toPyEL ds with | some y, some ys => some (y :: ys) | _, _ => none) = _
    rw [a, a']
  · show (PyData.showable x && PyData.showableAll xs) = true
    rw [b, b']; rfl
  · show (PyData.leavesShort 13 x && PyData.leavesShortAll 13 xs) = true
    rw [c, c']; rfl
  · show max (PyData.depth x) (PyData.depthAll xs) ≤ _
    omega
  · show PyData.weight x + 1 + PyData.weightAll xs ≤ _
    omega
theorem RpEL.le {n w n' w' : Nat} {ds : List D} (h : RpEL n w ds) (h1 : n ≤ n') (h2 : w ≤ w') : RpEL n' w' ds := by
  obtain ⟨x, a, b, c, e, f⟩ := h.ex
  exact ⟨x, a, b, c, by omega, by omega⟩
theorem RpEL.all {n w : Nat} : ∀ {ds : List D}, (∀ d ∈ ds, RpE n w d) → RpEL n (ds.length * (w + 1)) ds
  | [], _ => RpEL.nil.le (by omega) (by omega)
  | d :: ds, h => (RpEL.cons (h d (by simp)) (RpEL.all fun x hx => h x (List.mem_cons_of_mem _ hx))).le (by omega) (by rw [List.length_cons, Nat.add_mul]; omega)
theorem RpE.tup {n w : Nat} {ds : List D} (h : RpEL n w ds) : RpE (n + 1) w (.tup ds) := by
  obtain ⟨xs, a, b, c, e, f⟩ := h.ex
  refine ⟨.tuple xs, ?_, b, c, ?_, f⟩
  · show (toPyEL ds).map _ = _
    rw [a]; rfl
  · show PyData.depthAll xs + 1 ≤ _
    omega
theorem RpE.lst {n w : Nat} {ds : List D} (h : RpEL n w ds) : RpE (n + 1) w (.lst ds) := by
  obtain ⟨xs, a, b, c, e, f⟩ := h.ex
  refine ⟨.list xs, ?_, b, c, ?_, f⟩
  · show (toPyEL ds).map _ = _
    rw [a]; rfl
  · show PyData.depthAll xs + 1 ≤ _
    omega
end RM

namespace RM
open PySem PySem.Spec PyProof.Rows L2
variable [PgW]
def splitF : D → D → M (List D)
  | .str a, .str b => if (b.length == 0) = false ∧ a.length + 2 ≤ sizeLine then pure ((Txt.split a b).map D.str) else stuck
  | _, _ => stuck
def partD3 : D → D → M D
  | .str a, .str b => if (b.length == 0) = false ∧ a.length ≤ sizeLine then pure (.tup [.str (Txt.partition a b).1, .str (Txt.partition a b).2.1, .str (Txt.partition a b).2.2]) else stuck
  | _, _ => stuck
def splitX (ma mb : M D) : M (List D) := B ma fun x => B (strD x) fun s => B mb fun y => splitF (.str s) y
def partX (ma mb : M D) : M D := B ma fun x => B (strD x) fun s => B mb fun y => partD3 (.str s) y
@[simp] theorem splitX_pure (s : Str) (m : M D) : splitX (pure (.str s)) m = B m fun y => splitF (.str s) y := Eq.trans rfl rfl
@[simp] theorem partX_pure (s : Str) (m : M D) : partX (pure (.str s)) m = B m fun y => partD3 (.str s) y := Eq.trans rfl rfl
end RM

namespace RM
open PySem PySem.Spec PyProof.Rows L2
variable [PgW]
def strA : List D → M D
  | [.int i] => if i.natAbs.log2 < 1920 then pure (.str (Str.ofString (toString i))) else stuck
  | [.str x] => pure (.str x)
  | _ => stuck
section
variable {X : Cx} {W : WX} {g : DSt} {a b : Expr} {ma mb : M D} {ms : List (M D)} {pos p p2 p3 p4 : Pos}
def fmtD : D → M Str
  | .int i => if i.natAbs.log2 < 1920 then pure (Str.ofString (toString i)) else stuck
  | .str x => if x.length ≤ sizeLine then pure x else stuck
  | _ => stuck
def joinF : Str → List (M Str) → M D
  | acc, [] => pure (.str acc)
  | acc, m :: ms => B m fun y => if (acc ++ y).length ≤ sizeLine then joinF (acc ++ y) ms else stuck
end
@[simp] theorem strA_int' (i : Int) : strA [.int i] = if i.natAbs.log2 < 1920 then pure (.str (Str.ofString (toString i))) else stuck := Eq.trans rfl rfl
@[simp] theorem strA_str (x : Str) : strA [.str x] = pure (.str x) := Eq.trans rfl rfl
@[simp] theorem fmtD_int (i : Int) : fmtD (.int i) = if i.natAbs.log2 < 1920 then pure (Str.ofString (toString i)) else stuck := Eq.trans rfl rfl
@[simp] theorem fmtD_str (x : Str) : fmtD (.str x) = if x.length ≤ sizeLine then pure x else stuck := Eq.trans rfl rfl
@[simp] theorem joinF_nil (acc : Str) : joinF acc [] = pure (.str acc) := Eq.trans rfl rfl
@[simp] theorem joinF_pure (acc x : Str) (ms : List (M Str)) : joinF acc (pure x :: ms) = if (acc ++ x).length ≤ sizeLine then joinF (acc ++ x) ms else stuck := Eq.trans rfl rfl
end RM

namespace RM
open PySem PySem.Spec PyProof.Rows L2
variable [PgW]
end RM

namespace RM
open PySem PySem.Spec PyProof.Rows L2
variable [PgW]
end RM

namespace RM
open PySem PySem.Spec PyProof.Rows L2
variable [PgW]
end RM

namespace RM
open PySem PySem.Spec PyProof.Rows L2
variable [PgW]
end RM

namespace GT
open PySem PySem.SeqAt
open AutoSeq1 (wpAny_loadPart')
open MeetsSeq MeetsSeq2 MeetsSeq3 SeqRoads2
end GT
namespace RM
open PySem PySem.Spec PyProof.Rows L2
variable [PgW]
def sameF : D → D → Bool
  | .non, .non => true
  | .bl a, .bl b => a == b
  | .int a, .int b => a == b
  | .str a, .str b => a == b
  | _, _ => false
mutual
def difD : D → D → Bool
  | .tup xs, e => match e with
    | .tup ys => difL xs ys
    | e => flatD e
  | .ins _ ns fs, e => match e with
    | .ins _ ns' fs' => decide (ns = ns') && difL fs fs'
    | e => flatD e
  | d, e => if flatD d then (if flatD e then !sameF d e else true) else flatD e
def difL : List D → List D → Bool
  | [], [] => false
  | x :: xs, y :: ys => difD x y || difL xs ys
  | _, _ => true
end
section
variable {X : Cx} {pins : List (Addr × Obj)} {σ : L2.St} {H G : Hp} {s : Shared} {p : List (List Addr)}
theorem flat_not {d : D} {a : Addr} (h : Den X.K p G d (.ref a)) : flatD d = false := by
  cases d <;> first | rfl | (cases (show V.ref a = _ from h); done)
theorem not_flat {d : D} {v : V} (h : Den X.K p G d v) (f : flatD d = false) : ∃ a, v = .ref a := by
  cases d with
  | non => cases f
  | bl => cases f
  | int => cases f
  | str => cases f
  | tup => obtain ⟨a, _, rfl, _⟩ := h; exact ⟨a, rfl⟩
  | lst => obtain ⟨a, _, rfl, _⟩ := h; exact ⟨a, rfl⟩
  | ins => obtain ⟨a, _, _, rfl, _⟩ := h; exact ⟨a, rfl⟩
  | mref => obtain ⟨a, _, _, rfl⟩ := h; exact ⟨a, rfl⟩
  | dic => obtain ⟨a, _, _, rfl, _⟩ := h; exact ⟨a, rfl⟩
  | scr => obtain ⟨a, rfl, _⟩ := h; exact ⟨a, rfl⟩
  | xcp => obtain ⟨a, _, _, rfl, _⟩ := h; exact ⟨a, rfl⟩
  | dct => obtain ⟨a, _, _, rfl, _⟩ := h; exact ⟨a, rfl⟩
theorem same_flat {d e : D} {v : V} (h : Den X.K p G d v) (k : Den X.K p G e v) (f : flatD d = true) : flatD e = true ∧ sameF d e = true := by
  cases fe : flatD e with
  | false =>
    obtain ⟨a, rfl⟩ := not_flat k fe
    rw [flat_not h] at f
    cases f
  | true =>
    refine ⟨rfl, ?_⟩
    cases d <;> first | (cases f; done) | skip
    all_goals
      cases e <;> first | (cases fe; done) | skip
    all_goals
      have h1 : v = _ := h
      have k1 : v = _ := k
      rw [h1] at k1
      first | (cases k1; done) | (cases k1; first | rfl | exact beq_self_eq_true _)
theorem zip_inj {α β : Type} : ∀ {as as' : List α} {bs bs' : List β}, bs.length = as.length → bs'.length = as'.length → as.zip bs = as'.zip bs' → bs = bs'
  | [], [], [], [], _, _, _ => rfl
  | [], a' :: as', bs, b' :: bs', _, _, h => by simp at h
  | a :: as, [], b :: bs, bs', _, _, h => by simp at h
  | a :: as, a' :: as', b :: bs, b' :: bs', h1, h2, h => by
    simp only [List.zip_cons_cons, List.cons.injEq, Prod.mk.injEq] at h
    rw [h.1.2, zip_inj (by simpa using h1) (by simpa using h2) h.2]
  | [], _, _ :: _, _, h, _, _ => by simp at h
  | _ :: _, _, [], _, h, _, _ => by simp at h
  | _, [], _, _ :: _, _, h, _ => by simp at h
  | _, _ :: _, _, [], _, h, _ => by simp at h
mutual
theorem dif_den (I : Inv X pins σ H s) (hs : Same G H) : ∀ {d e : D} {v : V}, Den X.K p G d v → Den X.K p G e v → difD d e = true → False
  | .tup xs, e, v, h, k, q => by
    obtain ⟨a, vs, rfl, ha, dl⟩ := id h
    rcases (show (∃ ys, e = .tup ys) ∨ flatD e = true by cases e <;> first | exact .inl ⟨_, rfl⟩ | exact .inr q) with ⟨ys, rfl⟩ | f
    case inr => rw [flat_not k] at f; cases f
    obtain ⟨b, us, eb, hb, el⟩ := id k
    cases eb
    have e := I.tuple_inj (SqT.mono hs ha) (SqT.mono hs hb)
    subst e
    exact difL_den I hs dl el q
  | .ins c ns fs, e, v, h, k, q => by
    obtain ⟨a, dx, vs, rfl, ha, hn, dl⟩ := id h
    rcases (show (∃ c' ns' fs', e = .ins c' ns' fs') ∨ flatD e = true by cases e <;> first | exact .inl ⟨_, _, _, rfl⟩ | exact .inr q) with ⟨c', ns', fs', rfl⟩ | f
    case inr => rw [flat_not k] at f; cases f
    obtain ⟨b, dx', us, eb, hb, hn', el⟩ := id k
    cases eb
    have q : (decide (ns = ns') && difL fs fs') = true := q
    rw [Bool.and_eq_true] at q
    rw [ha] at hb
    have e : ns.zip vs = ns'.zip us := by injection hb with hb; injection hb
    have e := zip_inj hn hn' e
    subst e
    exact difL_den I hs dl el q.2
  | .non, e, v, h, k, q => by
    have z := same_flat h k rfl
    have q : (if flatD e then !sameF .non e else true) = true := q
    rw [if_pos z.1, z.2] at q; cases q
  | .bl b, e, v, h, k, q => by
    have z := same_flat h k rfl
    have q : (if flatD e then !sameF (.bl b) e else true) = true := q
    rw [if_pos z.1, z.2] at q; cases q
  | .int b, e, v, h, k, q => by
    have z := same_flat h k rfl
    have q : (if flatD e then !sameF (.int b) e else true) = true := q
    rw [if_pos z.1, z.2] at q; cases q
  | .str b, e, v, h, k, q => by
    have z := same_flat h k rfl
    have q : (if flatD e then !sameF (.str b) e else true) = true := q
    rw [if_pos z.1, z.2] at q; cases q
  | .lst xs, e, v, h, k, q => by
    obtain ⟨a, rfl⟩ := not_flat h rfl
    have f := flat_not k
    have q : flatD e = true := q
    rw [f] at q; cases q
  | .mref i, e, v, h, k, q => by
    obtain ⟨a, rfl⟩ := not_flat h rfl
    have f := flat_not k
    have q : flatD e = true := q
    rw [f] at q; cases q
  | .dic ks xs, e, v, h, k, q => by
    obtain ⟨a, rfl⟩ := not_flat h rfl
    have f := flat_not k
    have q : flatD e = true := q
    rw [f] at q; cases q
  | .scr ns, e, v, h, k, q => by
    obtain ⟨a, rfl⟩ := not_flat h rfl
    have f := flat_not k
    have q : flatD e = true := q
    rw [f] at q; cases q
  | .xcp c ns fs, e, v, h, k, q => by
    obtain ⟨a, rfl⟩ := not_flat h rfl
    have f := flat_not k
    have q : flatD e = true := q
    rw [f] at q; cases q
  | .dct ks xs, e, v, h, k, q => by
    obtain ⟨a, rfl⟩ := not_flat h rfl
    have f := flat_not k
    have q : flatD e = true := q
    rw [f] at q; cases q
theorem difL_den (I : Inv X pins σ H s) (hs : Same G H) : ∀ {xs ys : List D} {vs : List V}, DenL X.K p G xs vs → DenL X.K p G ys vs → difL xs ys = true → False
  | [], [], _, _, _, q => by cases q
  | [], y :: ys, vs, h, ⟨v, r, e, _, _⟩, q => by
    cases (show vs = [] from h)
    cases e
  | x :: xs, [], vs, ⟨v, r, e, _, _⟩, k, q => by
    cases (show vs = [] from k)
    cases e
  | x :: xs, y :: ys, vs, ⟨v, r, e, h1, h2⟩, ⟨v', r', e', k1, k2⟩, q => by
    rw [e] at e'
    cases e'
    have q : (difD x y || difL xs ys) = true := q
    rcases Bool.or_eq_true _ _ ▸ q with q | q
    · exact dif_den I hs h1 k1 q
    · exact difL_den I hs h2 k2 q
end
end
end RM

namespace RM
open PySem PySem.Spec PyProof.Rows L2
variable [PgW]
def PairB (T : MT) (x y : D) (b : Bool) : Prop := ∃ c ns fs ns' fs' h, x = .ins c ns fs ∧ y = .ins c ns' fs' ∧ T.lookup c = some h ∧ (∀ S, h x y S = .ok (.bl b) S) ∧ (b = false → difD x y = true)
def EqR (T : MT) : List D → List D → Bool → Prop
  | [], [], r => r = true
  | x :: xs, y :: ys, r => (PairB T x y true ∧ EqR T xs ys r) ∨ (PairB T x y false ∧ r = false)
  | _, _, r => r = false
theorem PairB.one {T : MT} {x y : D} (h : PairB T x y true) (k : PairB T x y false) : False := by
  obtain ⟨c, ns, fs, ns', fs', m, rfl, rfl, l, e, _⟩ := h
  obtain ⟨c2, ns2, fs2, ns2', fs2', m2, ex, ey, l2, e2, _⟩ := k
  cases ex
  rw [l] at l2
  cases l2
  have := (e []).symm.trans (e2 [])
  cases this
theorem EqR.one {T : MT} : ∀ {xs ys : List D} {r q : Bool}, EqR T xs ys r → EqR T xs ys q → r = q
  | [], [], r, q, h, k => (show r = true from h).trans (show q = true from k).symm
  | [], _ :: _, r, q, h, k => (show r = false from h).trans (show q = false from k).symm
  | _ :: _, [], r, q, h, k => (show r = false from h).trans (show q = false from k).symm
  | x :: xs, y :: ys, r, q, h, k => by
    rcases (show (PairB T x y true ∧ EqR T xs ys r) ∨ (PairB T x y false ∧ r = false) from h) with ⟨a, h⟩ | ⟨a, h⟩
    · rcases (show (PairB T x y true ∧ EqR T xs ys q) ∨ (PairB T x y false ∧ q = false) from k) with ⟨b, k⟩ | ⟨b, k⟩
      · exact h.one k
      · exact (a.one b).elim
    · rcases (show (PairB T x y true ∧ EqR T xs ys q) ∨ (PairB T x y false ∧ q = false) from k) with ⟨b, k⟩ | ⟨b, k⟩
      · exact (b.one a).elim
      · exact h.trans k.symm
end RM

namespace RM
open PySem PySem.Spec PyProof.Rows L2
variable [PgW]
end RM

namespace RM
open PySem PySem.Spec PyProof.Rows L2
variable [PgW]
def seqOf : D → M (List D)
  | .tup xs => pure xs
  | .lst xs => pure xs
  | _ => stuck
@[simp] theorem seqOf_tup (xs : List D) : seqOf (.tup xs) = pure xs := Eq.trans rfl rfl
@[simp] theorem seqOf_lst (xs : List D) : seqOf (.lst xs) = pure xs := Eq.trans rfl rfl
def argsS {β : Type} : List (Bool × M D) → (List D → M β) → M β
  | [], k => k []
  | (false, m) :: r, k => B m fun x => argsS r fun xs => k (x :: xs)
  | (true, m) :: r, k => B m fun x => B (seqOf x) fun zs => argsS r fun xs => k (zs ++ xs)
@[simp] theorem argsS_nil {β : Type} (k : List D → M β) : argsS [] k = k [] := Eq.trans rfl rfl
@[simp] theorem argsS_one {β : Type} (m : M D) (r : List (Bool × M D)) (k : List D → M β) : argsS ((false, m) :: r) k = B m fun x => argsS r fun xs => k (x :: xs) := Eq.trans rfl rfl
@[simp] theorem argsS_star {β : Type} (m : M D) (r : List (Bool × M D)) (k : List D → M β) : argsS ((true, m) :: r) k = B m fun x => B (seqOf x) fun zs => argsS r fun xs => k (zs ++ xs) := Eq.trans rfl rfl
def runS (as : List (Bool × M D)) : M (List D) := argsS as pure
section
variable {X : Cx} {W : WX} {g : DSt} {a : Expr} {es : List Expr} {ma : M D} {as : List (Bool × M D)} {pos : Pos}
abbrev XAs (X : Cx) (W : WX) (g : DSt) (es : List Expr) (as : List (Bool × M D)) : Prop := PA X es (tXA X.K W g (runS as))
theorem XAs.da (h : XAs X W g es as) : DA X W es (AtG g (runS as)) := PA.imp h fun σ H Q ⟨t, p, G, S, ow, r, q⟩ => by
  by_cases e : t = g
  · subst e
    rw [AtG_self] at q
    exact ⟨p, G, S, ow, r, q⟩
  · rw [AtG_ne _ e] at q
    exact q.elim
end
end RM

namespace RM
open PySem PySem.Spec PyProof.Rows L2
variable [PgW]
end RM

namespace ST
open PySem PyProof.Rows SrtO
end ST
namespace RM
open PySem PySem.Spec PyProof.Rows L2
variable [PgW]
end RM

namespace RM
open PySem PySem.Spec PyProof.Rows L2
variable [PgW]
structure LamD where
  params : Arguments
  body : Expr
  scope : Scope
def lamO (q : Str) (cells : List (Str × Addr)) (L : LamD) (c' : Addr) (pm ctv : Value) : Obj := PySem.W.kla_obj "<lambda>" (q ++ "<lambda>") L.params L.body L.scope (cloFrom cells L.scope.names []) pm c' ctv
def FnAt (q : Str) (cells : List (Str × Addr)) (L : LamD) (f c' : Addr) (G : Hp) : Prop := (∃ pm ctv, G f = some (.frz (lamO q cells L c' pm ctv) (.own f))) ∧ G c' = some (LamX.CodeO c' (q ++ "<lambda>"))
theorem FnAt.mono {q : Str} {cells : List (Str × Addr)} {L : LamD} {f c' : Addr} {G G' : Hp} (h : FnAt q cells L f c' G) (e : Same G G') : FnAt q cells L f c' G' := by
  obtain ⟨⟨pm, ctv, h1⟩, h2⟩ := h
  exact ⟨⟨pm, ctv, e _ _ h1⟩, e _ _ h2⟩
def FnsAt (q : Str) (cells : List (Str × Addr)) : List LamD → List V → Hp → Prop
  | [], vs, _ => vs = []
  | L :: Ls, vs, G => ∃ f c' r, vs = V.ref f :: r ∧ FnAt q cells L f c' G ∧ FnsAt q cells Ls r G
theorem FnsAt.mono {q : Str} {cells : List (Str × Addr)} {G G' : Hp} (e : Same G G') : ∀ {Ls : List LamD} {vs : List V}, FnsAt q cells Ls vs G → FnsAt q cells Ls vs G'
  | [], _, h => h
  | _ :: _, _, ⟨f, c', r, h1, h2, h3⟩ => ⟨f, c', r, h1, h2.mono e, FnsAt.mono e h3⟩
theorem FnsAt.len {q : Str} {cells : List (Str × Addr)} {G : Hp} : ∀ {Ls : List LamD} {vs : List V}, FnsAt q cells Ls vs G → vs.length = Ls.length
  | [], _, h => by
    rw [show _ = [] from h]; rfl
  | _ :: _, _, ⟨f, c', r, h1, h2, h3⟩ => by rw [h1, List.length_cons, List.length_cons, FnsAt.len h3]
theorem FnsAt.get {q : Str} {cells : List (Str × Addr)} {G : Hp} : ∀ {Ls : List LamD} {vs : List V} {k : Nat} {L : LamD}, FnsAt q cells Ls vs G → Ls[k]? = some L → ∃ f c', vs[k]? = some (.ref f) ∧ FnAt q cells L f c' G
  | [], _, _, _, _, e => by simp at e
  | _ :: _, _, 0, L, ⟨f, c', r, h1, h2, h3⟩, e => by
    simp at e; subst e
    exact ⟨f, c', by rw [h1]; rfl, h2⟩
  | _ :: _, _, k + 1, L, ⟨f, c', r, h1, h2, h3⟩, e => by
    obtain ⟨f2, c2, e1, e2⟩ := FnsAt.get (k := k) h3 (by simpa using e)
    exact ⟨f2, c2, by rw [h1]; simpa using e1, e2⟩
section
variable {X : Cx} {pins : List (Addr × Obj)} {σ : L2.St} {H : Hp} {s : Shared}
theorem _root_.L2.Inv.known {a : Addr} {o : Obj} (I : Inv X pins σ H s) (he : s.heap.get? a = some o) (na : H a = none) (nL : a ≠ X.env.locals) (nc : ∀ x c, X.env.cells.lookup x = some c → c ≠ a)
    (np : ∀ p ∈ X.pn ++ pins, p.1 ≠ a) (n0 : X.s_0.heap.get? a = none) : Inv X pins σ (upd H a (.frz o (.own a))) s := by
  have far : ∀ b u, H b = some u → upd H a (.frz o (.own a)) b = some u := fun b u q => by rw [upd_ne (ne_of_none q na)]; exact q
  refine ⟨I.ok, I.os, I.bare, ⟨I.base.keep, I.base.slot, fun b u q n hx => ?_, I.base.there, fun b xs q => far _ _ (I.base.tups b xs q), fun b u v q => far _ _ (I.base.frzs b u v q), fun b ps q => ?_⟩, I.loc, I.cell, ?_, fun x c e => ?_, fun p hp => ?_, HOk.laidN I.hok (fun _ _ q => q) na ⟨he, ⟨o, he⟩⟩, I.len⟩
  · rw [upd_ne (fun z => by rw [z, n0] at q; cases q)]
    exact I.base.free b u q n hx
  · obtain ⟨more, q2⟩ := I.base.tbls b ps q
    exact ⟨more, far _ _ q2⟩
  · rw [upd_ne nL.symm]; exact I.free
  · rw [upd_ne (nc x c e)]; exact I.freeC x c e
  · obtain ⟨p1, p2, p3⟩ := I.pin p hp
    exact ⟨p1, by rw [upd_ne (np p hp)]; exact p2, p3⟩
end
theorem SlotsR.getH {K : PySem.W.Frag} {p : List (List Addr)} {G H : Hp} : ∀ {t : DSt} {σ : L2.St} {ow : List Addr} {i : Nat} {a : Addr} {o : HO} {R : List (List Addr) → Hp → Prop}, SlotsR K p G H t σ ow → t[i]? = some (some (.hold a o R)) → σ[i]? = some (some (.ref a)) ∧ a ∈ ow ∧ H a = some o ∧ R p G
  | [], _, _, _, _, _, _, _, e => by simp at e
  | _ :: _, _, _, 0, _, _, _, ⟨v, r, l, m, h1, h2, h3, h4⟩, e => by
    simp at e; subst e
    obtain ⟨e1, e2, e3, e4⟩ := h3
    exact ⟨by rw [h1, e2]; rfl, by rw [h2, e1]; simp, e3, e4 p G ⟨[], by simp⟩ (Same.refl _)⟩
  | _ :: _, _, _, i + 1, _, _, _, ⟨v, r, l, m, h1, h2, h3, h4⟩, e => by
    obtain ⟨e1, e2, e3, e4⟩ := SlotsR.getH (i := i) h4 (by simpa using e)
    exact ⟨by rw [h1]; simpa using e1, by rw [h2]; exact List.mem_append_right _ e2, e3, e4⟩
theorem RelF.newH {K : PySem.W.Frag} {n : Snap} {p : List (List Addr)} {G H : Hp} {S : Sto} {t : DSt} {σ : L2.St} {ow : List Addr} {i : Nat} {a : Addr} {o : HO} {R : List (List Addr) → Hp → Prop} (r : RelF K n p G S H t σ ow) (hi : i < t.length) (h0 : H a = none) (hR : ∀ p' G', (∃ r, p' = p ++ r) → Same G G' → R p' G') :
    ∃ ow', RelF K n p G S (upd H a o) (t.set i (some (.hold a o R))) (σ.set i (some (.ref a))) ow' := by
  have pa : a ∉ p.flatten := fun z => r.rs.rel.dom z h0
  have ga : G a = none := Same.free r.rs.rel.sub h0
  have oa : a ∉ ow := fun z => r.rs.sl.dom a z h0
  have sl' : SlotsR K p G (upd H a o) t σ ow := r.rs.sl.mono ⟨[], by simp⟩ (Same.refl _) fun b hb => upd_ne (fun z => oa (z ▸ hb))
  obtain ⟨u, l, b, eo, q⟩ := SlotsR.set (s := some (.hold a o R)) (v := some (V.ref a)) (l' := [a]) ⟨rfl, rfl, upd_same, hR⟩ i hi sl'
  subst eo
  have nH : n.H a = none := by
    cases z : n.H a with
    | none => rfl
    | some o => exact absurd h0 (r.ext.d a (by rw [z]; simp))
  have nd := nodup_mid r.rs.nd
  rw [List.append_nil] at nd
  have sub : ∀ x ∈ u ++ b, x ∈ u ++ l ++ b := fun x hx => by simp at hx ⊢; rcases hx with z | z <;> simp [z]
  refine ⟨u ++ [a] ++ b, ⟨⟨r.rs.rel.own _ pa ga, q, ?_, fun x hx => ?_⟩, ⟨r.ext.g, r.ext.gn, fun b o e1 e2 => ?_, fun b e1 => ?_, r.ext.p⟩, fun x hx => ?_, r.fp, r.fg⟩⟩
  · have key : (p.flatten ++ (u ++ [a] ++ b)).Perm (a :: (p.flatten ++ (u ++ b))) := by
      have h1 : (u ++ [a] ++ b).Perm (a :: (u ++ b)) := by
        rw [List.append_assoc]
        exact List.perm_middle
      exact (List.Perm.append_left _ h1).trans List.perm_middle
    refine key.symm.nodup (List.nodup_cons.mpr ⟨?_, nd⟩)
    rw [List.mem_append]
    rintro (z | z)
    · exact pa z
    · exact oa (sub a z)
  · simp only [List.append_assoc, List.mem_append, List.mem_cons, List.not_mem_nil, or_false] at hx
    rcases hx with z | z | z
    · exact r.rs.gn x (by simp [z])
    · rw [z]; exact ga
    · exact r.rs.gn x (by simp [z])
  · rw [upd_ne (ne_of_none e1 nH)]
    exact r.ext.h b o e1 e2
  · by_cases q : b = a
    · subst q; rw [upd_same]; simp
    · rw [upd_ne q]; exact r.ext.d b e1
  · simp only [List.append_assoc, List.mem_append, List.mem_cons, List.not_mem_nil, or_false] at hx
    rcases hx with z | z | z
    · exact r.own x (by simp [z])
    · rw [z]; exact nH
    · exact r.own x (by simp [z])
end RM

namespace RM
open PySem PySem.Spec PyProof.Rows L2
variable [PgW]
structure Mk (X : Cx) (pins : List (Addr × Obj)) (σ : L2.St) (s : Shared) (H : Hp) (fp : List Addr) : Prop where
  inv : Inv X pins σ H s
  far : ∀ b ∈ fp, (b ∈ X.ex ∨ X.s_0.heap.objs.size ≤ b) ∧ b ≠ X.env.locals ∧ (∀ x c, X.env.cells.lookup x = some c → c ≠ b) ∧ ∀ p ∈ X.pn ++ pins, p.1 ≠ b
section
variable {X : Cx} {pins : List (Addr × Obj)} {σ : L2.St} {s : Shared} {H : Hp} {fp : List Addr}
theorem Mk.now (M : Mk X pins σ s H fp) {cenv : Env} {scope : Scope} {pins' : List (Addr × Obj)} {σ' : L2.St} {H' : Hp} {s' : Shared} (I : Inv (X.blk s H scope cenv fp) pins' σ' H' s') : Inv X pins σ H' s' := M.inv.call' (ch := fp) I.os I.base I.hok I.bare M.far
theorem Mk.of {H0 : Hp} (I : Inv X pins σ H s) (f : ∀ b ∈ fp, FpOk X pins H0 b) : Mk X pins σ s H fp := ⟨I, fun b hb => ⟨(f b hb).2.2.2.1, (f b hb).2.1, (f b hb).2.2.2.2.1, (f b hb).2.2.2.2.2⟩⟩
end
end RM

namespace RM
open PySem PySem.Spec PyProof.Rows L2
variable [PgW]
def FnR (X : Cx) (gm : DSt) (σm : L2.St) (L : LamD) (f c' : Addr) : List (List Addr) → Hp → Prop := fun p G => (∀ H : Hp, SlotsR X.K p G H gm σm []) ∧ FnAt X.env.qual X.env.cells L f c' G
def ElsX (X : Cx) (g : DSt) (w : Nat) (elt : Expr) (scope : Scope) : List LamD → List (M D) → Prop
  | [], [] => True
  | L :: Ls, m :: ms => (∀ (pins : List (Addr × Obj)) (σ : L2.St) (s : Shared) (H : Hp) (C : Addr) (cl : List (Str × Addr)) (fp : List Addr) (f c' : Addr), Mk X pins σ s H fp →
      XE (X.blk s H scope (compEnvC scope cl C X.env) fp) W0 (g.set w (some (.lam (.ref f) (FnR X (valsOnly g) σ L f c')))) elt m) ∧ ElsX X g w elt scope Ls ms
  | _, _ => False
theorem ElsX.len {X : Cx} {g : DSt} {w : Nat} {elt : Expr} {scope : Scope} : ∀ {Ls : List LamD} {ms : List (M D)}, ElsX X g w elt scope Ls ms → Ls.length = ms.length
  | [], [], _ => rfl
  | _ :: _, _ :: _, h => by rw [List.length_cons, List.length_cons, ElsX.len h.2]
  | [], _ :: _, h => h.elim
  | _ :: _, [], h => h.elim
theorem ElsX.get {X : Cx} {g : DSt} {w : Nat} {elt : Expr} {scope : Scope} : ∀ {Ls : List LamD} {ms : List (M D)} {k : Nat} {L : LamD} {m : M D}, ElsX X g w elt scope Ls ms → Ls[k]? = some L → ms[k]? = some m →
    ∀ (pins : List (Addr × Obj)) (σ : L2.St) (s : Shared) (H : Hp) (C : Addr) (cl : List (Str × Addr)) (fp : List Addr) (f c' : Addr), Mk X pins σ s H fp →
      XE (X.blk s H scope (compEnvC scope cl C X.env) fp) W0 (g.set w (some (.lam (.ref f) (FnR X (valsOnly g) σ L f c')))) elt m
  | [], [], _, _, _, _, e, _ => by simp at e
  | _ :: _, _ :: _, 0, L, m, h, e1, e2 => by
    simp at e1 e2
    subst e1 e2
    exact h.1
  | _ :: _, _ :: _, k + 1, L, m, h, e1, e2 => ElsX.get (k := k) h.2 (by simpa using e1) (by simpa using e2)
  | [], _ :: _, _, _, _, h, _, _ => h.elim
  | _ :: _, [], _, _, _, h, _, _ => h.elim
end RM

namespace RM
open PySem PySem.Spec PyProof.Rows L2
variable [PgW]
end RM

namespace RM
open PySem PySem.Spec PyProof.Rows L2
variable [PgW]
end RM

namespace RM
open PySem PySem.Spec PyProof.Rows L2
variable [PgW]
end RM

namespace GT
open PySem PySem.SeqAt
open AutoSeq1 (wpAny_loadPart')
open MeetsSeq MeetsSeq2 MeetsSeq3 SeqRoads2
end GT
namespace RM
open PySem PySem.Spec PyProof.Rows L2
variable [PgW]
end RM

namespace RM
open PySem PySem.Spec PyProof.Rows L2
variable [PgW]
def addI : D → D → M D
  | .int i, .int j => pure (.int (i + j))
  | _, _ => stuck
@[simp] theorem addI_int (i j : Int) : addI (.int i) (.int j) = pure (.int (i + j)) := Eq.trans rfl rfl
end RM

namespace RM
open PySem PySem.Spec PyProof.Rows L2
variable [PgW]
theorem Ext.up {p : List (List Addr)} {G H : Hp} {a : Addr} {o : HO} (h : H a = Option.none) : Ext p G H p G (upd H a o) := by
  refine ⟨Same.refl _, fun _ hg _ => hg, fun b ob hb _ => ?_, fun b hb => ?_, [], by simp, by simp⟩
  · have : b ≠ a := by rintro rfl; rw [h] at hb; cases hb
    rw [upd_ne this]; exact hb
  · have : b ≠ a := by rintro rfl; exact hb h
    rw [upd_ne this]; exact hb
theorem RelF.upd {K : PySem.W.Frag} {n : Snap} {p : List (List Addr)} {G H : Hp} {S : Sto} {t : DSt} {σ : L2.St} {ow : List Addr} {a : Addr} {o : HO} (r : RelF K n p G S H t σ ow) (h : H a = Option.none) : RelF K n p G S (L2.upd H a o) t σ ow :=
  r.step (Ext.up h) (r.rs.rel.own o (fun hp => r.rs.rel.dom hp h) (r.rs.rel.gfree h))
end RM

namespace RM
open PySem PySem.Spec PyProof.Rows L2
variable [PgW]
def intB : List D → M D
  | [.int i] => pure (.int i)
  | [.bl k] => pure (.int (if k then 1 else 0))
  | _ => stuck
@[simp] theorem intB_int (i : Int) : intB [.int i] = pure (.int i) := Eq.trans rfl rfl
@[simp] theorem intB_bl (k : Bool) : intB [.bl k] = pure (.int (if k then 1 else 0)) := Eq.trans rfl rfl
end RM

namespace RM
open PySem PySem.Spec PyProof.Rows L2
variable [PgW]
end RM

namespace RM
open PySem PySem.Spec PyProof.Rows L2
variable [PgW]
end RM

namespace RM
open PySem PySem.Spec PyProof.Rows L2
variable [PgW]
def xv : Value → Str
  | .str x _ => x
  | _ => ⟨#[]⟩
end RM

namespace RM
open PySem PySem.Spec PyProof.Rows L2
variable [PgW]
def lcX2 (mt : D → M Bool) (mi1 : D → M (List D)) (mt1 : D → D → M Bool) (me : D → D → M D) : List D → List D → M (List D)
  | [], acc => pure acc
  | d :: ds, acc => B (mt d) fun b => if b then B (mi1 d) fun es => B (lcX (mt1 d) (me d) es acc) fun acc' => lcX2 mt mi1 mt1 me ds acc' else lcX2 mt mi1 mt1 me ds acc
def lc2 (mt : D → M Bool) (mi1 : D → M (List D)) (mt1 : D → D → M Bool) (me : D → D → M D) (ds : List D) : M (List D) := noE (lcX2 mt mi1 mt1 me ds [])
end RM

namespace RM
open PySem PySem.Spec PyProof.Rows L2
variable [PgW]
end RM

namespace RM
open PySem PySem.Spec PyProof.Rows L2
variable [PgW]
theorem XS.cast {α : Type} {X : Cx} {W : Wf} {g g' : DSt} {I : IC α} {ss : List Stmt} {m : M α} (h : g = g') (d : XS X W g' I ss m) : XS X W g I ss m := by
  subst h; exact d
end RM

namespace RM
open PySem PySem.Spec PyProof.Rows L2
variable [PgW]
def tpN2 {α : Type} (f : D → D → D → M α) : D → M α
  | .tup [a, .tup [b, c]] => f a b c
  | _ => stuck
@[simp] theorem tpN2_tup {α : Type} (f : D → D → D → M α) (a b c : D) : tpN2 f (.tup [a, .tup [b, c]]) = f a b c := Eq.trans rfl rfl
end RM

namespace RM
open PySem PySem.Spec PyProof.Rows L2
variable [PgW]
section
variable {X : Cx} {es : List Expr} {t : TA} {pos : Pos}
def tTupZ (t : TA) : TE := fun σ H Q => t σ H fun xs H1 => xs.length ≤ sizeLine ∧ ∀ q o, H1 q = none → o.dict = none → Q (.ref q) (upd H1 q (.frz o (.tup xs)))
theorem pe_tupZ {x1} (h : PA X es t) : PE X (.Tuple es x1 pos) (tTupZ t) := by
  refine ⟨fun pins s σ H Q I hq => ?_⟩
  refine wpAny_Tuple_spliced (thn (h.run pos pins s σ H _ I hq) fun us s1 ⟨xs, H1, I1, r, z, q⟩ => ⟨by rw [← r.length]; exact z, ?_⟩)
  have hf : H1 s1.heap.objs.size = none := I1.hok.fresh (Nat.le_refl _)
  refine ⟨.ref s1.heap.objs.size, upd H1 s1.heap.objs.size (.frz { cls := .type "tuple", data := .seq us.toArray } (.tup xs)), I1.laid (t' := s1.toks) (fun b u e => Heap.get?_push_of_some _ e) (Nat.le_refl _) ?_, rfl, q _ _ hf rfl⟩
  exact ⟨Heap.get?_push_size _ rfl, z, us, r, ⟨_, Heap.get?_push_size _ rfl, rfl, _, rfl⟩⟩
end
def KnT (G : Hp) (v : V) (ws : List Str) : Prop := ∃ a o, v = .ref a ∧ G a = some (.frz o (.tup (ws.map V.str))) ∧ o.dict = none
theorem KnT.mono {G G' : Hp} {v : V} {ws : List Str} (h : KnT G v ws) (e : Same G G') : KnT G' v ws := let ⟨a, o, h1, h2, h3⟩ := h; ⟨a, o, h1, e _ _ h2, h3⟩
def KnL (G : Hp) : List V → List (List Str) → Prop
  | [], [] => True
  | v :: vs, w :: ws => KnT G v w ∧ KnL G vs ws
  | _, _ => False
theorem KnL.mono {G G' : Hp} (e : Same G G') : ∀ {vs : List V} {wss : List (List Str)}, KnL G vs wss → KnL G' vs wss
  | [], [], _ => trivial
  | _ :: _, _ :: _, h => ⟨h.1.mono e, KnL.mono e h.2⟩
  | [], _ :: _, h => h.elim
  | _ :: _, [], h => h.elim
theorem KnL.len {G : Hp} : ∀ {vs : List V} {wss : List (List Str)}, KnL G vs wss → vs.length = wss.length
  | [], [], _ => rfl
  | _ :: _, _ :: _, h => by rw [List.length_cons, List.length_cons, KnL.len h.2]
  | [], _ :: _, h => h.elim
  | _ :: _, [], h => h.elim
theorem KnL.get {G : Hp} : ∀ {vs : List V} {wss : List (List Str)} {k : Nat} {v : V} {ws : List Str}, KnL G vs wss → vs[k]? = some v → wss[k]? = some ws → KnT G v ws
  | [], [], _, _, _, _, e, _ => by simp at e
  | _ :: _, _ :: _, 0, v, ws, h, e1, e2 => by
    simp at e1 e2
    subst e1 e2
    exact h.1
  | _ :: _, _ :: _, k + 1, v, ws, h, e1, e2 => KnL.get (k := k) h.2 (by simpa using e1) (by simpa using e2)
  | [], _ :: _, _, _, _, h, _, _ => h.elim
  | _ :: _, [], _, _, _, h, _, _ => h.elim
abbrev wsD (ws : List Str) : D := .tup (ws.map D.str)
theorem kn_strs {K : PySem.W.Frag} {p : List (List Addr)} {G : Hp} : ∀ ws : List Str, DenL K p G (ws.map D.str) (ws.map V.str)
  | [] => rfl
  | w :: ws => ⟨_, _, rfl, rfl, kn_strs ws⟩
theorem KnT.den {K : PySem.W.Frag} {p : List (List Addr)} {G : Hp} {v : V} {ws : List Str} (h : KnT G v ws) : Den K p G (wsD ws) v := by
  obtain ⟨a, o, h1, h2, h3⟩ := h
  exact ⟨a, ws.map V.str, h1, .inl (.inr ⟨o, h2⟩), kn_strs ws⟩
def cA : List Str → TA
  | [] => tNil
  | w :: ws => tCons (tC (.str w)) (cA ws)
def kA : List (List Str) → TA
  | [] => tNil
  | ws :: wss => tCons (tTupZ (cA ws)) (kA wss)
theorem cA_run {σ : L2.St} {H : Hp} : ∀ {ws : List Str} {R : List V → Hp → Prop}, R (ws.map V.str) H → cA ws σ H R
  | [], _, h => h
  | w :: ws, R, h => cA_run (ws := ws) (R := fun xs H2 => R (.str w :: xs) H2) h
theorem kA_run {K : PySem.W.Frag} {n : Snap} {p : List (List Addr)} {S : Sto} {g : DSt} {σ : L2.St} {ow : List Addr} : ∀ {wss : List (List Str)} {G H : Hp} {R : List V → Hp → Prop}, (∀ ws ∈ wss, ws.length ≤ 1000) → RelF K n p G S H g σ ow →
    (∀ vs G' H', RelF K n p G' S H' g σ ow → Same G G' → KnL G' vs wss → R vs H') → kA wss σ H R
  | [], G, H, R, _, r, h => h [] G H r (Same.refl _) trivial
  | ws :: wss, G, H, R, hl, r, h => by
    show tTupZ (cA ws) σ H fun x H1 => kA wss σ H1 fun xs H2 => R (x :: xs) H2
    refine cA_run ⟨?_, fun q o hq ho => ?_⟩
    · have := hl ws (List.mem_cons_self ..)
      rw [List.length_map, PySem.sizeLine_eq]; omega
    obtain ⟨r4, x4⟩ := r.rs.rel.new (.frz o (.tup (ws.map V.str))) hq
    have rf := r.step x4 r4
    have kn : KnT (upd G q (.frz o (.tup (ws.map V.str)))) (.ref q) ws := ⟨q, o, rfl, upd_same, ho⟩
    refine kA_run (fun w hw => hl w (List.mem_cons_of_mem _ hw)) rf fun vs G' H' r' e k => ?_
    exact h (.ref q :: vs) G' H' r' (x4.g.trans e) ⟨kn.mono e, k⟩
def knV (a : Addr) (vs : List V) (wss : List (List Str)) : DV := .hold a (.lst vs) (fun _ G => KnL G vs wss)
def kn1V (v : V) (ws : List Str) : DV := .lam v (fun _ G => KnT G v ws)
section
variable {α : Type} {X : Cx} {W : Wf} {g : DSt} {I : IC α} {rest : List Stmt} {pos2 pos : Pos} {es : List Expr}
theorem xs_kn (i : Nat) (wss : List (List Str)) {x : Str} {pos' : Pos} {m : M α} (hN : X.N.Nodup) (hi : X.N[i]? = some x) (hx : Loc X.env.scope x) (hA : PA X es (kA wss)) (hk : ∀ a vs, XS X W (g.set i (some (knV a vs wss))) I rest m) (hl : decide (i < g.length) = true := by rfl)
    (hz : decide (wss.length ≤ 1000 ∧ ∀ ws ∈ wss, ws.length ≤ 1000) = true := by decide) (hs : swapsWith (.List es pos2) (some (.Name x pos')) pos.line X.env = pure false := by rfl) (hf : X.fn x = true ∨ X.env.scope.names.lookup x = some .local := by first | exact .inl rfl | exact .inr rfl | assumption) :
    XS X W g I (.Assign [.Name x pos'] (.List es pos2) pos :: rest) m := by
  obtain ⟨hz1, hz2⟩ := of_decide_eq_true hz
  refine PSs.imp (pss_cons (L2.ps_set hN hi hx (pe_lst hA) hs hf) (fam (ι := Addr × List V) fun z => hk z.1 z.2)) fun E σ H ⟨n, p, G, S, ow, r, h⟩ => ?_
  refine kA_run hz2 r fun vs G' H' r' e k => ⟨?_, fun l hl2 => ?_⟩
  · rw [k.len, PySem.sizeLine_eq]; omega
  obtain ⟨ow', rf'⟩ := r'.newH (i := i) (o := .lst vs) (R := fun _ G => KnL G vs wss) (of_decide_eq_true hl) hl2 fun p' G' hp sm => k.mono sm
  exact ⟨(l, vs), n, p, G', S, ow', rf', h⟩
end
def pickV (tb : List Str → Bool) : List V → List (List Str) → List V
  | v :: vs, w :: ws => if tb w then v :: pickV tb vs ws else pickV tb vs ws
  | _, _ => []
theorem pickV_take {tb : List Str → Bool} : ∀ {vs : List V} {wss : List (List Str)} {k : Nat} {v : V} {ws : List Str}, vs[k]? = some v → wss[k]? = some ws → pickV tb (vs.take (k + 1)) (wss.take (k + 1)) = pickV tb (vs.take k) (wss.take k) ++ (if tb ws then [v] else [])
  | [], _, _, _, _, e, _ => by simp at e
  | _ :: _, [], _, _, _, _, e => by simp at e
  | u :: us, w :: wss, 0, v, ws, e1, e2 => by
    simp at e1 e2
    subst e1 e2
    show (if tb w then u :: pickV tb (us.take 0) (wss.take 0) else pickV tb (us.take 0) (wss.take 0)) = _
    split <;> simp [pickV]
  | u :: us, w :: wss, k + 1, v, ws, e1, e2 => by
    have ih := pickV_take (tb := tb) (vs := us) (wss := wss) (k := k) (v := v) (ws := ws) (by simpa using e1) (by simpa using e2)
    show (if tb w then u :: pickV tb (us.take (k + 1)) (wss.take (k + 1)) else pickV tb (us.take (k + 1)) (wss.take (k + 1))) = (if tb w then u :: pickV tb (us.take k) (wss.take k) else pickV tb (us.take k) (wss.take k)) ++ _
    rw [ih]
    split <;> simp
theorem pickV_head {tb : List Str → Bool} {G : Hp} : ∀ {vs : List V} {wss : List (List Str)} {ws : List Str}, KnL G vs wss → wss.find? tb = some ws → ∃ v r, pickV tb vs wss = v :: r ∧ KnT G v ws
  | [], [], _, _, e => by simp at e
  | v :: vs, w :: wss, ws, h, e => by
    rw [List.find?_cons] at e
    cases q : tb w with
    | true =>
      rw [q] at e
      cases e
      exact ⟨v, _, by show (if tb w then v :: pickV tb vs wss else _) = _; rw [q]; rfl, h.1⟩
    | false =>
      rw [q] at e
      obtain ⟨u, r, e1, e2⟩ := pickV_head h.2 e
      exact ⟨u, r, by show (if tb w then v :: pickV tb vs wss else pickV tb vs wss) = _; rw [q]; exact e1, e2⟩
  | [], _ :: _, _, h, _ => h.elim
  | _ :: _, [], _, h, _ => h.elim
theorem pickV_len {tb : List Str → Bool} : ∀ (vs : List V) (wss : List (List Str)), (pickV tb vs wss).length ≤ vs.length
  | [], _ => by simp [pickV]
  | _ :: _, [] => by simp [pickV]
  | v :: vs, w :: wss => by
    have ih := pickV_len (tb := tb) vs wss
    show (if tb w then v :: pickV tb vs wss else pickV tb vs wss).length ≤ _
    split <;> simp <;> omega
theorem kn_read {X : Cx} {g : DSt} {ix w : Nat} {a : Addr} {vs : List V} {wss : List (List Str)} {σ : L2.St} {H : Hp} {Q : VK} {mt : D → M Bool} {tb : List Str → Bool} {p : List (List Addr)} {G : Hp} {S : Sto} {ow : List Addr} (hg : g[ix]? = some (some (knV a vs wss))) (hw : w < g.length) (hmt : ∀ ws ∈ wss, mt (wsD ws) = pure (tb ws)) (hz : wss.length ≤ 1000) (r : RelS X.K p G S H g σ ow)
    (h : ∀ A p' G' H', H A = none → Rel0 X.K p' S G' H' → Ext p G H p' G' H' → H' A = some (.lst (pickV tb vs wss)) → KnL G' vs wss → Q (.ref A) H') :
    tLc (iList X.K (tVar ix)) (gName w) (famT X.K g [w] (.nm w) mt) (tVar w) [w] σ H Q := by
  obtain ⟨e1, e2, e3, e4⟩ := r.sl.getH hg
  have e4 : KnL G vs wss := e4
  have ll := e4.len
  have oa : a ∉ p.flatten := fun z => (List.nodup_append.mp r.nd).2.2 a z a e2 rfl
  refine ⟨_, e1, a, rfl, ⟨vs, SqL.of e3⟩, fun A hA => ?_⟩
  have gA : G A = none := r.rel.gfree hA
  have pA : A ∉ p.flatten := fun z => r.rel.dom z hA
  refine ⟨fun i m H' => i + m = vs.length ∧ ∃ p' G', Rel0 X.K p' S G' H' ∧ Ext p G H p' G' H' ∧ G' A = none ∧ A ∉ p'.flatten ∧ H' A = some (.lst (pickV tb (vs.take i) (wss.take i))), ⟨vs.length, by simp, p, G, r.rel.own _ pA gA, ⟨Same.refl _, fun _ h _ => h, fun b o e _ => by rw [upd_ne (ne_of_none e hA)]; exact e, fun b e => ?_, [], by simp, by simp⟩, gA, pA, by rw [upd_same]; simp [pickV]⟩, ?_⟩
  · by_cases q : b = A
    · subst q; rw [upd_same]; simp
    · rw [upd_ne q]; exact e
  rintro i m H' ⟨hi', p', G', r', x', gA', pA', hA'⟩
  have ha' : H' a = some (.lst vs) := x'.h a _ e3 oa
  by_cases hlt : i < vs.length
  · refine .inr ⟨⟨vs, vs[i], SqL.of ha', by simp [hlt]⟩, fun H2 => ∃ p' G', Rel0 X.K p' S G' H2 ∧ Ext p G H p' G' H2 ∧ G' A = none ∧ A ∉ p'.flatten ∧ H2 A = some (.lst (pickV tb (vs.take (i + 1)) (wss.take (i + 1)))), fun H2 q => ⟨m - 1, by omega, by omega, q⟩, fun x H2 y => ?_⟩
    obtain ⟨e7, y7⟩ := y
    subst e7
    have hv7 : vs[i]? = some x := y7 vs (SqL.of ha')
    have hws : wss[i]? = some (wss[i]'(by omega)) := List.getElem?_eq_getElem (by omega)
    generalize hq : wss[i]'(by omega) = ws at hws
    have kn : KnT G x ws := e4.get hv7 hws
    have mw : ws ∈ wss := List.mem_of_getElem? hws
    have rs' := r.ext x' r'
    obtain ⟨ow1, k1, rw1⟩ := rs'.wipe [w]
    have lw : w < (wipeD g [w]).length := by show w < (g.set w none).length; rw [List.length_set]; exact hw
    obtain ⟨ow2, k2, rw2⟩ := rw1.set0 (i := w) lw (s := some (.val (wsD ws))) (v := some x) ⟨rfl, x, rfl, (kn.mono x'.g).den⟩
    have wl : w < (wipe σ [w]).length := by
      have := rw1.sl.len
      omega
    refine ⟨?_, wsD ws, (wipeD g [w]).set w (some (.val (wsD ws))), if_pos lw, p', G', S, ow2, rw2, ?_⟩
    · show (wipe ((wipe σ [w]).set w (some x)) [w]) = wipe σ [w]
      show ((wipe σ [w]).set w (some x)).set w none = wipe σ [w]
      rw [List.set_set]
      show ((σ.set w none).set w none) = σ.set w none
      rw [List.set_set]
    · rw [hmt ws mw]
      rintro b p3 G3 H3 rfl r3 x3
      have pk := pickV_take (tb := tb) hv7 hws
      have hA3 : H3 A = some (.lst (pickV tb (vs.take i) (wss.take i))) := x3.h A _ hA' pA'
      have gA3 : G3 A = none := x3.gn A gA' (by rw [hA']; simp)
      have pA3 : A ∉ p3.flatten := by
        obtain ⟨q, e, f⟩ := x3.p
        rw [e, List.flatten_append, List.mem_append]
        rintro (z | z)
        · exact pA' z
        · rw [f A z] at hA'; cases hA'
      cases q : tb ws with
      | false =>
        rw [q] at pk
        refine iteF ⟨p3, G3, r3, x'.trans x3, gA3, pA3, ?_⟩
        rw [pk]; simpa using hA3
      | true =>
        rw [q] at pk
        refine iteT ⟨x, ?_, _, hA3, ?_, p3, G3, r3.own _ pA3 gA3, ?_, gA3, pA3, ?_⟩
        · rw [List.getElem?_set_self wl]
        · have := pickV_len (tb := tb) (vs.take i) (wss.take i)
          rw [List.length_take] at this
          rw [PySem.sizeLine_eq]; omega
        · have x14 := x'.trans x3
          refine ⟨x14.g, x14.gn, fun b o e hb => ?_, fun b e => ?_, x14.p⟩
          · rw [upd_ne (ne_of_none e hA)]
            exact x14.h b o e hb
          · by_cases q : b = A
            · subst q; rw [upd_same]; simp
            · rw [upd_ne q]; exact x14.d b e
        · rw [upd_same, pk]; rfl
  · have e : i = vs.length := by omega
    subst e
    refine .inl ⟨⟨vs, SqL.of ha', Nat.le_refl _⟩, ?_⟩
    rw [List.take_of_length_le (Nat.le_refl _), List.take_of_length_le (by omega)] at hA'
    exact h A p' G' H' hA r' x' hA' (e4.mono x'.g)
def knPick {α : Type} (wss : List (List Str)) (d : D) (k : List Str → M α) : M α := match d with
  | .str z => match wss.find? (fun ws => decide (z ∈ ws)) with
    | some ws => k ws
    | none => stuck
  | _ => stuck
theorem inD_ws (z : Str) (ws : List Str) : inD false (.str z) (wsD ws) = pure (.bl (decide (z ∈ ws))) := by
  show (if flatD (.str z) = true ∧ (ws.map D.str).all flatD = true then _ else _) = _
  have hf : (ws.map D.str).all flatD = true := by
    rw [List.all_eq_true]
    intro d hd
    obtain ⟨x, _, rfl⟩ := List.mem_map.mp hd
    rfl
  rw [if_pos ⟨rfl, hf⟩]
  have e : memD (.str z) (ws.map D.str) = decide (z ∈ ws) := by
    unfold memD
    rw [List.any_map, Bool.eq_iff_iff, List.any_eq_true, decide_eq_true_eq]
    constructor
    · rintro ⟨x, hx, q⟩
      have q : (x == z) = true := q
      rw [← eq_of_beq q]; exact hx
    · exact fun hx => ⟨z, hx, beq_self_eq_true z⟩
  rw [e]; rfl
theorem kn_test (z : Str) (ws : List Str) : tst (B (pure (D.str z)) fun t1 => B (pure (wsD ws)) fun t2 => inD false t1 t2) = (pure (decide (z ∈ ws)) : M Bool) := by
  show tst (inD false (.str z) (wsD ws)) = _
  rw [inD_ws]; rfl
section
variable {α : Type} {X : Cx} {W : Wf} {g : DSt} {I : IC α} {rest : List Stmt} {scope : Scope} {pos pos2 cpos spos lpos : Pos} {ifs : List Expr} {ms : D} {mt : D → M Bool} {a : Addr} {vs : List V} {wss : List (List Str)} {k : List Str → M α}
theorem xs_knPick (j ix w : Nat) {x y z : Str} {px py pz pe : Pos} {c0 : Nat} (hg : g[ix]? = some (some (knV a vs wss)) := by rfl) (hc : X.calm = true) (hN : X.N.Nodup) (hj : X.N[j]? = some y) (hy : Loc X.env.scope y) (ok : BlkOk X.N X.env.scope scope [(z, w)]) (hx : X.N[ix]? = some x) (hv : Vis X.env.scope x)
    (hp : BlkG X scope (.nm w) (.Name z pz)) (ht : BlkT X g scope [w] (.nm w) ifs mt) (he : ∀ (s : Shared) (H : Hp) (C : Addr) (cl : List (Str × Addr)) (fp : List Addr), PE (X.blk s H scope (compEnvC scope cl C X.env) fp) (.Name z pe) (tVar w))
    (hmt : ∀ (z : Str) (ws : List Str), ms = .str z → mt (wsD ws) = pure (decide (z ∈ ws))) (hk : ∀ v ws, XS X W (g.set j (some (kn1V v ws))) I rest (k ws))
    (hw : decide (w < g.length) = true := by rfl) (hl : decide (j < g.length) = true := by rfl) (hz : decide (wss.length ≤ 1000) = true := by rfl) (hs : ∀ u, foldedSetIterable (.Name x px) X.env u = pure u := by intro _; rfl) (hd : (x == ("__debug__" : Str)) = false := by decide) (hcd : (x == ("__classdict__" : Str)) = false := by decide)
    (hsw : swapsWith (.Subscript (.ListComp (.Name z pe) [⟨.Name z pz, .Name x px, ifs, 0⟩] scope lpos) (.Constant (.int 0) c0 cpos) spos) (some (.Name y py)) pos.line X.env = pure false := by rfl) (hix : PlainIx (.Constant (.int 0) c0 cpos) := by first | exact fun _ _ => rfl | assumption) (hf : X.fn y = true ∨ X.env.scope.names.lookup y = some .local := by first | exact .inl rfl | exact .inr rfl | assumption) :
    XS X W g I (.Assign [.Name y py] (.Subscript (.ListComp (.Name z pe) [⟨.Name z pz, .Name x px, ifs, 0⟩] scope lpos) (.Constant (.int 0) c0 cpos) spos) pos :: rest) (knPick wss ms k) := by
  have lc := pe_lc (pos := lpos) (elt := .Name z pe) (tg := .Name z pz) (iter := .Name x px) (ifs := ifs) (g := gName w) hc hN (pi_list (tg := .Name z pz) (pe_var (pos := px) hx hv hd hcd)) ok hp (fun s H C cl fp => (⟨fun pins s' σ H' Q I ⟨d, t, e, q⟩ => (ht s H C cl fp d t e).run pins s' σ H' Q I q⟩ : PTs _ ifs (famT X.K g [w] (.nm w) mt))) he hs
  refine PSs.imp (pss_cons (L2.ps_set hN hj hy (pe_ix ix_seq lc (pe_int (i := 0)) hix) hsw hf) (fam (ι := V × List Str) fun z => hk z.1 z.2)) fun E σ H ⟨n, p, G, S, ow, r, h⟩ => ?_
  obtain ⟨t, rfl⟩ : ∃ t, ms = .str t := by
    cases ms <;> first | exact ⟨_, rfl⟩ | exact h.elim
  cases ef : wss.find? (fun ws => decide (t ∈ ws)) with
  | none =>
    have h : okG X.K W n I ((match wss.find? (fun ws => decide (t ∈ ws)) with
      | some ws => k ws
      | none => stuck) S) E := h
    rw [ef] at h
    exact h.elim
  | some ws =>
    have h : okG X.K W n I ((match wss.find? (fun ws => decide (t ∈ ws)) with
      | some ws => k ws
      | none => stuck) S) E := h
    rw [ef] at h
    show tLc (iList X.K (tVar ix)) (gName w) (famT X.K g [w] (.nm w) mt) (tVar w) [w] σ H (fun x H1 => rIx X.K x (.int 0) H1 fun v H2 => ∃ z : V × List Str, tXS X.K W (g.set j (some (kn1V z.1 z.2))) I (k z.2) E (σ.set j (some v)) H2)
    refine kn_read (tb := fun ws => decide (t ∈ ws)) hg (of_decide_eq_true hw) (fun ws _ => hmt t ws rfl) (of_decide_eq_true hz) r.rs fun A p' G' H' hA r' x' hA' kn => ?_
    obtain ⟨v, l, e1, e2⟩ := pickV_head kn ef
    rw [e1] at hA'
    have rf := r.step x' r'
    obtain ⟨ow', rf'⟩ := rf.set0 (i := j) (of_decide_eq_true hl) (s := some (kn1V v ws)) (v := some v) ⟨rfl, rfl, fun p2 G2 _ sm => e2.mono sm⟩
    have a0 : atI (v :: l) 0 = some v := by
      have e : ixN (v :: l).length 0 = some 0 := by
        unfold ixN
        rw [if_pos (by omega), if_pos (by rw [List.length_cons]; omega)]; rfl
      unfold atI
      rw [e]; rfl
    exact .inl ⟨A, v :: l, 0, v, rfl, rfl, SqL.of hA', a0, (v, ws), n, p', G', S, ow', rf', h⟩
def tBMZ (r : V → List V → Hp → VK → Prop) (to : TE) (t : TA) : TE := fun σ H Q => to σ H fun x H1 => (∃ a o xs, x = .ref a ∧ H1 a = some (.frz o (.tup xs)) ∧ o.dict = none) ∧ t σ H1 fun xs H2 => r x xs H2 Q
theorem pe_bmZ {o e : Expr} {es : List Expr} {to : TE} {t : TA} {name : Str} {apos cpos : Pos} {id : String} {r : V → List V → Hp → VK → Prop} (slot : Slot "tuple" name id) (hty : typeOf (.builtin id) = pure (.type "method_descriptor")) (hm : MtR X id r) (ho : PE X o to) (ha : PA X (e :: es) t)
    (hbase : attributeBase o name X.env (eval o X.env) = eval o X.env := by rfl)
    (hfew : ((backTo cpos (starEach (e :: es) X.env)).all (fun x => !x.1) && (backToKw cpos (keywordEach [] X.env)).all (fun x => x.1.isSome)
      && decide ((e :: es).length + ([] : List Keyword).length + (if ([] : List Keyword).isEmpty then 0 else 1) < 30)) = true := by rfl)
    (hline : (apos.endLine == cpos.line) = true := by rfl) (hs : starEach (e :: es) X.env = (false, eval e X.env) :: starEach es X.env := by rfl) (hplain : (backTo cpos (starEach es X.env)).any (·.1) = false := by rfl) :
    PE X (.Call (.Attribute o name apos) (e :: es) [] cpos) (tBMZ r to t) := by
  refine ⟨fun pins s σ H Q I h => ?_⟩
  refine wpAny_Call_method_late hbase hfew hline rfl (thn (ho.run pins s σ H _ I h) fun v s1 ⟨x, H1, I1, r1, ⟨a, ob, xs, e1, e2, e3⟩, q1⟩ => ?_)
  subst e1
  obtain rfl : v = Value.ref a := r1
  obtain ⟨g1, _, its, _, o', g2, g3, _⟩ := (show ObjOk X.prog X.w H1 s1.heap a (.frz ob (.tup xs)) from I1.hok a _ e2)
  refine ⟨"tuple", id, PySem.F.plainAttrs_tuple, slot, hty, ⟨o', g2, g3⟩, fun b eb => ?_, ?_⟩
  · cases eb
    exact ⟨ob, g1, e3⟩
  have hA := ha.run cpos pins s1 σ H1 _ I1 q1
  rw [hs] at hA ⊢
  refine Calls.callWith_builtin (by show (false || (backTo cpos (starEach es X.env)).any (·.1)) = false; rw [hplain] <;> rfl) (Calls.evalArgs_plain ?_)
  exact thn hA fun us s2 ⟨vs, H2, I2, r2, q2⟩ => hm pins s2 σ H2 (.ref a) vs (.ref a) us Q I2 rfl r2 q2
def ixW (ws : List Str) : D → M D
  | .str z => if z ∈ ws then pure (.int (ws.idxOf z : Nat)) else stuck
  | _ => stuck
theorem xe_knIx (j : Nat) {V' : WX} {v : V} {ws : List Str} {y : Str} {e : Expr} {me : M D} {py apos : Pos} (hg : g[j]? = some (some (kn1V v ws)) := by rfl) (he : XE X V' g e me) (hN : X.N[j]? = some y := by rfl) (hv : Vis X.env.scope y := by first | exact Or.inl rfl | exact Or.inr (Or.inl rfl) | exact Or.inr (Or.inr rfl))
    (hd : (y == ("__debug__" : Str)) = false := by decide) (hcd : (y == ("__classdict__" : Str)) = false := by decide)
    (hfew : ((backTo cpos (starEach [e] X.env)).all (fun x => !x.1) && (backToKw cpos (keywordEach [] X.env)).all (fun x => x.1.isSome)
      && decide ([e].length + ([] : List Keyword).length + (if ([] : List Keyword).isEmpty then 0 else 1) < 30)) = true := by rfl)
    (hline : (apos.endLine == cpos.line) = true := by rfl) (hs : starEach [e] X.env = (false, eval e X.env) :: starEach [] X.env := by rfl) :
    XE X V' g (.Call (.Attribute (.Name y py) "index" apos) [e] [] cpos) (B me fun d => ixW ws d) := by
  refine PE.imp (pe_bmZ PySem.F.slot_tuple_index PySem.F.type_tuple_index mt_tup_index (pe_var hN hv hd hcd) (pa_cons he pa_nil hs) rfl hfew hline hs rfl) fun σ H Q ⟨p, G, S, ow, r, h⟩ => ?_
  obtain ⟨e1, kn⟩ := r.sl.getL hg
  obtain ⟨q, o, rfl, hq, ho⟩ := (show KnT G v ws from kn)
  refine ⟨_, e1, ⟨q, o, _, rfl, r.rel.sub _ _ hq, ho⟩, p, G, S, ow, r, okR.seq h fun d S1 u p1 G1 H1 e2 dn r1 x1 h1 => ?_⟩
  cases d <;> try exact h1.elim
  rename_i z
  cases (show u = .str z from dn)
  have h2 : okR (Den X.K) X.K p1 G1 H1 (fun c d H' => V' c d σ H') ((if z ∈ ws then pure (D.int (ws.idxOf z : Nat)) else stuck : M D) S1) Q := h1
  by_cases m : z ∈ ws
  · rw [if_pos m] at h2
    have lt := List.idxOf_lt_length_iff.mpr m
    have hq1 : H1 q = some (.frz o (.tup (ws.map V.str))) := r1.sub _ _ (x1.g _ _ hq)
    refine ⟨q, ws, z, ws.idxOf z, rfl, rfl, .inl (.inr ⟨o, hq1⟩), ?_, fun i hi e => ?_, okR.fin (d := D.int (ws.idxOf z : Nat)) h2 rfl r1⟩
    · rw [List.getElem?_eq_getElem lt, List.getElem_idxOf lt]
    · have hi2 : i < ws.length := by omega
      rw [List.getElem?_eq_getElem hi2] at e
      have e' := Option.some.inj e
      have := List.not_of_lt_findIdx (p := (· == z)) (xs := ws) (show i < ws.findIdx (· == z) from hi)
      rw [e'] at this
      simp at this
  · rw [if_neg m] at h2
    exact h2.elim
theorem xe_knVar (j : Nat) {V' : WX} {v : V} {ws : List Str} {y : Str} {py : Pos} (hg : g[j]? = some (some (kn1V v ws)) := by rfl) (hN : X.N[j]? = some y := by rfl) (hv : Vis X.env.scope y := by first | exact Or.inl rfl | exact Or.inr (Or.inl rfl) | exact Or.inr (Or.inr rfl))
    (hd : (y == ("__debug__" : Str)) = false := by decide) (hcd : (y == ("__classdict__" : Str)) = false := by decide) : XE X V' g (.Name y py) (pure (wsD ws)) := by
  refine PE.imp (pe_var hN hv hd hcd) fun σ H Q ⟨p, G, S, ow, r, h⟩ => ?_
  obtain ⟨e1, kn⟩ := r.sl.getL hg
  exact ⟨v, e1, okR.fin (d := wsD ws) h (show KnT G v ws from kn).den r.rel⟩
end
end RM

namespace LW
open PySem PySem.Spec PyProof.Rows L2 RM
variable [PgW]
def top (i : Nat) : Stmt := PySem.Challenge.pw_rowsmeet_k17_whole_rules_turned_about.main.body.getD i (.Pass ⟨0, 0, 0, 0⟩)
abbrev s_law_begun : Stmt := top 49
def d_law_begun : He.DefD := ⟨("_law_begun", none), "_law_begun", "_law_begun", defArgs s_law_begun, defBody s_law_begun, defScope s_law_begun, [], []⟩
abbrev s_law_draw : Stmt := top 50
def d_law_draw : He.DefD := ⟨("_law_draw", none), "_law_draw", "_law_draw", defArgs s_law_draw, defBody s_law_draw, defScope s_law_draw, [], []⟩
abbrev s_law_mixed : Stmt := top 59
def d_law_mixed : He.DefD := ⟨("_law_mixed", none), "_law_mixed", "_law_mixed", defArgs s_law_mixed, defBody s_law_mixed, defScope s_law_mixed, [], []⟩
abbrev s_law_every : Stmt := top 58
def d_law_every : He.DefD := ⟨("_law_every", none), "_law_every", "_law_every", defArgs s_law_every, defBody s_law_every, defScope s_law_every, [], []⟩
abbrev s_law_pick : Stmt := top 51
def d_law_pick : He.DefD := ⟨("_law_pick", none), "_law_pick", "_law_pick", defArgs s_law_pick, defBody s_law_pick, defScope s_law_pick, [], []⟩
abbrev s_law_wording : Stmt := top 60
def d_law_wording : He.DefD := ⟨("_law_wording", none), "_law_wording", "_law_wording", defArgs s_law_wording, defBody s_law_wording, defScope s_law_wording, [], []⟩
abbrev s_law_span : Stmt := top 52
def d_law_span : He.DefD := ⟨("_law_span", none), "_law_span", "_law_span", defArgs s_law_span, defBody s_law_span, defScope s_law_span, [], []⟩
abbrev s_law_frame : Stmt := top 53
def d_law_frame : He.DefD := ⟨("_law_frame", none), "_law_frame", "_law_frame", defArgs s_law_frame, defBody s_law_frame, defScope s_law_frame, [], []⟩
abbrev s_law_near_frame : Stmt := top 54
def d_law_near_frame : He.DefD := ⟨("_law_near_frame", none), "_law_near_frame", "_law_near_frame", defArgs s_law_near_frame, defBody s_law_near_frame, defScope s_law_near_frame, [], []⟩
abbrev s_law_cards : Stmt := top 55
def d_law_cards : He.DefD := ⟨("_law_cards", none), "_law_cards", "_law_cards", defArgs s_law_cards, defBody s_law_cards, defScope s_law_cards, [], []⟩
abbrev s_is_word : Stmt := top 35
def d_is_word : He.DefD := ⟨("is_word", none), "is_word", "is_word", defArgs s_is_word, defBody s_is_word, defScope s_is_word, [], []⟩
abbrev s_is_list : Stmt := top 15
def d_is_list : He.DefD := ⟨("is_list", none), "is_list", "is_list", defArgs s_is_list, defBody s_is_list, defScope s_is_list, [], []⟩
abbrev s_are_words : Stmt := top 36
def d_are_words : He.DefD := ⟨("are_words", none), "are_words", "are_words", defArgs s_are_words, defBody s_are_words, defScope s_are_words, [], []⟩
abbrev s_live_of : Stmt := top 37
def d_live_of : He.DefD := ⟨("live_of", none), "live_of", "live_of", defArgs s_live_of, defBody s_live_of, defScope s_live_of, [], []⟩
abbrev s_Rule_init : Stmt := inClass (top 38) 0
def d_Rule_init : He.DefD := ⟨("Rule", some "__init__"), "__init__", "Rule.__init__", defArgs s_Rule_init, defBody s_Rule_init, defScope s_Rule_init, [.adr (He.dflAt ("Rule", some "__init__") 0)], []⟩
abbrev s_Book_init : Stmt := inClass (top 30) 0
def d_Book_init : He.DefD := ⟨("Book", some "__init__"), "__init__", "Book.__init__", defArgs s_Book_init, defBody s_Book_init, defScope s_Book_init, [.adr (He.dflAt ("Book", some "__init__") 0)], []⟩
abbrev s_is_number : Stmt := top 13
def d_is_number : He.DefD := ⟨("is_number", none), "is_number", "is_number", defArgs s_is_number, defBody s_is_number, defScope s_is_number, [], []⟩
abbrev s_is_day : Stmt := top 14
def d_is_day : He.DefD := ⟨("is_day", none), "is_day", "is_day", defArgs s_is_day, defBody s_is_day, defScope s_is_day, [], []⟩
abbrev s_Row_init : Stmt := inClass (top 27) 0
def d_Row_init : He.DefD := ⟨("Row", some "__init__"), "__init__", "Row.__init__", defArgs s_Row_init, defBody s_Row_init, defScope s_Row_init, [.int 0], []⟩
abbrev s_is_name : Stmt := top 16
def d_is_name : He.DefD := ⟨("is_name", none), "is_name", "is_name", defArgs s_is_name, defBody s_is_name, defScope s_is_name, [], []⟩
abbrev s_is_stretch : Stmt := top 18
def d_is_stretch : He.DefD := ⟨("is_stretch", none), "is_stretch", "is_stretch", defArgs s_is_stretch, defBody s_is_stretch, defScope s_is_stretch, [], []⟩
abbrev s_Box_init : Stmt := inClass (top 24) 0
def d_Box_init : He.DefD := ⟨("Box", some "__init__"), "__init__", "Box.__init__", defArgs s_Box_init, defBody s_Box_init, defScope s_Box_init, [.non, .non, .adr (He.dflAt ("Box", some "__init__") 2), .adr (He.dflAt ("Box", some "__init__") 3)], []⟩
abbrev s_law_row : Stmt := top 56
def d_law_row : He.DefD := ⟨("_law_row", none), "_law_row", "_law_row", defArgs s_law_row, defBody s_law_row, defScope s_law_row, [], []⟩
abbrev s_law_book : Stmt := top 57
def d_law_book : He.DefD := ⟨("_law_book", none), "_law_book", "_law_book", defArgs s_law_book, defBody s_law_book, defScope s_law_book, [], []⟩
abbrev s_law_contrary : Stmt := top 61
def d_law_contrary : He.DefD := ⟨("_law_contrary", none), "_law_contrary", "_law_contrary", defArgs s_law_contrary, defBody s_law_contrary, defScope s_law_contrary, [], []⟩
abbrev s_law_turned : Stmt := top 62
def d_law_turned : He.DefD := ⟨("_law_turned", none), "_law_turned", "_law_turned", defArgs s_law_turned, defBody s_law_turned, defScope s_law_turned, [], []⟩
abbrev s_need_rule : Stmt := top 39
def d_need_rule : He.DefD := ⟨("need_rule", none), "need_rule", "need_rule", defArgs s_need_rule, defBody s_need_rule, defScope s_need_rule, [], []⟩
abbrev s_need_book : Stmt := top 31
def d_need_book : He.DefD := ⟨("need_book", none), "need_book", "need_book", defArgs s_need_book, defBody s_need_book, defScope s_need_book, [], []⟩
abbrev s_Book_len : Stmt := inClass (top 30) 2
def d_Book_len : He.DefD := ⟨("Book", some "__len__"), "__len__", "Book.__len__", defArgs s_Book_len, defBody s_Book_len, defScope s_Book_len, [], []⟩
abbrev s_need_index : Stmt := top 32
def d_need_index : He.DefD := ⟨("need_index", none), "need_index", "need_index", defArgs s_need_index, defBody s_need_index, defScope s_need_index, [], []⟩
abbrev s_need_two : Stmt := top 44
def d_need_two : He.DefD := ⟨("need_two", none), "need_two", "need_two", defArgs s_need_two, defBody s_need_two, defScope s_need_two, [], []⟩
abbrev s_Box_eq : Stmt := inClass (top 24) 5
def d_Box_eq : He.DefD := ⟨("Box", some "__eq__"), "__eq__", "Box.__eq__", defArgs s_Box_eq, defBody s_Box_eq, defScope s_Box_eq, [], []⟩
abbrev s_Row_box : Stmt := inClass (top 27) 1
def d_Row_box : He.DefD := ⟨("Row", some "box"), "box", "Row.box", defArgs s_Row_box, defBody s_Row_box, defScope s_Row_box, [], []⟩
abbrev s_is_stretch_within : Stmt := top 20
def d_is_stretch_within : He.DefD := ⟨("is_stretch_within", none), "is_stretch_within", "is_stretch_within", defArgs s_is_stretch_within, defBody s_is_stretch_within, defScope s_is_stretch_within, [], []⟩
abbrev s_Box_is_within : Stmt := inClass (top 24) 8
def d_Box_is_within : He.DefD := ⟨("Box", some "is_within"), "is_within", "Box.is_within", defArgs s_Box_is_within, defBody s_Box_is_within, defScope s_Box_is_within, [], []⟩
abbrev s_is_inside : Stmt := top 40
def d_is_inside : He.DefD := ⟨("is_inside", none), "is_inside", "is_inside", defArgs s_is_inside, defBody s_is_inside, defScope s_is_inside, [], []⟩
abbrev s_Row_price : Stmt := inClass (top 27) 2
def d_Row_price : He.DefD := ⟨("Row", some "price"), "price", "Row.price", defArgs s_Row_price, defBody s_Row_price, defScope s_Row_price, [], []⟩
abbrev s_Row_rank : Stmt := inClass (top 27) 3
def d_Row_rank : He.DefD := ⟨("Row", some "rank"), "rank", "Row.rank", defArgs s_Row_rank, defBody s_Row_rank, defScope s_Row_rank, [], []⟩
abbrev s_puts_ahead : Stmt := top 41
def d_puts_ahead : He.DefD := ⟨("puts_ahead", none), "puts_ahead", "puts_ahead", defArgs s_puts_ahead, defBody s_puts_ahead, defScope s_puts_ahead, [], []⟩
abbrev s_parting_word : Stmt := top 42
def d_parting_word : He.DefD := ⟨("parting_word", none), "parting_word", "parting_word", defArgs s_parting_word, defBody s_parting_word, defScope s_parting_word, [], []⟩
abbrev s_Rule_words : Stmt := inClass (top 38) 1
def d_Rule_words : He.DefD := ⟨("Rule", some "words"), "words", "Rule.words", defArgs s_Rule_words, defBody s_Rule_words, defScope s_Rule_words, [], []⟩
abbrev s_Book_rows : Stmt := inClass (top 30) 1
def d_Book_rows : He.DefD := ⟨("Book", some "rows"), "rows", "Book.rows", defArgs s_Book_rows, defBody s_Book_rows, defScope s_Book_rows, [], []⟩
abbrev s_parts : Stmt := top 46
def d_parts : He.DefD := ⟨("parts", none), "parts", "parts", defArgs s_parts, defBody s_parts, defScope s_parts, [], []⟩
abbrev s_does_beat : Stmt := top 43
def d_does_beat : He.DefD := ⟨("does_beat", none), "does_beat", "does_beat", defArgs s_does_beat, defBody s_does_beat, defScope s_does_beat, [], []⟩
abbrev s_beats : Stmt := top 47
def d_beats : He.DefD := ⟨("beats", none), "beats", "beats", defArgs s_beats, defBody s_beats, defScope s_beats, [], []⟩
abbrev s_ahead : Stmt := top 45
def d_ahead : He.DefD := ⟨("ahead", none), "ahead", "ahead", defArgs s_ahead, defBody s_ahead, defScope s_ahead, [], []⟩
abbrev s_law : Stmt := top 63
def d_law : He.DefD := ⟨("law", none), "law", "law", defArgs s_law, defBody s_law, defScope s_law, [], []⟩
def tt_KINDS : RM.TT := [("narrowest", "box"), ("widest", "box"), ("newest", "entry"), ("oldest", "entry"), ("cheapest", "price"), ("dearest", "price"), ("highest", "rank"), ("lowest", "rank")]
def ts0 : List TabD := [("KINDS", tt_KINDS)]
def ts : List TabD := ts0
def fn0 : List He.DefD := [d_law_begun, d_law_draw, d_law_mixed, d_law_every, d_law_pick, d_law_wording, d_law_span, d_law_frame, d_law_near_frame, d_law_cards, d_is_word, d_is_list, d_are_words, d_live_of, d_Rule_init, d_Book_init, d_is_number, d_is_day, d_Row_init, d_is_name, d_is_stretch, d_Box_init, d_law_row, d_law_book, d_law_contrary, d_law_turned, d_need_rule, d_need_book, d_Book_len, d_need_index]
def fn1 : List He.DefD := [d_need_two, d_Box_eq, d_is_stretch_within, d_Box_is_within, d_is_inside, d_puts_ahead, d_parting_word, d_parts, d_does_beat, d_beats, d_ahead, d_law]
def fn : List He.DefD := fn0 ++ fn1
def pr0 : List PrD := [⟨"Row", "box", d_Row_box⟩, ⟨"Row", "price", d_Row_price⟩, ⟨"Row", "rank", d_Row_rank⟩, ⟨"Rule", "words", d_Rule_words⟩, ⟨"Book", "rows", d_Book_rows⟩]
def pr : List PrD := pr0
def fa0 : List He.Fa := [.glo "Book", .glo "Box", .glo "KINDS", .glo "Row", .glo "Rule", .glo "_law_begun", .glo "_law_book", .glo "_law_cards", .glo "_law_contrary", .glo "_law_draw", .glo "_law_every", .glo "_law_frame", .glo "_law_mixed", .glo "_law_near_frame", .glo "_law_pick", .glo "_law_row", .glo "_law_span", .glo "_law_turned", .glo "_law_wording", .glo "ahead", .glo "are_words", .glo "beats", .glo "does_beat", .glo "is_day", .glo "is_inside", .glo "is_list", .glo "is_name", .glo "is_number", .glo "is_stretch", .glo "is_stretch_within"]
def fa1 : List He.Fa := [.glo "is_word", .glo "law", .glo "live_of", .glo "need_book", .glo "need_index", .glo "need_rule", .glo "need_two", .glo "parting_word", .glo "parts", .glo "puts_ahead", .free "abs", .free "all", .free "bool", .free "enumerate", .free "int", .free "isinstance", .free "len", .free "list", .free "min", .free "range", .free "set", .free "str", .free "tuple", .str "LETTERS" "abcdefghijklmnopqrstuvwxyz", .int "MOST" 6, .mkr "Rule", .mkr "Book", .mkr "Row", .mkr "Box", .meth "Book" "__len__"]
def fa2 : List He.Fa := [.meth "Box" "__eq__", .meth "Box" "is_within"]
def fa : List He.Fa := fa0 ++ fa1 ++ fa2
def loose0 : List Str := ["_wall", "PriceError", "BadBox", "BadRow", "BadRows", "TooMany", "NoRow", "BadRule", "BadBook", "BadLot", "LETTERS", "is_number", "is_day", "is_list", "is_name", "is_sale", "is_stretch", "is_in_stretch", "is_stretch_within", "common_stretch", "are_names_alike", "common_box", "Box", "MOST", "Row", "is_lot", "is_order", "Book", "need_book", "need_index"]
def loose1 : List Str := ["KINDS", "is_word", "are_words", "live_of", "Rule", "need_rule", "is_inside", "puts_ahead", "parting_word", "does_beat", "need_two", "ahead", "parts", "beats", "_law_begun", "_law_draw", "_law_pick", "_law_span", "_law_frame", "_law_near_frame", "_law_cards", "_law_row", "_law_book", "_law_every", "_law_mixed", "_law_wording", "_law_contrary", "_law_turned"]
def loose : List Str := loose0 ++ loose1
def exL : List Str := []
def exF : List (Str × Str) := []
def tfL : List (Str × Str) := []
def spL : List SupD := []
def clsL : List Str := ["Row", "Box", "Rule", "Book"]
def tab : List (Str × Str) := [("Rule", "rule_words"), ("Rule", "rule_live"), ("Book", "book_rows"), ("Row", "row_box"), ("Row", "row_price"), ("Row", "row_rank"), ("Box", "box_who"), ("Box", "box_what"), ("Box", "box_days"), ("Box", "box_amounts")]
def eqL : List Str := []
def chk (K : PySem.W.Frag) : Bool := (clsB K clsL) && (fldB K tab) && (excB K exL) && (xfldB K exF) && (tupAt K (He.dflAt ("Rule", some "__init__") 0 K) []) && (tupAt K (He.dflAt ("Book", some "__init__") 0 K) []) && (tupAt K (He.dflAt ("Box", some "__init__") 2 K) [(.int 0), .non]) && (tupAt K (He.dflAt ("Box", some "__init__") 3 K) [(.int 0), .non]) && (He.valsB K (He.ga K "KINDS") (tabVals tt_KINDS)) && (nfB K clsL eqL)
abbrev R : PySem.W.OpenRow := PySem.W.OpenLaw.row PySem.Challenge.rw_rowsmeet_k17_whole_rules_turned_about
def hkE : HkE := ⟨fa, fn, pr, chk, ts, spL, tfL, R.prog.main.file⟩
abbrev hk : PySem.W.Hook := hkE.hook 5
def ob (s : PySem.W.SharedT) : AlE := hkE.obs 5 (HandSHeadRun.getT s)
theorem ob_eq (s : PySem.W.SharedT) : ob s = hk.obs s.abs   := hkE.obs_eq (HandSHeadRun.getT_eq s)
theorem run0 (w : World) : HandSHeadRun.RunEq R (PySem.W.view R.prog [63]) hk ob 12000 loose (w.withFollow "special-get-raises" false) := by
  intro os
  kernel_rfl
theorem run1 (w : World) : HandSHeadRun.RunEq R (PySem.W.view R.prog [63]) hk ob 12000 loose (w.withFollow "special-get-raises" true) := by
  intro os
  kernel_rfl
theorem run (w : World) : HandSHeadRun.RunEq R (PySem.W.view R.prog [63]) hk ob 12000 loose w := PySem.W.byRow2 "special-get-raises" (P := fun w => HandSHeadRun.RunEq R (PySem.W.view R.prog [63]) hk ob 12000 loose w) run0 run1 w
-- the head ends here
structure TextF (P : Program) (w : World) (K : PySem.W.Frag) (mg : Str → Option Value) : Prop where
  says : SaysX fa fn pr chk K
  cls : ClsT K clsL
  fld : FldT K tab
  g_Book : mg "Book" = some (.ref (He.ga K "Book"))
  g_Box : mg "Box" = some (.ref (He.ga K "Box"))
  g_KINDS : mg "KINDS" = some (.ref (He.ga K "KINDS"))
  g_Row : mg "Row" = some (.ref (He.ga K "Row"))
  g_Rule : mg "Rule" = some (.ref (He.ga K "Rule"))
  g_law_begun : mg "_law_begun" = some (.ref (He.ga K "_law_begun"))
  g_law_book : mg "_law_book" = some (.ref (He.ga K "_law_book"))
  g_law_cards : mg "_law_cards" = some (.ref (He.ga K "_law_cards"))
  g_law_contrary : mg "_law_contrary" = some (.ref (He.ga K "_law_contrary"))
  g_law_draw : mg "_law_draw" = some (.ref (He.ga K "_law_draw"))
  g_law_every : mg "_law_every" = some (.ref (He.ga K "_law_every"))
  g_law_frame : mg "_law_frame" = some (.ref (He.ga K "_law_frame"))
  g_law_mixed : mg "_law_mixed" = some (.ref (He.ga K "_law_mixed"))
  g_law_near_frame : mg "_law_near_frame" = some (.ref (He.ga K "_law_near_frame"))
  g_law_pick : mg "_law_pick" = some (.ref (He.ga K "_law_pick"))
  g_law_row : mg "_law_row" = some (.ref (He.ga K "_law_row"))
  g_law_span : mg "_law_span" = some (.ref (He.ga K "_law_span"))
  g_law_turned : mg "_law_turned" = some (.ref (He.ga K "_law_turned"))
  g_law_wording : mg "_law_wording" = some (.ref (He.ga K "_law_wording"))
  g_ahead : mg "ahead" = some (.ref (He.ga K "ahead"))
  g_are_words : mg "are_words" = some (.ref (He.ga K "are_words"))
  g_beats : mg "beats" = some (.ref (He.ga K "beats"))
  g_does_beat : mg "does_beat" = some (.ref (He.ga K "does_beat"))
  g_is_day : mg "is_day" = some (.ref (He.ga K "is_day"))
  g_is_inside : mg "is_inside" = some (.ref (He.ga K "is_inside"))
  g_is_list : mg "is_list" = some (.ref (He.ga K "is_list"))
  g_is_name : mg "is_name" = some (.ref (He.ga K "is_name"))
  g_is_number : mg "is_number" = some (.ref (He.ga K "is_number"))
  g_is_stretch : mg "is_stretch" = some (.ref (He.ga K "is_stretch"))
  g_is_stretch_within : mg "is_stretch_within" = some (.ref (He.ga K "is_stretch_within"))
  g_is_word : mg "is_word" = some (.ref (He.ga K "is_word"))
  g_law : mg "law" = some (.ref (He.ga K "law"))
  g_live_of : mg "live_of" = some (.ref (He.ga K "live_of"))
  g_need_book : mg "need_book" = some (.ref (He.ga K "need_book"))
  g_need_index : mg "need_index" = some (.ref (He.ga K "need_index"))
  g_need_rule : mg "need_rule" = some (.ref (He.ga K "need_rule"))
  g_need_two : mg "need_two" = some (.ref (He.ga K "need_two"))
  g_parting_word : mg "parting_word" = some (.ref (He.ga K "parting_word"))
  g_parts : mg "parts" = some (.ref (He.ga K "parts"))
  g_puts_ahead : mg "puts_ahead" = some (.ref (He.ga K "puts_ahead"))
  n_abs : mg "abs" = none
  n_all : mg "all" = none
  n_bool : mg "bool" = none
  n_enumerate : mg "enumerate" = none
  n_int : mg "int" = none
  n_isinstance : mg "isinstance" = none
  n_len : mg "len" = none
  n_list : mg "list" = none
  n_min : mg "min" = none
  n_range : mg "range" = none
  n_set : mg "set" = none
  n_str : mg "str" = none
  n_tuple : mg "tuple" = none
  v_LETTERS : ∃ t, mg "LETTERS" = some (.str "abcdefghijklmnopqrstuvwxyz" t)
  v_MOST : ∃ t, mg "MOST" = some (.int 6 t)
  mk_Rule : Mk K (He.ga K "Rule") (He.ma K (He.ga K "Rule") "__init__")
  mk_Book : Mk K (He.ga K "Book") (He.ma K (He.ga K "Book") "__init__")
  mk_Row : Mk K (He.ga K "Row") (He.ma K (He.ga K "Row") "__init__")
  mk_Box : Mk K (He.ga K "Box") (He.ma K (He.ga K "Box") "__init__")
  m_Book_len : Meth K (He.ga K "Book") "__len__" (He.ma K (He.ga K "Book") "__len__")
  m_Box_eq : Meth K (He.ga K "Box") "__eq__" (He.ma K (He.ga K "Box") "__eq__")
  m_Box_is_within : Meth K (He.ga K "Box") "is_within" (He.ma K (He.ga K "Box") "is_within")
  tp_Rule_init_0 : ∀ H : Hp, SqT K H (He.dflAt ("Rule", some "__init__") 0 K) []
  tp_Book_init_0 : ∀ H : Hp, SqT K H (He.dflAt ("Book", some "__init__") 0 K) []
  tp_Box_init_2 : ∀ H : Hp, SqT K H (He.dflAt ("Box", some "__init__") 2 K) [(.int 0), .non]
  tp_Box_init_3 : ∀ H : Hp, SqT K H (He.dflAt ("Box", some "__init__") 3 K) [(.int 0), .non]
  t_KINDS : TabF K w (He.ga K "KINDS") tt_KINDS
  ex : ExT K exL
  xf : ∀ q ∈ exF, PySem.W.findIn K (.ref (He.ga K q.1)) q.2 = some none
  nf : NfT K clsL eqL
theorem txt {P : Program} {w : World} {K : PySem.W.Frag} {h : Heap} {mg : Str → Option Value} (X : K.In h) (G : h.Ns mainGlobals mg) (ce : hkE.Says w h K) (hP : P.main.file = R.prog.main.file) (hs : (P.main.scope.names.lookup ("super" : Str)).isSome = false) : TextF P w K mg := by
  have cy : SaysY fa fn pr chk ts w K := ce.y
  have c := cy.x
  have hsp : ∀ d ∈ spL, supOk P.main.file K d = true ∧ supW K d = d.val := fun d hd => by rw [hP]; exact ce.sp d hd
  have e : chk K = true := c.c
  unfold chk at e
  simp only [Bool.and_eq_true] at e
  obtain ⟨⟨⟨⟨⟨⟨⟨⟨⟨e0, e1⟩, e2⟩, e3⟩, e4⟩, e5⟩, e6⟩, e7⟩, e8⟩, e9⟩ := e
  exact ⟨c, clsB_ok e0, fldB_ok e1, He.glo_ok X G (c.d.fact 0 (f := .glo "Book") rfl), He.glo_ok X G (c.d.fact 1 (f := .glo "Box") rfl), He.glo_ok X G (c.d.fact 2 (f := .glo "KINDS") rfl), He.glo_ok X G (c.d.fact 3 (f := .glo "Row") rfl), He.glo_ok X G (c.d.fact 4 (f := .glo "Rule") rfl), He.glo_ok X G (c.d.fact 5 (f := .glo "_law_begun") rfl), He.glo_ok X G (c.d.fact 6 (f := .glo "_law_book") rfl), He.glo_ok X G (c.d.fact 7 (f := .glo "_law_cards") rfl), He.glo_ok X G (c.d.fact 8 (f := .glo "_law_contrary") rfl), He.glo_ok X G (c.d.fact 9 (f := .glo "_law_draw") rfl), He.glo_ok X G (c.d.fact 10 (f := .glo "_law_every") rfl), He.glo_ok X G (c.d.fact 11 (f := .glo "_law_frame") rfl), He.glo_ok X G (c.d.fact 12 (f := .glo "_law_mixed") rfl), He.glo_ok X G (c.d.fact 13 (f := .glo "_law_near_frame") rfl), He.glo_ok X G (c.d.fact 14 (f := .glo "_law_pick") rfl), He.glo_ok X G (c.d.fact 15 (f := .glo "_law_row") rfl), He.glo_ok X G (c.d.fact 16 (f := .glo "_law_span") rfl), He.glo_ok X G (c.d.fact 17 (f := .glo "_law_turned") rfl), He.glo_ok X G (c.d.fact 18 (f := .glo "_law_wording") rfl), He.glo_ok X G (c.d.fact 19 (f := .glo "ahead") rfl), He.glo_ok X G (c.d.fact 20 (f := .glo "are_words") rfl), He.glo_ok X G (c.d.fact 21 (f := .glo "beats") rfl), He.glo_ok X G (c.d.fact 22 (f := .glo "does_beat") rfl), He.glo_ok X G (c.d.fact 23 (f := .glo "is_day") rfl), He.glo_ok X G (c.d.fact 24 (f := .glo "is_inside") rfl), He.glo_ok X G (c.d.fact 25 (f := .glo "is_list") rfl), He.glo_ok X G (c.d.fact 26 (f := .glo "is_name") rfl), He.glo_ok X G (c.d.fact 27 (f := .glo "is_number") rfl), He.glo_ok X G (c.d.fact 28 (f := .glo "is_stretch") rfl), He.glo_ok X G (c.d.fact 29 (f := .glo "is_stretch_within") rfl), He.glo_ok X G (c.d.fact 30 (f := .glo "is_word") rfl), He.glo_ok X G (c.d.fact 31 (f := .glo "law") rfl), He.glo_ok X G (c.d.fact 32 (f := .glo "live_of") rfl), He.glo_ok X G (c.d.fact 33 (f := .glo "need_book") rfl), He.glo_ok X G (c.d.fact 34 (f := .glo "need_index") rfl), He.glo_ok X G (c.d.fact 35 (f := .glo "need_rule") rfl), He.glo_ok X G (c.d.fact 36 (f := .glo "need_two") rfl), He.glo_ok X G (c.d.fact 37 (f := .glo "parting_word") rfl), He.glo_ok X G (c.d.fact 38 (f := .glo "parts") rfl), He.glo_ok X G (c.d.fact 39 (f := .glo "puts_ahead") rfl), He.free_ok X G (c.d.fact 40 (f := .free "abs") rfl), He.free_ok X G (c.d.fact 41 (f := .free "all") rfl), He.free_ok X G (c.d.fact 42 (f := .free "bool") rfl), He.free_ok X G (c.d.fact 43 (f := .free "enumerate") rfl), He.free_ok X G (c.d.fact 44 (f := .free "int") rfl), He.free_ok X G (c.d.fact 45 (f := .free "isinstance") rfl), He.free_ok X G (c.d.fact 46 (f := .free "len") rfl), He.free_ok X G (c.d.fact 47 (f := .free "list") rfl), He.free_ok X G (c.d.fact 48 (f := .free "min") rfl), He.free_ok X G (c.d.fact 49 (f := .free "range") rfl), He.free_ok X G (c.d.fact 50 (f := .free "set") rfl), He.free_ok X G (c.d.fact 51 (f := .free "str") rfl), He.free_ok X G (c.d.fact 52 (f := .free "tuple") rfl), He.str_ok X G (c.d.fact 53 (f := .str "LETTERS" "abcdefghijklmnopqrstuvwxyz") rfl), He.int_ok X G (c.d.fact 54 (f := .int "MOST" 6) rfl), He.mkr_ok (c.d.fact 55 (f := .mkr "Rule") rfl), He.mkr_ok (c.d.fact 56 (f := .mkr "Book") rfl), He.mkr_ok (c.d.fact 57 (f := .mkr "Row") rfl), He.mkr_ok (c.d.fact 58 (f := .mkr "Box") rfl), He.meth_ok (c.d.fact 59 (f := .meth "Book" "__len__") rfl), He.meth_ok (c.d.fact 60 (f := .meth "Box" "__eq__") rfl), He.meth_ok (c.d.fact 61 (f := .meth "Box" "is_within") rfl), fun H => tupAt_ok e4 H, fun H => tupAt_ok e5 H, fun H => tupAt_ok e6 H, fun H => tupAt_ok e7 H, cy.tab 0 (t := ("KINDS", tt_KINDS)) e8 rfl, excB_ok e2, xfldB_ok e3, nfB_ok e9⟩
def f_law_mixed_w1c (y : (List D) × (List D)) : M Bool := (noE (tst (B (pure (.lst y.1)) fun t1 => B (argsB [] lstD) fun t2 => neD t1 t2)))
def f_law_mixed_w2b (state : D) (y : (List D) × (List D)) : M ((List D) × (List D)) := (B (B (callB [(pure state), (pure (.int (y.1).length))] drawM []) fun t3 => appPop y.2 y.1 t3) fun both => (pure (both.2, both.1)))
def f_law_mixed (state : D) (several : D) : M D := (B (B (pure several) listF) fun left => B (argsB [] sizeL) fun found => (B (whileN f_law_mixed_w1c (f_law_mixed_w2b state) 1100 (left, found)) fun y_1 => (pure (.lst y_1.2))))
def f_law_every : M D := (argsB [(pure (.str "narrowest")), (pure (.str "widest")), (pure (.str "newest")), (pure (.str "oldest")), (pure (.str "cheapest")), (pure (.str "dearest")), (pure (.str "highest")), (pure (.str "lowest"))] lstD)
def f_law_pick (state : D) (several : D) : M D := (B (pure several) fun t1 => B (callB [(pure state), (argsB [(pure several)] lenD)] drawM []) fun t2 => idxD t1 t2)
def f_law_wording (state : D) (most : D) : M D := (B (B (callB [(pure state), ((l0 f_law_every) [])] (l2 f_law_mixed) []) fun t3 => B (pure none) fun t4 => B (B (callB [(pure state), (B (pure most) fun t1 => B (pure (.int 1)) fun t2 => addD t1 t2)] drawM []) partD) fun t5 => sliceD t3 t4 t5) fun found => (B (callB [(pure state), (pure (.int 3))] drawM []) fun way => (ifM (tst (B (pure way) fun t6 => B (pure (.int 0)) fun t7 => eqD t6 t7)) (B (argsB [(callB [(pure state), (argsB [(pure (.str "narrowest")), (pure (.str "widest"))] lstD)] (l2 f_law_pick) []), (callB [(pure state), (argsB [(pure (.str "newest")), (pure (.str "oldest"))] lstD)] (l2 f_law_pick) [])] tupD) (tp2 fun ahead_word last => (B (B (B (B (B (pure found) iterD) fun t10 => lc (fun single => (tst (B (pure single) fun t8 => B (argsB [(pure ahead_word), (pure last)] tupD) fun t9 => inD true t8 t9))) (fun single => (pure single)) t10) fun t11 => pure (.lst t11)) fun t12 => B (pure none) fun t13 => B (B (callB [(pure state), (pure (.int 2))] drawM []) partD) fun t14 => sliceD t12 t13 t14) fun between => (B (B (argsB [(pure ahead_word)] lstD) fun t15 => B (pure between) fun t16 => addD t15 t16) fun t17 => B (argsB [(pure last)] lstD) fun t18 => addD t17 t18)))) (pure found))))
def f_law_span (state : D) (top_ : D) : M D := (B (callB [(pure state), (B (pure top_) fun t1 => B (pure (.int 1)) fun t2 => addD t1 t2)] drawM []) fun first => (argsB [(pure first), (ifM (tst (B (callB [(pure state), (pure (.int 4))] drawM []) fun t3 => B (pure (.int 0)) fun t4 => eqD t3 t4)) (pure D.non) (B (pure first) fun t9 => B (callB [(pure state), (B (B (pure top_) fun t5 => B (pure first) fun t6 => subD t5 t6) fun t7 => B (pure (.int 1)) fun t8 => addD t7 t8)] drawM []) fun t10 => addD t9 t10))] tupD))
def f_law_frame (state : D) (top_ : D) : M D := (B (argsB [(pure D.non), (pure D.non), (pure D.non), (pure (.str "a")), (pure (.str "b")), (pure (.str "zzzzzzzz"))] lstD) fun names => (argsB [(callB [(pure state), (pure names)] (l2 f_law_pick) []), (callB [(pure state), (B (pure names) fun t1 => B (pure none) fun t2 => B (B (pure (.int 5)) partD) fun t3 => sliceD t1 t2 t3)] (l2 f_law_pick) []), (callB [(pure state), (pure top_)] (l2 f_law_span) []), (callB [(pure state), (pure top_)] (l2 f_law_span) [])] tupD))
def f_law_near_frame (state : D) (frame_here : D) (top_ : D) : M D := (B (B (pure frame_here) listF) fun found => B (callB [(pure state), (pure (.int 6))] drawM []) fun way => B (B (pure (.int 2)) fun t1 => B (callB [(pure state), (pure (.int 2))] drawM []) fun t2 => addD t1 t2) fun spot => (ifM (tst (B (pure way) fun t3 => B (pure (.int 2)) fun t4 => ltD t3 t4)) (ifM (tst (B (pure way) fun t5 => B (pure (.int 0)) fun t6 => eqD t5 t6)) (pure frame_here) (callB [(pure state), (pure top_)] (l2 f_law_frame) [])) (ifM (tst (B (pure way) fun t7 => B (pure (.int 2)) fun t8 => eqD t7 t8)) (B (B (ifM (tst (B (B (B (pure spot) fun t11 => B (pure (.int 2)) fun t12 => subD t11 t12) fun t13 => idxD (.lst found) t13) fun t14 => B (pure D.non) fun t15 => isNonD t14 t15)) (callB [(pure state), (argsB [(pure (.str "a")), (pure (.str "b"))] lstD)] (l2 f_law_pick) []) (pure D.non)) fun t16 => B (B (pure spot) fun t9 => B (pure (.int 2)) fun t10 => subD t9 t10) fun t17 => putX found t16 t17) fun found_1 => (argsB [(pure (.lst found_1))] tupleD)) (B (B (pure spot) fun t18 => idxD (.lst found) t18) (tp2 fun first last => (B (ifM (tst (B (pure way) fun t19 => B (pure (.int 3)) fun t20 => eqD t19 t20)) (B (B (argsB [(ifM (tst (B (pure first) fun t21 => B (pure (.int 0)) fun t22 => gtD t21 t22)) (B (pure first) fun t23 => B (pure (.int 1)) fun t24 => subD t23 t24) (pure (.int 0))), (pure last)] tupD) fun t25 => B (pure spot) fun t26 => putX found t25 t26) fun found_2 => (pure found_2)) (ifM (tst (B (pure way) fun t27 => B (pure (.int 4)) fun t28 => eqD t27 t28)) (B (B (argsB [(pure first), (ifM (tst (B (pure last) fun t29 => B (pure D.non) fun t30 => isNonD t29 t30)) (pure D.non) (B (pure last) fun t31 => B (pure (.int 1)) fun t32 => addD t31 t32))] tupD) fun t33 => B (pure spot) fun t34 => putX found t33 t34) fun found_3 => (pure found_3)) (B (B (ifM (tOr (tst (B (pure last) fun t37 => B (pure D.non) fun t38 => isNonD t37 t38)) (tst (B (pure last) fun t35 => B (pure first) fun t36 => gtD t35 t36))) (argsB [(B (pure first) fun t39 => B (pure (.int 1)) fun t40 => addD t39 t40), (pure last)] tupD) (argsB [(pure first), (pure D.non)] tupD)) fun t41 => B (pure spot) fun t42 => putX found t41 t42) fun found_4 => (pure found_4)))) fun found_5 => (argsB [(pure (.lst found_5))] tupleD)))))))
def f_law_cards_b1 (state : D) (top_ : D) (turn : D) (y : (List D)) : M ((List D)) := (B (callB [(pure state), (pure top_)] (l2 f_law_frame) []) fun frame_here => (B (ifM (tAnd (noE (tst (B (pure (.lst y)) fun t4 => B (argsB [] lstD) fun t5 => neD t4 t5))) (tst (B (callB [(pure state), (pure (.int 4))] drawM []) fun t2 => B (pure (.int 0)) fun t3 => gtD t2 t3))) (B (callB [(pure state), (B (lendX (callB [(pure state), (pure (.lst y))] (l2 f_law_pick) [])) fun t6 => B (pure (.int 0)) fun t7 => idxD t6 t7), (pure top_)] (l3 f_law_near_frame) []) fun frame_here_1 => (pure frame_here_1)) (pure frame_here)) fun frame_here_2 => (B (B (argsB [(pure frame_here_2), (callB [(pure state), (pure (.int 3))] drawM []), (callB [(pure state), (pure (.int 2))] drawM [])] tupD) fun t8 => appO y t8) fun found_1 => (pure found_1))))
def f_law_cards (state : D) (many : D) (top_ : D) : M D := (B (argsB [] sizeL) fun found => (B (B (B (pure many) fun t1 => rangeD [t1]) fun t9 => loopN (f_law_cards_b1 state top_) t9 found) fun found_2 => (pure (.lst found_2))))
def f_is_word (thing : D) : M D := (eAnd (B (pure thing) (isiD clsL [(.b "str")])) (B (pure thing) (inTab false tt_KINDS)))
def f_is_list (thing : D) : M D := (B (pure thing) (isiD clsL [(.b "list"), (.b "tuple")]))
def f_are_words (thing : D) : M D := (eAnd (callB [(pure thing)] (l1 f_is_list) []) (eAnd (argsB [(B (B (B (pure thing) iterD) fun t3 => lc (fun word => (pure true)) (fun word => (callB [(pure word)] (l1 f_is_word) [])) t3) fun t4 => pure (.lst t4))] allD) (B (B (pure thing) lenSetD) fun t1 => B (argsB [(pure thing)] lenD) fun t2 => eqD t1 t2)))
def f_live_of_b1 (word : D) (y : (List D) × (List D)) : M ((List D) × (List D)) := (ifM (tAnd (noE (tst (B (B (pure word) (ixTab tt_KINDS)) fun t3 => B (pure (.lst y.2)) fun t4 => inD true t3 t4))) (noE (tst (B (pure (.str "entry")) fun t1 => B (pure (.lst y.2)) fun t2 => inD true t1 t2)))) (B (B (pure word) fun t6 => appO y.1 t6) fun found_1 => (B (B (B (pure word) (ixTab tt_KINDS)) fun t5 => appO y.2 t5) fun used_1 => (pure (found_1, used_1)))) (pure (y.1, y.2)))
def f_live_of (words : D) : M D := (B (argsB [] sizeL) fun found => B (argsB [] sizeL) fun used => (B (B (B (pure words) iterD) fun t7 => loopN f_live_of_b1 t7 (found, used)) fun y_1 => (argsB [(pure (.lst y_1.1))] tupleD)))
def f_Rule_init (words : D) : M D := onlyC "Rule" (ifM (tNot (tst (callB [(pure words)] (l1 f_are_words) []))) stuck (B (argsB [(pure words)] tupleD) fun rule_words => (B (callB [(pure words)] (l1 f_live_of) []) fun rule_live => (pure (.ins "Rule" ["rule_words", "rule_live"] [rule_words, rule_live])))))
def f_Book_init_b1 (t1 : D) (y : Unit) : M (Unit) := (tp2 fun at_ row => (ifM (tNot (tst (B (pure row) (isiD clsL [(.o "Row")])))) stuck (pure ()))) t1
def f_Book_init (rows : D) : M D := onlyC "Book" (ifM (tNot (tst (callB [(pure rows)] (l1 f_is_list) []))) stuck (B (B (B (pure rows) enumD) fun t2 => loopN f_Book_init_b1 t2 ()) fun y_1 => (ifM (tst (B (argsB [(pure rows)] lenD) fun t3 => B (pure (.int 6)) fun t4 => gtD t3 t4)) stuck (B (argsB [(pure rows)] tupleD) fun book_rows => (pure (.ins "Book" ["book_rows"] [book_rows]))))))
def f_is_number (thing : D) : M D := (eAnd (B (pure thing) (isiD clsL [(.b "int")])) (eNot (B (pure thing) (isiD clsL [(.b "bool")]))))
def f_is_day (thing : D) : M D := (eAnd (callB [(pure thing)] (l1 f_is_number) []) (B (pure thing) fun t1 => B (pure (.int 0)) fun t2 => geD t1 t2))
def f_Row_init (box : D) (price : D) (rank : D) : M D := onlyC "Row" (ifM (tNot (tst (B (pure box) (isiD clsL [(.o "Box")])))) stuck (ifM (tNot (tst (callB [(pure price)] (l1 f_is_day) []))) stuck (ifM (tOr (tNot (tst (callB [(pure rank)] (l1 f_is_number) []))) (tOr (tst (B (pure rank) fun t3 => B (pure (.int 0)) fun t4 => ltD t3 t4)) (tst (B (pure rank) fun t1 => B (pure (.int 9)) fun t2 => gtD t1 t2)))) stuck (B (pure box) fun row_box => (B (pure price) fun row_price => (B (pure rank) fun row_rank => (pure (.ins "Row" ["row_box", "row_price", "row_rank"] [row_box, row_price, row_rank]))))))))
def f_is_name (thing : D) : M D := (ifM (tOr (tNot (tst (B (pure thing) (isiD clsL [(.b "str")])))) (tOr (tst (B (argsB [(pure thing)] lenD) fun t3 => B (pure (.int 1)) fun t4 => ltD t3 t4)) (tst (B (argsB [(pure thing)] lenD) fun t1 => B (pure (.int 8)) fun t2 => gtD t1 t2)))) (pure (.bl false)) (argsB [(B (B (B (pure thing) iterD) fun t7 => lc (fun sign => (pure true)) (fun sign => (B (pure sign) fun t5 => B (pure (.str "abcdefghijklmnopqrstuvwxyz")) fun t6 => inD false t5 t6)) t7) fun t8 => pure (.lst t8))] allD))
def f_is_stretch (thing : D) : M D := (ifM (tOr (tNot (tst (B (pure thing) (isiD clsL [(.b "tuple")])))) (tOr (tst (B (argsB [(pure thing)] lenD) fun t3 => B (pure (.int 2)) fun t4 => neD t3 t4)) (tNot (tst (callB [(B (pure thing) fun t1 => B (pure (.int 0)) fun t2 => idxD t1 t2)] (l1 f_is_day) []))))) (pure (.bl false)) (eOr (B (B (pure thing) fun t13 => B (pure (.int 1)) fun t14 => idxD t13 t14) fun t15 => B (pure D.non) fun t16 => isNonD t15 t16) (eAnd (callB [(B (pure thing) fun t11 => B (pure (.int 1)) fun t12 => idxD t11 t12)] (l1 f_is_number) []) (B (B (pure thing) fun t5 => B (pure (.int 1)) fun t6 => idxD t5 t6) fun t9 => B (B (pure thing) fun t7 => B (pure (.int 0)) fun t8 => idxD t7 t8) fun t10 => geD t9 t10))))
def f_Box_init (who : D) (what : D) (days : D) (amounts : D) : M D := onlyC "Box" (ifM (tAnd (tst (B (pure who) fun t1 => B (pure D.non) fun t2 => notNonD t1 t2)) (tNot (tst (callB [(pure who)] (l1 f_is_name) [])))) stuck (ifM (tAnd (tst (B (pure what) fun t3 => B (pure D.non) fun t4 => notNonD t3 t4)) (tNot (tst (callB [(pure what)] (l1 f_is_name) [])))) stuck (ifM (tNot (tst (callB [(pure days)] (l1 f_is_stretch) []))) stuck (ifM (tNot (tst (callB [(pure amounts)] (l1 f_is_stretch) []))) stuck (B (pure who) fun box_who => (B (pure what) fun box_what => (B (pure days) fun box_days => (B (pure amounts) fun box_amounts => (pure (.ins "Box" ["box_who", "box_what", "box_days", "box_amounts"] [box_who, box_what, box_days, box_amounts]))))))))))
def f_law_row (card : D) : M D := (B (B (pure card) fun t1 => B (pure (.int 0)) fun t2 => idxD t1 t2) fun frame_here => (callB [(callB [(B (pure frame_here) fun t3 => B (pure (.int 0)) fun t4 => idxD t3 t4), (B (pure frame_here) fun t5 => B (pure (.int 1)) fun t6 => idxD t5 t6), (B (pure frame_here) fun t7 => B (pure (.int 2)) fun t8 => idxD t7 t8), (B (pure frame_here) fun t9 => B (pure (.int 3)) fun t10 => idxD t9 t10)] (l4 f_Box_init) []), (B (pure card) fun t11 => B (pure (.int 1)) fun t12 => idxD t11 t12), (B (pure card) fun t13 => B (pure (.int 2)) fun t14 => idxD t13 t14)] (l3 f_Row_init) []))
def f_law_book (cards_here : D) : M D := (callB [(B (B (B (pure cards_here) iterD) fun t1 => lc (fun card => (pure true)) (fun card => (callB [(pure card)] (l1 f_law_row) [])) t1) fun t2 => pure (.lst t2))] (l1 f_Book_init) [])
def f_law_contrary (single : D) : M D := (knPick ([["narrowest", "widest"], ["newest", "oldest"], ["cheapest", "dearest"], ["highest", "lowest"]] : List (List Str)) single fun ws => (B (pure (wsD ws)) fun t6 => B (B (pure (.int 1)) fun t4 => B (B (pure single) fun t3 => ixW ws t3) fun t5 => subD t4 t5) fun t7 => idxD t6 t7))
def f_law_turned (single : D) : M D := (ifM (tst (B (pure single) fun t1 => B (argsB [(pure (.str "newest")), (pure (.str "oldest"))] tupD) fun t2 => inD false t1 t2)) (callB [(pure single)] (l1 f_law_contrary) []) (pure single))
def f_need_rule (rule : D) : M D := (ifM (tNot (tst (B (pure rule) (isiD clsL [(.o "Rule")])))) stuck (pure .non))
def f_need_book (book : D) : M D := (ifM (tNot (tst (B (pure book) (isiD clsL [(.o "Book")])))) stuck (pure .non))
def f_Book_len (self : D) : M D := (argsB [(B (pure self) (fldD tab "book_rows"))] lenD)
def f_need_index (book : D) (at_ : D) : M D := (ifM (tOr (tNot (tst (callB [(pure at_)] (l1 f_is_day) []))) (tst (B (pure at_) fun t1 => B (argsB [(pure book)] (lenX [("Book", f_Book_len)])) fun t2 => geD t1 t2))) stuck (pure .non))
def f_need_two (book : D) (one : D) (other : D) : M D := (B (callB [(pure book)] (l1 f_need_book) []) fun _ => (B (callB [(pure book), (pure one)] (l2 f_need_index) []) fun _ => (B (callB [(pure book), (pure other)] (l2 f_need_index) []) fun _ => (pure .non))))
def f_Box_eq (self : D) (other : D) : M D := (ifM (tOr (tNot (tst (B (pure other) (isiD clsL [(.o "Box")])))) (tOr (tst (B (B (pure self) (fldD tab "box_who")) fun t3 => B (B (pure other) (fldD tab "box_who")) fun t4 => neD t3 t4)) (tst (B (B (pure self) (fldD tab "box_what")) fun t1 => B (B (pure other) (fldD tab "box_what")) fun t2 => neD t1 t2)))) (pure (.bl false)) (eAnd (B (B (pure self) (fldD tab "box_days")) fun t7 => B (B (pure other) (fldD tab "box_days")) fun t8 => eqD t7 t8) (B (B (pure self) (fldD tab "box_amounts")) fun t5 => B (B (pure other) (fldD tab "box_amounts")) fun t6 => eqD t5 t6)))
def f_Row_box (self : D) : M D := (B (pure self) (fldD tab "row_box"))
def f_is_stretch_within (inner : D) (outer : D) : M D := (ifM (tst (B (B (pure inner) fun t1 => B (pure (.int 0)) fun t2 => idxD t1 t2) fun t5 => B (B (pure outer) fun t3 => B (pure (.int 0)) fun t4 => idxD t3 t4) fun t6 => ltD t5 t6)) (pure (.bl false)) (eOr (B (B (pure outer) fun t17 => B (pure (.int 1)) fun t18 => idxD t17 t18) fun t19 => B (pure D.non) fun t20 => isNonD t19 t20) (eAnd (B (B (pure inner) fun t13 => B (pure (.int 1)) fun t14 => idxD t13 t14) fun t15 => B (pure D.non) fun t16 => notNonD t15 t16) (B (B (pure inner) fun t7 => B (pure (.int 1)) fun t8 => idxD t7 t8) fun t11 => B (B (pure outer) fun t9 => B (pure (.int 1)) fun t10 => idxD t9 t10) fun t12 => leD t11 t12))))
def f_Box_is_within (self : D) (other : D) : M D := (ifM (tNot (tst (B (pure other) (isiD clsL [(.o "Box")])))) stuck (ifM (tAnd (tst (B (B (pure other) (fldD tab "box_who")) fun t3 => B (pure D.non) fun t4 => notNonD t3 t4)) (tst (B (B (pure other) (fldD tab "box_who")) fun t1 => B (B (pure self) (fldD tab "box_who")) fun t2 => neD t1 t2))) (pure (.bl false)) (ifM (tAnd (tst (B (B (pure other) (fldD tab "box_what")) fun t7 => B (pure D.non) fun t8 => notNonD t7 t8)) (tst (B (B (pure other) (fldD tab "box_what")) fun t5 => B (B (pure self) (fldD tab "box_what")) fun t6 => neD t5 t6))) (pure (.bl false)) (B (callB [(B (pure self) (fldD tab "box_days")), (B (pure other) (fldD tab "box_days"))] (l2 f_is_stretch_within) []) fun is_so => (eAnd (pure is_so) (callB [(B (pure self) (fldD tab "box_amounts")), (B (pure other) (fldD tab "box_amounts"))] (l2 f_is_stretch_within) []))))))
def f_is_inside (first : D) (second : D) : M D := (eAnd (B (B (pure first) fun t5 => B (isC "Row" t5) fun _ => noE ((l1 f_Row_box) [t5])) fun t7 => B (isCm "Box" "is_within" t7) fun _ => argsB [(B (pure second) fun t6 => B (isC "Row" t6) fun _ => noE ((l1 f_Row_box) [t6]))] fun xs => (l2 f_Box_is_within) (t7 :: (xs ++ []))) (eNot (B (B (pure first) fun t1 => B (isC "Row" t1) fun _ => noE ((l1 f_Row_box) [t1])) fun t3 => B (B (pure second) fun t2 => B (isC "Row" t2) fun _ => noE ((l1 f_Row_box) [t2])) fun t4 => eqX [("Box", f_Box_eq)] t3 t4)))
def f_Row_price (self : D) : M D := (B (pure self) (fldD tab "row_price"))
def f_Row_rank (self : D) : M D := (B (pure self) (fldD tab "row_rank"))
def f_puts_ahead (word : D) (rows : D) (one : D) (other : D) : M D := (B (B (pure rows) fun t1 => B (pure one) fun t2 => idxD t1 t2) fun first => B (B (pure rows) fun t3 => B (pure other) fun t4 => idxD t3 t4) fun second => (ifM (tst (B (pure word) fun t5 => B (argsB [(pure (.str "narrowest")), (pure (.str "widest"))] tupD) fun t6 => inD false t5 t6)) (ifM (tst (B (pure word) fun t7 => B (pure (.str "narrowest")) fun t8 => eqD t7 t8)) (callB [(pure first), (pure second)] (l2 f_is_inside) []) (callB [(pure second), (pure first)] (l2 f_is_inside) [])) (ifM (tst (B (pure word) fun t9 => B (argsB [(pure (.str "newest")), (pure (.str "oldest"))] tupD) fun t10 => inD false t9 t10)) (ifM (tst (B (pure word) fun t11 => B (pure (.str "newest")) fun t12 => eqD t11 t12)) (B (pure one) fun t13 => B (pure other) fun t14 => gtD t13 t14) (B (pure one) fun t15 => B (pure other) fun t16 => ltD t15 t16)) (ifM (tst (B (pure word) fun t17 => B (argsB [(pure (.str "cheapest")), (pure (.str "dearest"))] tupD) fun t18 => inD false t17 t18)) (ifM (tst (B (pure word) fun t19 => B (pure (.str "cheapest")) fun t20 => eqD t19 t20)) (B (B (pure first) fun t21 => B (isC "Row" t21) fun _ => noE ((l1 f_Row_price) [t21])) fun t23 => B (B (pure second) fun t22 => B (isC "Row" t22) fun _ => noE ((l1 f_Row_price) [t22])) fun t24 => ltD t23 t24) (B (B (pure first) fun t25 => B (isC "Row" t25) fun _ => noE ((l1 f_Row_price) [t25])) fun t27 => B (B (pure second) fun t26 => B (isC "Row" t26) fun _ => noE ((l1 f_Row_price) [t26])) fun t28 => gtD t27 t28)) (ifM (tst (B (pure word) fun t29 => B (pure (.str "highest")) fun t30 => eqD t29 t30)) (B (B (pure first) fun t31 => B (isC "Row" t31) fun _ => noE ((l1 f_Row_rank) [t31])) fun t33 => B (B (pure second) fun t32 => B (isC "Row" t32) fun _ => noE ((l1 f_Row_rank) [t32])) fun t34 => gtD t33 t34) (B (B (pure first) fun t35 => B (isC "Row" t35) fun _ => noE ((l1 f_Row_rank) [t35])) fun t37 => B (B (pure second) fun t36 => B (isC "Row" t36) fun _ => noE ((l1 f_Row_rank) [t36])) fun t38 => ltD t37 t38))))))
def f_parting_word_b1 (rows : D) (one : D) (other : D) (word : D) (y : Unit) : M (D ⊕ (Unit)) := (ifM (tOr (tst (callB [(pure word), (pure rows), (pure one), (pure other)] (l4 f_puts_ahead) [])) (tst (callB [(pure word), (pure rows), (pure other), (pure one)] (l4 f_puts_ahead) []))) (B (pure word) fun d => pure (.inl d)) (pure (.inr ())))
def f_parting_word (words : D) (rows : D) (one : D) (other : D) : M D := (B (B (B (pure words) iterD) fun t1 => loopS (f_parting_word_b1 rows one other) t1 ()) (orRet (fun d => d) fun y_1 => (pure D.non)))
def f_Rule_words (self : D) : M D := (B (pure self) (fldD tab "rule_words"))
def f_Book_rows (self : D) : M D := (B (pure self) (fldD tab "book_rows"))
def f_parts (rule : D) (book : D) (one : D) (other : D) : M D := (B (callB [(pure rule)] (l1 f_need_rule) []) fun _ => (B (callB [(pure book), (pure one), (pure other)] (l3 f_need_two) []) fun _ => (callB [(B (pure rule) fun t1 => B (isC "Rule" t1) fun _ => noE ((l1 f_Rule_words) [t1])), (B (pure book) fun t2 => B (isC "Book" t2) fun _ => noE ((l1 f_Book_rows) [t2])), (pure one), (pure other)] (l4 f_parting_word) [])))
def f_does_beat (words : D) (rows : D) (one : D) (other : D) : M D := (B (callB [(pure words), (pure rows), (pure one), (pure other)] (l4 f_parting_word) []) fun word => (eAnd (B (pure word) fun t1 => B (pure D.non) fun t2 => notNonD t1 t2) (callB [(pure word), (pure rows), (pure one), (pure other)] (l4 f_puts_ahead) [])))
def f_beats (rule : D) (book : D) (one : D) (other : D) : M D := (B (callB [(pure rule)] (l1 f_need_rule) []) fun _ => (B (callB [(pure book), (pure one), (pure other)] (l3 f_need_two) []) fun _ => (callB [(B (pure rule) fun t1 => B (isC "Rule" t1) fun _ => noE ((l1 f_Rule_words) [t1])), (B (pure book) fun t2 => B (isC "Book" t2) fun _ => noE ((l1 f_Book_rows) [t2])), (pure one), (pure other)] (l4 f_does_beat) [])))
def f_ahead (word : D) (book : D) (one : D) (other : D) : M D := (ifM (tNot (tst (callB [(pure word)] (l1 f_is_word) []))) stuck (B (callB [(pure book), (pure one), (pure other)] (l3 f_need_two) []) fun _ => (callB [(pure word), (B (pure book) fun t1 => B (isC "Book" t1) fun _ => noE ((l1 f_Book_rows) [t1])), (pure one), (pure other)] (l4 f_puts_ahead) [])))
def f_law_b1 (sort : D) (made : D) (many : D) (against : D) (about : D) (back : D) (first : D) (second : D) (y_2 : Unit) : M (D ⊕ (Unit)) := (B (callB [(pure sort), (pure made), (pure first), (pure second)] (l4 f_parts) []) fun found => B (callB [(pure sort), (pure made), (pure first), (pure second)] (l4 f_beats) []) fun does => (ifM (tst (B (B (pure found) fun t13 => B (pure D.non) fun t14 => notNonD t13 t14) fun t15 => B (eOr (pure does) (callB [(pure sort), (pure made), (pure second), (pure first)] (l4 f_beats) [])) fun t16 => neD t15 t16)) (B (pure (.bl false)) fun d => pure (.inl d)) (ifM (tOr (tAnd (tst (pure does)) (tst (callB [(pure sort), (pure made), (pure second), (pure first)] (l4 f_beats) []))) (tAnd (tst (B (pure first) fun t19 => B (pure second) fun t20 => eqD t19 t20)) (tst (B (pure found) fun t17 => B (pure D.non) fun t18 => notNonD t17 t18)))) (B (pure (.bl false)) fun d => pure (.inl d)) (ifM (tAnd (tst (B (pure found) fun t23 => B (pure D.non) fun t24 => notNonD t23 t24)) (tst (B (pure does) fun t21 => B (callB [(pure found), (pure made), (pure first), (pure second)] (l4 f_ahead) []) fun t22 => neD t21 t22))) (B (pure (.bl false)) fun d => pure (.inl d)) (ifM (tAnd (tst (B (pure found) fun t27 => B (pure D.non) fun t28 => notNonD t27 t28)) (tst (B (callB [(pure against), (pure made), (pure first), (pure second)] (l4 f_parts) []) fun t25 => B (callB [(pure found)] (l1 f_law_contrary) []) fun t26 => neD t25 t26))) (B (pure (.bl false)) fun d => pure (.inl d)) (ifM (tst (B (callB [(pure against), (pure made), (pure second), (pure first)] (l4 f_beats) []) fun t29 => B (pure does) fun t30 => neD t29 t30)) (B (pure (.bl false)) fun d => pure (.inl d)) (ifM (tst (B (callB [(pure about), (pure back), (B (B (pure many) fun t31 => B (pure (.int 1)) fun t32 => subD t31 t32) fun t33 => B (pure first) fun t34 => subD t33 t34), (B (B (pure many) fun t35 => B (pure (.int 1)) fun t36 => subD t35 t36) fun t37 => B (pure second) fun t38 => subD t37 t38)] (l4 f_beats) []) fun t39 => B (pure does) fun t40 => neD t39 t40)) (B (pure (.bl false)) fun d => pure (.inl d)) (pure (.inr ())))))))))
def f_law_b2 (sort : D) (made : D) (many : D) (against : D) (about : D) (back : D) (first : D) (y_1 : Unit) : M (D ⊕ (Unit)) := (B (B (B (pure many) fun t12 => rangeD [t12]) fun t41 => loopS (f_law_b1 sort made many against about back first) t41 ()) (orRet Sum.inl fun y_3 => (pure (.inr ()))))
def f_law_b3 (state : D) (turn : D) (y : Unit) : M (D ⊕ (Unit)) := (B (callB [(pure state), (pure (.int 8))] (l2 f_law_wording) []) fun wording_here => B (callB [(pure state), (B (pure (.int 2)) fun t4 => B (callB [(pure state), (pure (.int 4))] drawM []) fun t5 => addD t4 t5), (pure (.int 5))] (l3 f_law_cards) []) fun cards_here => (B (callB [(pure wording_here)] (l1 f_Rule_init) []) fun sort => B (callB [(pure cards_here)] (l1 f_law_book) []) fun made => B (argsB [(pure cards_here)] lenD) fun many => (B (callB [(B (B (B (pure wording_here) iterD) fun t6 => lc (fun single => (pure true)) (fun single => (callB [(pure single)] (l1 f_law_contrary) [])) t6) fun t7 => pure (.lst t7))] (l1 f_Rule_init) []) fun against => (B (callB [(B (B (B (pure wording_here) iterD) fun t8 => lc (fun single_1 => (pure true)) (fun single_1 => (callB [(pure single_1)] (l1 f_law_turned) [])) t8) fun t9 => pure (.lst t9))] (l1 f_Rule_init) []) fun about => (B (callB [(B (B (pure cards_here) revF) fun t10 => pure (.lst t10))] (l1 f_law_book) []) fun back => (B (B (B (pure many) fun t11 => rangeD [t11]) fun t42 => loopS (f_law_b2 sort made many against about back) t42 ()) (orRet Sum.inl fun y_4 => (pure (.inr ())))))))))
def f_law (script : D) : M D := (B (callB [(pure script)] begunD []) fun state => (B (B (B (B (pure (.int 4)) fun t1 => B (argsB [(argsB [(pure script)] lenD), (pure (.int 12))] minD) fun t2 => addD t1 t2) fun t3 => rangeD [t3]) fun t43 => loopS (f_law_b3 state) t43 ()) (orRet (fun d => d) fun y_5 => (pure (.bl true)))))
variable {P : Program} {w : World} {K : PySem.W.Frag} {mg : Str → Option Value} {base : Heap}
theorem sc_law_begun : FnScope ["_law_script", "_law_cells", "_law_cell"] ["_law_script"] (defScope s_law_begun) := ⟨rfl, rfl, rfl, by decide +kernel, rfl, by decide +kernel, by decide +kernel⟩
abbrev FP_law_begun (K : PySem.W.Frag) (fd : FuncData) : Prop := FunD K "_law_begun" "_law_begun" (defArgs s_law_begun) (defBody s_law_begun) (defScope s_law_begun) ([]) [] (He.ga K "_law_begun") fd
theorem ok_law_begun (T : TextF P w K mg) (TB : TabsB base mg K tfL) : ∃ fd, FP_law_begun K fd ∧ Own P w K mg base 1 (He.ga K "_law_begun") fd ["_law_script"] begunD := by
  obtain ⟨fd, F⟩ := T.says.d.def_ 0 (d := d_law_begun) rfl
  have F : FP_law_begun K fd := F
  refine ⟨fd, F, fnG_of F sc_law_begun (fun vs H Q E h => spD.len vs H Q _ h) (fun cdv A fr s H vs Q E hG hr h => ⟨tBegun K, ?_, begun_read rfl vs H Q E h⟩), F.kp⟩
  exact pss_cons (ps_setLc (own := [("_law_cell", 2)]) rfl sc_law_begun.nd rfl rfl (sw_true rfl rfl rfl (by decide +kernel)) (pi_list (pv 0)) (blkOk_by (by first | decide +kernel | kernel_rfl)) (fun _ _ _ _ _ => pg_name sc_law_begun.nd rfl (by first | exact .inl rfl | exact .inr rfl)) (fun _ _ _ _ _ => pts_nil) (fun _ _ _ _ _ => pe_callB call_abs rfl T.n_abs (by decide +kernel) (pa_cons (pv 2) pa_nil)))
    (pss_one (ps_ret (pe_disp (pps_cons pe_str (pe_lc (own := [("_law_cell", 2)]) rfl sc_law_begun.nd (pi_list (pv 1)) (blkOk_by (by first | decide +kernel | kernel_rfl)) (fun _ _ _ _ _ => pg_name sc_law_begun.nd rfl (by first | exact .inl rfl | exact .inr rfl)) (fun _ _ _ _ _ => pts_one (pt_cmpR op_ge (pv 2) (pe_op op_pow pe_int pe_int) (nomark _))) (fun _ _ _ _ _ => pe_op op_sub (pv 2) (pe_op op_pow pe_int pe_int))) (pps_cons pe_str (pv 1) (pps_cons pe_str pe_int (pps_cons pe_str pe_int pps_nil)))) rfl rfl (by intro h; cases h) (by decide))))
theorem sc_law_draw : FnScope ["_law_state", "_law_size", "_law_found", "_law_turn", "_law_cell", "_law_mixed_here"] ["_law_state", "_law_size"] (defScope s_law_draw) := ⟨rfl, rfl, rfl, by decide +kernel, rfl, by decide +kernel, by decide +kernel⟩
abbrev FP_law_draw (K : PySem.W.Frag) (fd : FuncData) : Prop := FunD K "_law_draw" "_law_draw" (defArgs s_law_draw) (defBody s_law_draw) (defScope s_law_draw) ([]) [] (He.ga K "_law_draw") fd
theorem ok_law_draw (T : TextF P w K mg) (TB : TabsB base mg K tfL) : ∃ fd, FP_law_draw K fd ∧ Own P w K mg base 1 (He.ga K "_law_draw") fd ["_law_state", "_law_size"] drawM := by
  obtain ⟨fd, F⟩ := T.says.d.def_ 1 (d := d_law_draw) rfl
  have F : FP_law_draw K fd := F
  refine ⟨fd, F, fnD_of F sc_law_draw (fun cdv A fr s H E B => ?_) rfl, F.kp⟩
  exact ds_cons (ds_while 1100 B.po (DW.dt (dw_and (dt_eq B.room.units (de_rest 0 (units1 B.room)) de_int) (dw_and1 (dt_large 0 B.room.units)))) (ds_one (ds_popL 0 (units1 B.room))))
    (ds_cons (ds_if (dt_gt (de_rest 0 (units1 B.room)) de_int) (ds_cons (ds_set 2 sc_law_draw.nd rfl (.inl rfl) (de_mod (de_int_ rfl T.n_int (da_cons (de_rest 0 (units1 B.room)) da_nil)) (de_var 1))) (ds_cons (ds_rest 0 (units1 B.room) (de_fdiv (de_rest 0 (units1 B.room)) (de_var 1))) (ds_one (ds_ret (de_var 2))))) ds_nil)
    (ds_cons (ds_set 3 sc_law_draw.nd rfl (.inl rfl) (de_add (de_turn 0 (units1 B.room)) de_int))
    (ds_cons (ds_turn 0 (units1 B.room) (de_var 3))
    (ds_cons (ds_set 4 sc_law_draw.nd rfl (.inl rfl) (de_if (dt_cells 0 B.room.units) (de_cell 0 (units1 B.room) (de_mod (de_int_ rfl T.n_int (da_cons (de_var 3) da_nil)) (de_lenCells 0 (units1 B.room) rfl T.n_len)) (fun _ _ => rfl)) de_int))
    (ds_cons (ds_set 5 sc_law_draw.nd rfl (.inl rfl) (de_mod (de_int_ rfl T.n_int (da_cons (de_pow (de_add (de_add (de_mod (de_int_ rfl T.n_int (da_cons (de_var 4) da_nil)) de_int) (de_mul de_int (de_var 3))) de_int) de_int) da_nil)) de_int))
    (ds_one (ds_ret (de_mod (de_int_ rfl T.n_int (da_cons (de_fdiv (de_mod (de_int_ rfl T.n_int (da_cons (de_pow (de_add (de_var 5) (de_mul de_int (de_var 3))) de_int) da_nil)) de_int) de_int) da_nil)) (de_var 1)))))))))
theorem sc_law_mixed : FnScope ["_law_state", "_law_several", "_law_left", "_law_found"] ["_law_state", "_law_several"] (defScope s_law_mixed) := ⟨rfl, rfl, rfl, by decide +kernel, rfl, by decide +kernel, by decide +kernel⟩
abbrev FP_law_mixed (K : PySem.W.Frag) (fd : FuncData) : Prop := FunD K "_law_mixed" "_law_mixed" (defArgs s_law_mixed) (defBody s_law_mixed) (defScope s_law_mixed) ([]) [] (He.ga K "_law_mixed") fd
theorem ok_law_mixed (T : TextF P w K mg) (TB : TabsB base mg K tfL) : ∃ fd, FP_law_mixed K fd ∧ Own P w K mg base 2 (He.ga K "_law_mixed") fd ["_law_state", "_law_several"] (l2 f_law_mixed) := by
  obtain ⟨fd, F⟩ := T.says.d.def_ 2 (d := d_law_mixed) rfl
  have F : FP_law_mixed K fd := F
  obtain ⟨fd_law_draw, F_law_draw, O_law_draw⟩ := ok_law_draw (P := P) (w := w) (base := base) T TB
  have b_law_draw : Binds K fd_law_draw ["_law_state", "_law_size"] [] := F_law_draw.bindsN fun _ _ _ _ _ _ us hl => match us, hl with | [_, _], _ => rfl
  refine ⟨fd, F, fnX_of (k := 1) (gf := (l2 f_law_mixed)) F sc_law_mixed (fun cdv A fr s H E B ds hl => ?_), F.kp⟩
  match ds, hl with | [state, several], _ => exact (by exact xs_par_oo 2 3 (by exact B.calm) (by exact sc_law_mixed.nd) (by rfl) (by rfl) (by decide) (by rfl) (by rfl) (by exact xf_list (by rfl) (by exact T.n_list) (by exact xe_var 1)) (by exact xf_lst xa_nil) (by intro left found; exact (by exact xs_then (e := (fun yy : (List D) × (List D) => ([some (.val state), some (.val several), some (.own yy.1), some (.own yy.2)] : DSt))) (by exact xs_whileN (mc := f_law_mixed_w1c) (f := (f_law_mixed_w2b state)) 1100 (fun yy : (List D) × (List D) => ([some (.val state), some (.val several), some (.own yy.1), some (.own yy.2)] : DSt)) (left, found) (by exact B.po) (by exact ⟨.inr rfl, .inr rfl, .inr rfl, .inr rfl, trivial⟩) (by intro y; exact (by exact xt_lent 2 (by rfl) (by exact xt_ne (by exact B.room.units) (by exact xe_var 2) (by exact xe_lst xa_nil)))) (by intro y; exact (by exact xs_appPop 3 2 (by decide) (by rfl) (by rfl) (by rfl) (by rfl) (by exact xe_call (x := "_law_draw") (ps := ["_law_state", "_law_size"]) (gf := drawM) (dds := []) (by exact O_law_draw.fn) (by exact B.room.mono (by decide)) (by exact B.gd) (by exact B.tk) (by rfl) (by exact T.g_law_draw) (by exact O_law_draw.kp) (by exact b_law_draw) (by exact .nil) (by exact fun _ _ => DenL.nil) (by exact xa_cons (by exact xe_var 0) (by exact xa_cons (by exact xe_lenO 2 (by rfl) (by exact T.n_len)) xa_nil))) (by intro both; exact (by exact xs_nil (a := (both.2, both.1)) (by exact ⟨_, rfl, ⟨.inr rfl, .inr rfl, .inr rfl, .inr rfl, trivial⟩⟩)))))) (by intro y_1; exact (by exact xs_freeze 3 (by rfl) (by exact xs_retB (by exact xe_var 3)))))))
theorem sc_law_every : FnScope [] [] (defScope s_law_every) := ⟨rfl, rfl, rfl, by decide +kernel, rfl, by decide +kernel, by decide +kernel⟩
abbrev FP_law_every (K : PySem.W.Frag) (fd : FuncData) : Prop := FunD K "_law_every" "_law_every" (defArgs s_law_every) (defBody s_law_every) (defScope s_law_every) ([]) [] (He.ga K "_law_every") fd
theorem ok_law_every (T : TextF P w K mg) (TB : TabsB base mg K tfL) : ∃ fd, FP_law_every K fd ∧ Own P w K mg base 1 (He.ga K "_law_every") fd [] (l0 f_law_every) := by
  obtain ⟨fd, F⟩ := T.says.d.def_ 3 (d := d_law_every) rfl
  have F : FP_law_every K fd := F
  refine ⟨fd, F, fnX_of (k := 0) (gf := (l0 f_law_every)) F sc_law_every (fun cdv A fr s H E B ds hl => ?_), F.kp⟩
  match ds, hl with | [], _ => exact (by exact xs_retB (by exact xe_lst (by exact xa_cons (by exact xe_str) (by exact xa_cons (by exact xe_str) (by exact xa_cons (by exact xe_str) (by exact xa_cons (by exact xe_str) (by exact xa_cons (by exact xe_str) (by exact xa_cons (by exact xe_str) (by exact xa_cons (by exact xe_str) (by exact xa_cons (by exact xe_str) xa_nil))))))))))
theorem sc_law_pick : FnScope ["_law_state", "_law_several"] ["_law_state", "_law_several"] (defScope s_law_pick) := ⟨rfl, rfl, rfl, by decide +kernel, rfl, by decide +kernel, by decide +kernel⟩
abbrev FP_law_pick (K : PySem.W.Frag) (fd : FuncData) : Prop := FunD K "_law_pick" "_law_pick" (defArgs s_law_pick) (defBody s_law_pick) (defScope s_law_pick) ([]) [] (He.ga K "_law_pick") fd
theorem ok_law_pick (T : TextF P w K mg) (TB : TabsB base mg K tfL) : ∃ fd, FP_law_pick K fd ∧ Own P w K mg base 2 (He.ga K "_law_pick") fd ["_law_state", "_law_several"] (l2 f_law_pick) := by
  obtain ⟨fd, F⟩ := T.says.d.def_ 4 (d := d_law_pick) rfl
  have F : FP_law_pick K fd := F
  obtain ⟨fd_law_draw, F_law_draw, O_law_draw⟩ := ok_law_draw (P := P) (w := w) (base := base) T TB
  have b_law_draw : Binds K fd_law_draw ["_law_state", "_law_size"] [] := F_law_draw.bindsN fun _ _ _ _ _ _ us hl => match us, hl with | [_, _], _ => rfl
  refine ⟨fd, F, fnX_of (k := 1) (gf := (l2 f_law_pick)) F sc_law_pick (fun cdv A fr s H E B ds hl => ?_), F.kp⟩
  match ds, hl with | [state, several], _ => exact (by exact xs_retB (by exact xe_idx (by exact xe_var 1) (by exact xe_call (x := "_law_draw") (ps := ["_law_state", "_law_size"]) (gf := drawM) (dds := []) (by exact O_law_draw.fn) (by exact B.room.mono (by decide)) (by exact B.gd) (by exact B.tk) (by rfl) (by exact T.g_law_draw) (by exact O_law_draw.kp) (by exact b_law_draw) (by exact .nil) (by exact fun _ _ => DenL.nil) (by exact xa_cons (by exact xe_var 0) (by exact xa_cons (by exact xe_len (by rfl) (by exact T.n_len) (by exact xa_cons (by exact xe_var 1) xa_nil)) xa_nil))) (by exact fun _ _ => rfl)))
theorem sc_law_wording : FnScope ["_law_state", "_law_most", "_law_found", "_law_way", "_law_ahead_word", "_law_last", "_law_between", "_law_single"] ["_law_state", "_law_most"] (defScope s_law_wording) := ⟨rfl, rfl, rfl, by decide +kernel, rfl, by decide +kernel, by decide +kernel⟩
abbrev FP_law_wording (K : PySem.W.Frag) (fd : FuncData) : Prop := FunD K "_law_wording" "_law_wording" (defArgs s_law_wording) (defBody s_law_wording) (defScope s_law_wording) ([]) [] (He.ga K "_law_wording") fd
theorem ok_law_wording (T : TextF P w K mg) (TB : TabsB base mg K tfL) : ∃ fd, FP_law_wording K fd ∧ Own P w K mg base 3 (He.ga K "_law_wording") fd ["_law_state", "_law_most"] (l2 f_law_wording) := by
  obtain ⟨fd, F⟩ := T.says.d.def_ 5 (d := d_law_wording) rfl
  have F : FP_law_wording K fd := F
  obtain ⟨fd_law_mixed, F_law_mixed, O_law_mixed⟩ := ok_law_mixed (P := P) (w := w) (base := base) T TB
  have b_law_mixed : Binds K fd_law_mixed ["_law_state", "_law_several"] [] := F_law_mixed.bindsN fun _ _ _ _ _ _ us hl => match us, hl with | [_, _], _ => rfl
  obtain ⟨fd_law_every, F_law_every, O_law_every⟩ := ok_law_every (P := P) (w := w) (base := base) T TB
  have b_law_every : Binds K fd_law_every [] [] := F_law_every.bindsN fun _ _ _ _ _ _ us hl => match us, hl with | [], _ => rfl
  obtain ⟨fd_law_draw, F_law_draw, O_law_draw⟩ := ok_law_draw (P := P) (w := w) (base := base) T TB
  have b_law_draw : Binds K fd_law_draw ["_law_state", "_law_size"] [] := F_law_draw.bindsN fun _ _ _ _ _ _ us hl => match us, hl with | [_, _], _ => rfl
  obtain ⟨fd_law_pick, F_law_pick, O_law_pick⟩ := ok_law_pick (P := P) (w := w) (base := base) T TB
  have b_law_pick : Binds K fd_law_pick ["_law_state", "_law_several"] [] := F_law_pick.bindsN fun _ _ _ _ _ _ us hl => match us, hl with | [_, _], _ => rfl
  refine ⟨fd, F, fnX_of (k := 2) (gf := (l2 f_law_wording)) F sc_law_wording (fun cdv A fr s H E B ds hl => ?_), F.kp⟩
  match ds, hl with | [state, most], _ => exact (by exact xs_set 2 (by exact sc_law_wording.nd) (by rfl) (by first | exact .inl rfl | exact .inr rfl) (by exact xe_slice (by exact xe_call (x := "_law_mixed") (ps := ["_law_state", "_law_several"]) (gf := (l2 f_law_mixed)) (dds := []) (by exact O_law_mixed.fn) (by exact B.room.mono (by decide)) (by exact B.gd) (by exact B.tk) (by rfl) (by exact T.g_law_mixed) (by exact O_law_mixed.kp) (by exact b_law_mixed) (by exact .nil) (by exact fun _ _ => DenL.nil) (by exact xa_cons (by exact xe_var 0) (by exact xa_cons (by exact xe_call0 (x := "_law_every") (ps := []) (gf := (l0 f_law_every)) (dds := []) (by exact O_law_every.fn) (by exact B.room.mono (by decide)) (by exact B.gd) (by exact B.tk) (by rfl) (by exact T.g_law_every) (by exact O_law_every.kp) (by exact b_law_every) (by exact .nil) (by exact fun _ _ => DenL.nil)) xa_nil))) (by exact xo_none) (by exact xo_some (by exact xe_call (x := "_law_draw") (ps := ["_law_state", "_law_size"]) (gf := drawM) (dds := []) (by exact O_law_draw.fn) (by exact B.room.mono (by decide)) (by exact B.gd) (by exact B.tk) (by rfl) (by exact T.g_law_draw) (by exact O_law_draw.kp) (by exact b_law_draw) (by exact .nil) (by exact fun _ _ => DenL.nil) (by exact xa_cons (by exact xe_var 0) (by exact xa_cons (by exact xe_add (by exact xe_var 1) (by exact xe_int)) xa_nil))))) (by intro found; exact (by exact xs_set 3 (by exact sc_law_wording.nd) (by rfl) (by first | exact .inl rfl | exact .inr rfl) (by exact xe_call (x := "_law_draw") (ps := ["_law_state", "_law_size"]) (gf := drawM) (dds := []) (by exact O_law_draw.fn) (by exact B.room.mono (by decide)) (by exact B.gd) (by exact B.tk) (by rfl) (by exact T.g_law_draw) (by exact O_law_draw.kp) (by exact b_law_draw) (by exact .nil) (by exact fun _ _ => DenL.nil) (by exact xa_cons (by exact xe_var 0) (by exact xa_cons (by exact xe_int) xa_nil))) (by intro way; exact (by exact xs_if1 (by exact xt_eq (by exact B.room.units) (by exact xe_var 3) (by exact xe_int)) (by exact xs_asg (T := (.tp [4, 5])) (by exact xe_tup (by exact xa_cons (by exact xe_call (x := "_law_pick") (ps := ["_law_state", "_law_several"]) (gf := (l2 f_law_pick)) (dds := []) (by exact O_law_pick.fn) (by exact B.room.mono (by decide)) (by exact B.gd) (by exact B.tk) (by rfl) (by exact T.g_law_pick) (by exact O_law_pick.kp) (by exact b_law_pick) (by exact .nil) (by exact fun _ _ => DenL.nil) (by exact xa_cons (by exact xe_var 0) (by exact xa_cons (by exact xe_lst (by exact xa_cons (by exact xe_str) (by exact xa_cons (by exact xe_str) xa_nil))) xa_nil))) (by exact xa_cons (by exact xe_call (x := "_law_pick") (ps := ["_law_state", "_law_several"]) (gf := (l2 f_law_pick)) (dds := []) (by exact O_law_pick.fn) (by exact B.room.mono (by decide)) (by exact B.gd) (by exact B.tk) (by rfl) (by exact T.g_law_pick) (by exact O_law_pick.kp) (by exact b_law_pick) (by exact .nil) (by exact fun _ _ => DenL.nil) (by exact xa_cons (by exact xe_var 0) (by exact xa_cons (by exact xe_lst (by exact xa_cons (by exact xe_str) (by exact xa_cons (by exact xe_str) xa_nil))) xa_nil))) xa_nil))) (by exact pg_tup (by exact B.calm) (by exact pgs_cons (by exact pg_name (by exact sc_law_wording.nd) (by rfl) (by first | exact .inl rfl | exact .inr rfl)) (by exact pgs_cons (by exact pg_name (by exact sc_law_wording.nd) (by rfl) (by first | exact .inl rfl | exact .inr rfl)) pgs_nil))) (by exact none2 (by rfl)) (by exact tgt2 (by intro ahead_word last; exact (by exact XS.cast (g' := [some (.val state), some (.val most), some (.val found), some (.val way), some (.val ahead_word), some (.val last), none, none]) (by rfl) (by exact xs_set 6 (by exact sc_law_wording.nd) (by rfl) (by first | exact .inl rfl | exact .inr rfl) (by exact xe_slice (by exact XF.xe (by exact xf_lc (T := (.nm 7)) (by exact B.calm) (by exact sc_law_wording.nd) (by exact xi_any (by exact xe_var 2)) (blkOk_by (own := [("_law_single", 7)]) (by first | decide +kernel | kernel_rfl)) (by intro _ _ _ _ _; exact (by exact pg_name (by exact sc_law_wording.nd) (by rfl) (by first | exact .inl rfl | exact .inr rfl))) (by exact none1 (by rfl)) (by intro _ _ _ _ _; exact tgt1 (by intro single; exact (by exact xts_one (by exact xt_notin (by exact xe_var 7) (by exact xe_tup (by exact xa_cons (by exact xe_var 4) (by exact xa_cons (by exact xe_var 5) xa_nil))))))) (by intro _ _ _ _ _; exact tgt1 (by intro single; exact (by exact xe_var 7))) (by decide))) (by exact xo_none) (by exact xo_some (by exact xe_call (x := "_law_draw") (ps := ["_law_state", "_law_size"]) (gf := drawM) (dds := []) (by exact O_law_draw.fn) (by exact B.room.mono (by decide)) (by exact B.gd) (by exact B.tk) (by rfl) (by exact T.g_law_draw) (by exact O_law_draw.kp) (by exact b_law_draw) (by exact .nil) (by exact fun _ _ => DenL.nil) (by exact xa_cons (by exact xe_var 0) (by exact xa_cons (by exact xe_int) xa_nil))))) (by intro between; exact (by exact xs_retR (by exact xe_add (by exact xe_add (by exact xe_lst (by exact xa_cons (by exact xe_var 4) xa_nil)) (by exact xe_var 6)) (by exact xe_lst (by exact xa_cons (by exact xe_var 5) xa_nil)))))))))) (by exact xs_retB (by exact xe_var 2)))))))
theorem sc_law_span : FnScope ["_law_state", "_law_top", "_law_first"] ["_law_state", "_law_top"] (defScope s_law_span) := ⟨rfl, rfl, rfl, by decide +kernel, rfl, by decide +kernel, by decide +kernel⟩
abbrev FP_law_span (K : PySem.W.Frag) (fd : FuncData) : Prop := FunD K "_law_span" "_law_span" (defArgs s_law_span) (defBody s_law_span) (defScope s_law_span) ([]) [] (He.ga K "_law_span") fd
theorem ok_law_span (T : TextF P w K mg) (TB : TabsB base mg K tfL) : ∃ fd, FP_law_span K fd ∧ Own P w K mg base 2 (He.ga K "_law_span") fd ["_law_state", "_law_top"] (l2 f_law_span) := by
  obtain ⟨fd, F⟩ := T.says.d.def_ 6 (d := d_law_span) rfl
  have F : FP_law_span K fd := F
  obtain ⟨fd_law_draw, F_law_draw, O_law_draw⟩ := ok_law_draw (P := P) (w := w) (base := base) T TB
  have b_law_draw : Binds K fd_law_draw ["_law_state", "_law_size"] [] := F_law_draw.bindsN fun _ _ _ _ _ _ us hl => match us, hl with | [_, _], _ => rfl
  refine ⟨fd, F, fnX_of (k := 1) (gf := (l2 f_law_span)) F sc_law_span (fun cdv A fr s H E B ds hl => ?_), F.kp⟩
  match ds, hl with | [state, top_], _ => exact (by exact xs_set 2 (by exact sc_law_span.nd) (by rfl) (by first | exact .inl rfl | exact .inr rfl) (by exact xe_call (x := "_law_draw") (ps := ["_law_state", "_law_size"]) (gf := drawM) (dds := []) (by exact O_law_draw.fn) (by exact B.room.mono (by decide)) (by exact B.gd) (by exact B.tk) (by rfl) (by exact T.g_law_draw) (by exact O_law_draw.kp) (by exact b_law_draw) (by exact .nil) (by exact fun _ _ => DenL.nil) (by exact xa_cons (by exact xe_var 0) (by exact xa_cons (by exact xe_add (by exact xe_var 1) (by exact xe_int)) xa_nil))) (by intro first; exact (by exact xs_retB (by exact xe_tup (by exact xa_cons (by exact xe_var 2) (by exact xa_cons (by exact xe_if (by exact xt_eq (by exact B.room.units) (by exact xe_call (x := "_law_draw") (ps := ["_law_state", "_law_size"]) (gf := drawM) (dds := []) (by exact O_law_draw.fn) (by exact B.room.mono (by decide)) (by exact B.gd) (by exact B.tk) (by rfl) (by exact T.g_law_draw) (by exact O_law_draw.kp) (by exact b_law_draw) (by exact .nil) (by exact fun _ _ => DenL.nil) (by exact xa_cons (by exact xe_var 0) (by exact xa_cons (by exact xe_int) xa_nil))) (by exact xe_int)) (by exact xe_non) (by exact xe_add (by exact xe_var 2) (by exact xe_call (x := "_law_draw") (ps := ["_law_state", "_law_size"]) (gf := drawM) (dds := []) (by exact O_law_draw.fn) (by exact B.room.mono (by decide)) (by exact B.gd) (by exact B.tk) (by rfl) (by exact T.g_law_draw) (by exact O_law_draw.kp) (by exact b_law_draw) (by exact .nil) (by exact fun _ _ => DenL.nil) (by exact xa_cons (by exact xe_var 0) (by exact xa_cons (by exact xe_add (by exact xe_sub (by exact xe_var 1) (by exact xe_var 2)) (by exact xe_int)) xa_nil))))) xa_nil))))))
theorem sc_law_frame : FnScope ["_law_state", "_law_top", "_law_names"] ["_law_state", "_law_top"] (defScope s_law_frame) := ⟨rfl, rfl, rfl, by decide +kernel, rfl, by decide +kernel, by decide +kernel⟩
abbrev FP_law_frame (K : PySem.W.Frag) (fd : FuncData) : Prop := FunD K "_law_frame" "_law_frame" (defArgs s_law_frame) (defBody s_law_frame) (defScope s_law_frame) ([]) [] (He.ga K "_law_frame") fd
theorem ok_law_frame (T : TextF P w K mg) (TB : TabsB base mg K tfL) : ∃ fd, FP_law_frame K fd ∧ Own P w K mg base 3 (He.ga K "_law_frame") fd ["_law_state", "_law_top"] (l2 f_law_frame) := by
  obtain ⟨fd, F⟩ := T.says.d.def_ 7 (d := d_law_frame) rfl
  have F : FP_law_frame K fd := F
  obtain ⟨fd_law_pick, F_law_pick, O_law_pick⟩ := ok_law_pick (P := P) (w := w) (base := base) T TB
  have b_law_pick : Binds K fd_law_pick ["_law_state", "_law_several"] [] := F_law_pick.bindsN fun _ _ _ _ _ _ us hl => match us, hl with | [_, _], _ => rfl
  obtain ⟨fd_law_span, F_law_span, O_law_span⟩ := ok_law_span (P := P) (w := w) (base := base) T TB
  have b_law_span : Binds K fd_law_span ["_law_state", "_law_top"] [] := F_law_span.bindsN fun _ _ _ _ _ _ us hl => match us, hl with | [_, _], _ => rfl
  refine ⟨fd, F, fnX_of (k := 2) (gf := (l2 f_law_frame)) F sc_law_frame (fun cdv A fr s H E B ds hl => ?_), F.kp⟩
  match ds, hl with | [state, top_], _ => exact (by exact xs_set 2 (by exact sc_law_frame.nd) (by rfl) (by first | exact .inl rfl | exact .inr rfl) (by exact xe_lst (by exact xa_cons (by exact xe_non) (by exact xa_cons (by exact xe_non) (by exact xa_cons (by exact xe_non) (by exact xa_cons (by exact xe_str) (by exact xa_cons (by exact xe_str) (by exact xa_cons (by exact xe_str) xa_nil))))))) (by intro names; exact (by exact xs_retB (by exact xe_tup (by exact xa_cons (by exact xe_call (x := "_law_pick") (ps := ["_law_state", "_law_several"]) (gf := (l2 f_law_pick)) (dds := []) (by exact O_law_pick.fn) (by exact B.room.mono (by decide)) (by exact B.gd) (by exact B.tk) (by rfl) (by exact T.g_law_pick) (by exact O_law_pick.kp) (by exact b_law_pick) (by exact .nil) (by exact fun _ _ => DenL.nil) (by exact xa_cons (by exact xe_var 0) (by exact xa_cons (by exact xe_var 2) xa_nil))) (by exact xa_cons (by exact xe_call (x := "_law_pick") (ps := ["_law_state", "_law_several"]) (gf := (l2 f_law_pick)) (dds := []) (by exact O_law_pick.fn) (by exact B.room.mono (by decide)) (by exact B.gd) (by exact B.tk) (by rfl) (by exact T.g_law_pick) (by exact O_law_pick.kp) (by exact b_law_pick) (by exact .nil) (by exact fun _ _ => DenL.nil) (by exact xa_cons (by exact xe_var 0) (by exact xa_cons (by exact xe_slice (by exact xe_var 2) (by exact xo_none) (by exact xo_some (by exact xe_int))) xa_nil))) (by exact xa_cons (by exact xe_call (x := "_law_span") (ps := ["_law_state", "_law_top"]) (gf := (l2 f_law_span)) (dds := []) (by exact O_law_span.fn) (by exact B.room.mono (by decide)) (by exact B.gd) (by exact B.tk) (by rfl) (by exact T.g_law_span) (by exact O_law_span.kp) (by exact b_law_span) (by exact .nil) (by exact fun _ _ => DenL.nil) (by exact xa_cons (by exact xe_var 0) (by exact xa_cons (by exact xe_var 1) xa_nil))) (by exact xa_cons (by exact xe_call (x := "_law_span") (ps := ["_law_state", "_law_top"]) (gf := (l2 f_law_span)) (dds := []) (by exact O_law_span.fn) (by exact B.room.mono (by decide)) (by exact B.gd) (by exact B.tk) (by rfl) (by exact T.g_law_span) (by exact O_law_span.kp) (by exact b_law_span) (by exact .nil) (by exact fun _ _ => DenL.nil) (by exact xa_cons (by exact xe_var 0) (by exact xa_cons (by exact xe_var 1) xa_nil))) xa_nil))))))))
theorem sc_law_near_frame : FnScope ["_law_state", "_law_frame_here", "_law_top", "_law_found", "_law_way", "_law_spot", "_law_first", "_law_last"] ["_law_state", "_law_frame_here", "_law_top"] (defScope s_law_near_frame) := ⟨rfl, rfl, rfl, by decide +kernel, rfl, by decide +kernel, by decide +kernel⟩
abbrev FP_law_near_frame (K : PySem.W.Frag) (fd : FuncData) : Prop := FunD K "_law_near_frame" "_law_near_frame" (defArgs s_law_near_frame) (defBody s_law_near_frame) (defScope s_law_near_frame) ([]) [] (He.ga K "_law_near_frame") fd
theorem ok_law_near_frame (T : TextF P w K mg) (TB : TabsB base mg K tfL) : ∃ fd, FP_law_near_frame K fd ∧ Own P w K mg base 4 (He.ga K "_law_near_frame") fd ["_law_state", "_law_frame_here", "_law_top"] (l3 f_law_near_frame) := by
  obtain ⟨fd, F⟩ := T.says.d.def_ 8 (d := d_law_near_frame) rfl
  have F : FP_law_near_frame K fd := F
  obtain ⟨fd_law_draw, F_law_draw, O_law_draw⟩ := ok_law_draw (P := P) (w := w) (base := base) T TB
  have b_law_draw : Binds K fd_law_draw ["_law_state", "_law_size"] [] := F_law_draw.bindsN fun _ _ _ _ _ _ us hl => match us, hl with | [_, _], _ => rfl
  obtain ⟨fd_law_frame, F_law_frame, O_law_frame⟩ := ok_law_frame (P := P) (w := w) (base := base) T TB
  have b_law_frame : Binds K fd_law_frame ["_law_state", "_law_top"] [] := F_law_frame.bindsN fun _ _ _ _ _ _ us hl => match us, hl with | [_, _], _ => rfl
  obtain ⟨fd_law_pick, F_law_pick, O_law_pick⟩ := ok_law_pick (P := P) (w := w) (base := base) T TB
  have b_law_pick : Binds K fd_law_pick ["_law_state", "_law_several"] [] := F_law_pick.bindsN fun _ _ _ _ _ _ us hl => match us, hl with | [_, _], _ => rfl
  refine ⟨fd, F, fnX_of (k := 3) (gf := (l3 f_law_near_frame)) F sc_law_near_frame (fun cdv A fr s H E B ds hl => ?_), F.kp⟩
  match ds, hl with | [state, frame_here, top_], _ => exact (by exact xs_par_ovv 3 4 5 (by exact B.calm) (by exact sc_law_near_frame.nd) (by rfl) (by rfl) (by rfl) (by decide) (by decide) (by decide) (by rfl) (by rfl) (by rfl) (by exact xf_list (by rfl) (by exact T.n_list) (by exact xe_var 1)) (by exact xe_call (x := "_law_draw") (ps := ["_law_state", "_law_size"]) (gf := drawM) (dds := []) (by exact O_law_draw.fn) (by exact B.room.mono (by decide)) (by exact B.gd) (by exact B.tk) (by rfl) (by exact T.g_law_draw) (by exact O_law_draw.kp) (by exact b_law_draw) (by exact .nil) (by exact fun _ _ => DenL.nil) (by exact xa_cons (by exact xe_var 0) (by exact xa_cons (by exact xe_int) xa_nil))) (by exact xe_add (by exact xe_int) (by exact xe_call (x := "_law_draw") (ps := ["_law_state", "_law_size"]) (gf := drawM) (dds := []) (by exact O_law_draw.fn) (by exact B.room.mono (by decide)) (by exact B.gd) (by exact B.tk) (by rfl) (by exact T.g_law_draw) (by exact O_law_draw.kp) (by exact b_law_draw) (by exact .nil) (by exact fun _ _ => DenL.nil) (by exact xa_cons (by exact xe_var 0) (by exact xa_cons (by exact xe_int) xa_nil)))) (by intro found way spot; exact (by exact XS.cast (g' := [some (.val state), some (.val frame_here), some (.val top_), some (.own found), some (.val way), some (.val spot), none, none]) (by rfl) (by exact xs_if1 (by exact xt_lt (by exact xe_var 4) (by exact xe_int)) (by exact xs_retR (by exact xe_if (by exact xt_eq (by exact B.room.units) (by exact xe_var 4) (by exact xe_int)) (by exact xe_var 1) (by exact xe_call (x := "_law_frame") (ps := ["_law_state", "_law_top"]) (gf := (l2 f_law_frame)) (dds := []) (by exact O_law_frame.fn) (by exact B.room.mono (by decide)) (by exact B.gd) (by exact B.tk) (by rfl) (by exact T.g_law_frame) (by exact O_law_frame.kp) (by exact b_law_frame) (by exact .nil) (by exact fun _ _ => DenL.nil) (by exact xa_cons (by exact xe_var 0) (by exact xa_cons (by exact xe_var 2) xa_nil))))) (by exact xs_if1 (by exact xt_eq (by exact B.room.units) (by exact xe_var 4) (by exact xe_int)) (by exact xs_put 3 (by rfl) (by rfl) (by exact xe_if (by exact xt_is (by exact xe_idxO 3 (by rfl) (by exact xe_sub (by exact xe_var 5) (by exact xe_int)) (by exact fun _ _ => rfl)) (by exact xe_non)) (by exact xe_call (x := "_law_pick") (ps := ["_law_state", "_law_several"]) (gf := (l2 f_law_pick)) (dds := []) (by exact O_law_pick.fn) (by exact B.room.mono (by decide)) (by exact B.gd) (by exact B.tk) (by rfl) (by exact T.g_law_pick) (by exact O_law_pick.kp) (by exact b_law_pick) (by exact .nil) (by exact fun _ _ => DenL.nil) (by exact xa_cons (by exact xe_var 0) (by exact xa_cons (by exact xe_lst (by exact xa_cons (by exact xe_str) (by exact xa_cons (by exact xe_str) xa_nil))) xa_nil))) (by exact xe_non)) (by exact xe_sub (by exact xe_var 5) (by exact xe_int)) (by intro found_1; exact (by exact xs_freeze 3 (by rfl) (by exact xs_retR (by exact xe_tuple_ (by rfl) (by exact T.n_tuple) (by exact xa_cons (by exact xe_var 3) xa_nil)))))) (by exact xs_asg (T := (.tp [6, 7])) (by exact xe_idxO 3 (by rfl) (by exact xe_var 5) (by exact fun _ _ => rfl)) (by exact pg_tup (by exact B.calm) (by exact pgs_cons (by exact pg_name (by exact sc_law_near_frame.nd) (by rfl) (by first | exact .inl rfl | exact .inr rfl)) (by exact pgs_cons (by exact pg_name (by exact sc_law_near_frame.nd) (by rfl) (by first | exact .inl rfl | exact .inr rfl)) pgs_nil))) (by exact none2 (by rfl)) (by exact tgt2 (by intro first last; exact (by exact xs_then (e := (fun yy : (List D) => ([some (.val state), some (.val frame_here), some (.val top_), some (.own yy), some (.val way), some (.val spot), some (.val first), some (.val last)] : DSt))) (by exact xs_if (by exact xt_eq (by exact B.room.units) (by exact xe_var 4) (by exact xe_int)) (by exact xs_put 3 (by rfl) (by rfl) (by exact xe_tup (by exact xa_cons (by exact xe_if (by exact xt_gt (by exact xe_var 6) (by exact xe_int)) (by exact xe_sub (by exact xe_var 6) (by exact xe_int)) (by exact xe_int)) (by exact xa_cons (by exact xe_var 7) xa_nil))) (by exact xe_var 5) (by intro found_2; exact (by exact xs_nil (a := found_2) (by exact ⟨_, rfl, ⟨.inr rfl, .inr rfl, .inr rfl, .inr rfl, .inr rfl, .inr rfl, .inr rfl, .inr rfl, trivial⟩⟩)))) (by exact xs_last (by exact xs_if (by exact xt_eq (by exact B.room.units) (by exact xe_var 4) (by exact xe_int)) (by exact xs_put 3 (by rfl) (by rfl) (by exact xe_tup (by exact xa_cons (by exact xe_var 6) (by exact xa_cons (by exact xe_if (by exact xt_is (by exact xe_var 7) (by exact xe_non)) (by exact xe_non) (by exact xe_add (by exact xe_var 7) (by exact xe_int))) xa_nil))) (by exact xe_var 5) (by intro found_3; exact (by exact xs_nil (a := found_3) (by exact ⟨_, rfl, ⟨.inr rfl, .inr rfl, .inr rfl, .inr rfl, .inr rfl, .inr rfl, .inr rfl, .inr rfl, trivial⟩⟩)))) (by exact xs_put 3 (by rfl) (by rfl) (by exact xe_if (by exact XW.xt (by exact xw_or (by exact xt_is (by exact xe_var 7) (by exact xe_non)) (by exact xw_or1 (by exact xt_gt (by exact xe_var 7) (by exact xe_var 6))))) (by exact xe_tup (by exact xa_cons (by exact xe_add (by exact xe_var 6) (by exact xe_int)) (by exact xa_cons (by exact xe_var 7) xa_nil))) (by exact xe_tup (by exact xa_cons (by exact xe_var 6) (by exact xa_cons (by exact xe_non) xa_nil)))) (by exact xe_var 5) (by intro found_4; exact (by exact xs_nil (a := found_4) (by exact ⟨_, rfl, ⟨.inr rfl, .inr rfl, .inr rfl, .inr rfl, .inr rfl, .inr rfl, .inr rfl, .inr rfl, trivial⟩⟩))))))) (by intro found_5; exact (by exact xs_freeze 3 (by rfl) (by exact xs_retB (by exact xe_tuple_ (by rfl) (by exact T.n_tuple) (by exact xa_cons (by exact xe_var 3) xa_nil))))))))))))))
theorem sc_law_cards : FnScope ["_law_state", "_law_many", "_law_top", "_law_found", "_law_turn", "_law_frame_here"] ["_law_state", "_law_many", "_law_top"] (defScope s_law_cards) := ⟨rfl, rfl, rfl, by decide +kernel, rfl, by decide +kernel, by decide +kernel⟩
abbrev FP_law_cards (K : PySem.W.Frag) (fd : FuncData) : Prop := FunD K "_law_cards" "_law_cards" (defArgs s_law_cards) (defBody s_law_cards) (defScope s_law_cards) ([]) [] (He.ga K "_law_cards") fd
theorem ok_law_cards (T : TextF P w K mg) (TB : TabsB base mg K tfL) : ∃ fd, FP_law_cards K fd ∧ Own P w K mg base 5 (He.ga K "_law_cards") fd ["_law_state", "_law_many", "_law_top"] (l3 f_law_cards) := by
  obtain ⟨fd, F⟩ := T.says.d.def_ 9 (d := d_law_cards) rfl
  have F : FP_law_cards K fd := F
  obtain ⟨fd_law_frame, F_law_frame, O_law_frame⟩ := ok_law_frame (P := P) (w := w) (base := base) T TB
  have b_law_frame : Binds K fd_law_frame ["_law_state", "_law_top"] [] := F_law_frame.bindsN fun _ _ _ _ _ _ us hl => match us, hl with | [_, _], _ => rfl
  obtain ⟨fd_law_draw, F_law_draw, O_law_draw⟩ := ok_law_draw (P := P) (w := w) (base := base) T TB
  have b_law_draw : Binds K fd_law_draw ["_law_state", "_law_size"] [] := F_law_draw.bindsN fun _ _ _ _ _ _ us hl => match us, hl with | [_, _], _ => rfl
  obtain ⟨fd_law_near_frame, F_law_near_frame, O_law_near_frame⟩ := ok_law_near_frame (P := P) (w := w) (base := base) T TB
  have b_law_near_frame : Binds K fd_law_near_frame ["_law_state", "_law_frame_here", "_law_top"] [] := F_law_near_frame.bindsN fun _ _ _ _ _ _ us hl => match us, hl with | [_, _, _], _ => rfl
  obtain ⟨fd_law_pick, F_law_pick, O_law_pick⟩ := ok_law_pick (P := P) (w := w) (base := base) T TB
  have b_law_pick : Binds K fd_law_pick ["_law_state", "_law_several"] [] := F_law_pick.bindsN fun _ _ _ _ _ _ us hl => match us, hl with | [_, _], _ => rfl
  refine ⟨fd, F, fnX_of (k := 4) (gf := (l3 f_law_cards)) F sc_law_cards (fun cdv A fr s H E B ds hl => ?_), F.kp⟩
  match ds, hl with | [state, many, top_], _ => exact (by exact xs_setO 3 (by exact sc_law_cards.nd) (by rfl) (by first | exact .inl rfl | exact .inr rfl) (by exact xf_lst xa_nil) (by intro found; exact (by exact xs_then (e := (fun yy : (List D) => ([some (.val state), some (.val many), some (.val top_), some (.own yy), none, none] : DSt))) (by exact xs_forN (T := (.nm 4)) (f := (f_law_cards_b1 state top_)) (fun yy : (List D) => ([some (.val state), some (.val many), some (.val top_), some (.own yy), none, none] : DSt)) found (by exact B.po) (by exact B.calm) (by exact xi_range1 (by rfl) (by exact T.n_range) (by exact xe_var 1)) (by exact pg_name (by exact sc_law_cards.nd) (by rfl) (by first | exact .inl rfl | exact .inr rfl)) (by exact ⟨.inr rfl, .inr rfl, .inr rfl, .inr rfl, .inl rfl, .inl rfl, trivial⟩) (by intro y; exact none1 (by rfl)) (by intro y; exact tgt1 (by intro turn; exact (by exact xs_set 5 (by exact sc_law_cards.nd) (by rfl) (by first | exact .inl rfl | exact .inr rfl) (by exact xe_call (x := "_law_frame") (ps := ["_law_state", "_law_top"]) (gf := (l2 f_law_frame)) (dds := []) (by exact O_law_frame.fn) (by exact B.room.mono (by decide)) (by exact B.gd) (by exact B.tk) (by rfl) (by exact T.g_law_frame) (by exact O_law_frame.kp) (by exact b_law_frame) (by exact .nil) (by exact fun _ _ => DenL.nil) (by exact xa_cons (by exact xe_var 0) (by exact xa_cons (by exact xe_var 2) xa_nil))) (by intro frame_here; exact (by exact xs_then (e := (fun yy : D => ([some (.val state), some (.val many), some (.val top_), some (.own y), some (.val turn), some (.val yy)] : DSt))) (by exact xs_if (by exact XW.xt (by exact xw_and (by exact xt_lent 3 (by rfl) (by exact xt_ne (by exact B.room.units) (by exact xe_var 3) (by exact xe_lst xa_nil))) (by exact xw_and1 (by exact xt_gt (by exact xe_call (x := "_law_draw") (ps := ["_law_state", "_law_size"]) (gf := drawM) (dds := []) (by exact O_law_draw.fn) (by exact B.room.mono (by decide)) (by exact B.gd) (by exact B.tk) (by rfl) (by exact T.g_law_draw) (by exact O_law_draw.kp) (by exact b_law_draw) (by exact .nil) (by exact fun _ _ => DenL.nil) (by exact xa_cons (by exact xe_var 0) (by exact xa_cons (by exact xe_int) xa_nil))) (by exact xe_int))))) (by exact xs_set 5 (by exact sc_law_cards.nd) (by rfl) (by first | exact .inl rfl | exact .inr rfl) (by exact xe_call (x := "_law_near_frame") (ps := ["_law_state", "_law_frame_here", "_law_top"]) (gf := (l3 f_law_near_frame)) (dds := []) (by exact O_law_near_frame.fn) (by exact B.room.mono (by decide)) (by exact B.gd) (by exact B.tk) (by rfl) (by exact T.g_law_near_frame) (by exact O_law_near_frame.kp) (by exact b_law_near_frame) (by exact .nil) (by exact fun _ _ => DenL.nil) (by exact xa_cons (by exact xe_var 0) (by exact xa_cons (by exact xe_idx (by exact xe_lent 3 (by rfl) (by exact xe_call (x := "_law_pick") (ps := ["_law_state", "_law_several"]) (gf := (l2 f_law_pick)) (dds := []) (by exact O_law_pick.fn) (by exact B.room.mono (by decide)) (by exact B.gd) (by exact B.tk) (by rfl) (by exact T.g_law_pick) (by exact O_law_pick.kp) (by exact b_law_pick) (by exact .nil) (by exact fun _ _ => DenL.nil) (by exact xa_cons (by exact xe_var 0) (by exact xa_cons (by exact xe_var 3) xa_nil)))) (by exact xe_int) (by exact fun _ _ => rfl)) (by exact xa_cons (by exact xe_var 2) xa_nil)))) (by intro frame_here_1; exact (by exact xs_nil (a := frame_here_1) (by exact ⟨_, rfl, ⟨.inr rfl, .inr rfl, .inr rfl, .inr rfl, .inr rfl, .inr rfl, trivial⟩⟩)))) (by exact xs_nil (a := frame_here) (by exact ⟨_, rfl, ⟨.inr rfl, .inr rfl, .inr rfl, .inr rfl, .inr rfl, .inr rfl, trivial⟩⟩))) (by intro frame_here_2; exact (by exact xs_append 3 (by rfl) (by rfl) (by exact xe_tup (by exact xa_cons (by exact xe_var 5) (by exact xa_cons (by exact xe_call (x := "_law_draw") (ps := ["_law_state", "_law_size"]) (gf := drawM) (dds := []) (by exact O_law_draw.fn) (by exact B.room.mono (by decide)) (by exact B.gd) (by exact B.tk) (by rfl) (by exact T.g_law_draw) (by exact O_law_draw.kp) (by exact b_law_draw) (by exact .nil) (by exact fun _ _ => DenL.nil) (by exact xa_cons (by exact xe_var 0) (by exact xa_cons (by exact xe_int) xa_nil))) (by exact xa_cons (by exact xe_call (x := "_law_draw") (ps := ["_law_state", "_law_size"]) (gf := drawM) (dds := []) (by exact O_law_draw.fn) (by exact B.room.mono (by decide)) (by exact B.gd) (by exact B.tk) (by rfl) (by exact T.g_law_draw) (by exact O_law_draw.kp) (by exact b_law_draw) (by exact .nil) (by exact fun _ _ => DenL.nil) (by exact xa_cons (by exact xe_var 0) (by exact xa_cons (by exact xe_int) xa_nil))) xa_nil)))) (by intro found_1; exact (by exact xs_nil (a := found_1) (by exact ⟨_, rfl, ⟨.inr rfl, .inr rfl, .inr rfl, .inr rfl, .inl rfl, .inl rfl, trivial⟩⟩))))))))))) (by intro found_2; exact (by exact xs_freeze 3 (by rfl) (by exact xs_retB (by exact xe_var 3)))))))
theorem sc_is_word : FnScope ["thing"] ["thing"] (defScope s_is_word) := ⟨rfl, rfl, rfl, by decide +kernel, rfl, by decide +kernel, by decide +kernel⟩
abbrev FP_is_word (K : PySem.W.Frag) (fd : FuncData) : Prop := FunD K "is_word" "is_word" (defArgs s_is_word) (defBody s_is_word) (defScope s_is_word) ([]) [] (He.ga K "is_word") fd
theorem ok_is_word (T : TextF P w K mg) (TB : TabsB base mg K tfL) : ∃ fd, FP_is_word K fd ∧ Own P w K mg base 1 (He.ga K "is_word") fd ["thing"] (l1 f_is_word) := by
  obtain ⟨fd, F⟩ := T.says.d.def_ 10 (d := d_is_word) rfl
  have F : FP_is_word K fd := F
  refine ⟨fd, F, fnX_of (k := 0) (gf := (l1 f_is_word)) F sc_is_word (fun cdv A fr s H E B ds hl => ?_), F.kp⟩
  match ds, hl with | [thing], _ => exact (by exact xs_retB (by exact xe_and (by exact xe_isi (by exact T.cls) (.b "str") (by rfl) (by exact T.n_isinstance) (by exact xe_var 0) (by exact pe_ty "str" (by rfl) (by exact T.n_str) (by decide +kernel))) (by exact xe_one (by exact xe_inT (V := E) (x := "KINDS") (by exact T.t_KINDS) (by rfl) (by exact T.g_KINDS) (by exact xe_var 0)))))
theorem sc_is_list : FnScope ["thing"] ["thing"] (defScope s_is_list) := ⟨rfl, rfl, rfl, by decide +kernel, rfl, by decide +kernel, by decide +kernel⟩
abbrev FP_is_list (K : PySem.W.Frag) (fd : FuncData) : Prop := FunD K "is_list" "is_list" (defArgs s_is_list) (defBody s_is_list) (defScope s_is_list) ([]) [] (He.ga K "is_list") fd
theorem ok_is_list (T : TextF P w K mg) (TB : TabsB base mg K tfL) : ∃ fd, FP_is_list K fd ∧ Own P w K mg base 1 (He.ga K "is_list") fd ["thing"] (l1 f_is_list) := by
  obtain ⟨fd, F⟩ := T.says.d.def_ 11 (d := d_is_list) rfl
  have F : FP_is_list K fd := F
  refine ⟨fd, F, fnX_of (k := 0) (gf := (l1 f_is_list)) F sc_is_list (fun cdv A fr s H E B ds hl => ?_), F.kp⟩
  match ds, hl with | [thing], _ => exact (by exact xs_retB (by exact xe_isi2 (by exact T.cls) (.b "list") (.b "tuple") (by rfl) (by exact T.n_isinstance) (by exact xe_var 0) (by exact pe_ty "list" (by rfl) (by exact T.n_list) (by decide +kernel)) (by exact pe_ty "tuple" (by rfl) (by exact T.n_tuple) (by decide +kernel))))
theorem sc_are_words : FnScope ["thing", "word"] ["thing"] (defScope s_are_words) := ⟨rfl, rfl, rfl, by decide +kernel, rfl, by decide +kernel, by decide +kernel⟩
abbrev FP_are_words (K : PySem.W.Frag) (fd : FuncData) : Prop := FunD K "are_words" "are_words" (defArgs s_are_words) (defBody s_are_words) (defScope s_are_words) ([]) [] (He.ga K "are_words") fd
theorem ok_are_words (T : TextF P w K mg) (TB : TabsB base mg K tfL) : ∃ fd, FP_are_words K fd ∧ Own P w K mg base 2 (He.ga K "are_words") fd ["thing"] (l1 f_are_words) := by
  obtain ⟨fd, F⟩ := T.says.d.def_ 12 (d := d_are_words) rfl
  have F : FP_are_words K fd := F
  obtain ⟨fd_is_word, F_is_word, O_is_word⟩ := ok_is_word (P := P) (w := w) (base := base) T TB
  have b_is_word : Binds K fd_is_word ["thing"] [] := F_is_word.bindsN fun _ _ _ _ _ _ us hl => match us, hl with | [_], _ => rfl
  obtain ⟨fd_is_list, F_is_list, O_is_list⟩ := ok_is_list (P := P) (w := w) (base := base) T TB
  have b_is_list : Binds K fd_is_list ["thing"] [] := F_is_list.bindsN fun _ _ _ _ _ _ us hl => match us, hl with | [_], _ => rfl
  refine ⟨fd, F, fnX_of (k := 1) (gf := (l1 f_are_words)) F sc_are_words (fun cdv A fr s H E B ds hl => ?_), F.kp⟩
  match ds, hl with | [thing], _ => exact (by exact xs_retB (by exact xe_and (by exact xe_call (x := "is_list") (ps := ["thing"]) (gf := (l1 f_is_list)) (dds := []) (by exact O_is_list.fn) (by exact B.room.mono (by decide)) (by exact B.gd) (by exact B.tk) (by rfl) (by exact T.g_is_list) (by exact O_is_list.kp) (by exact b_is_list) (by exact .nil) (by exact fun _ _ => DenL.nil) (by exact xa_cons (by exact xe_var 0) xa_nil)) (by exact xe_and (by exact xe_all (by exact B.calm) (by rfl) (by exact T.n_all) (by exact xa_cons (by exact XF.xe (by exact xf_lc (T := (.nm 1)) (by exact B.calm) (by exact sc_are_words.nd) (by exact xi_any (by exact xe_var 0)) (blkOk_by (own := [("word", 1)]) (by first | decide +kernel | kernel_rfl)) (by intro _ _ _ _ _; exact (by exact pg_name (by exact sc_are_words.nd) (by rfl) (by first | exact .inl rfl | exact .inr rfl))) (by exact none1 (by rfl)) (by intro _ _ _ _ _; exact tgt1 (by intro word; exact xts_yes)) (by intro _ _ _ _ _; exact tgt1 (by intro word; exact (by exact xe_call (x := "is_word") (ps := ["thing"]) (gf := (l1 f_is_word)) (dds := []) (by exact O_is_word.fn) (by exact B.room.mono (by decide)) (by exact B.gd) (by exact takes0) (by rfl) (by exact T.g_is_word) (by exact O_is_word.kp) (by exact b_is_word) (by exact .nil) (by exact fun _ _ => DenL.nil) (by exact xa_cons (by exact xe_var 1) xa_nil)))) (by decide))) xa_nil)) (by exact xe_one (by exact xe_eq (by exact B.room.units) (by exact xe_lenSet (by exact B.calm) (by rfl) (by exact T.n_len) (by rfl) (by exact T.n_set) (by exact xe_var 0)) (by exact xe_len (by rfl) (by exact T.n_len) (by exact xa_cons (by exact xe_var 0) xa_nil)))))))
theorem sc_live_of : FnScope ["words", "found", "used", "word"] ["words"] (defScope s_live_of) := ⟨rfl, rfl, rfl, by decide +kernel, rfl, by decide +kernel, by decide +kernel⟩
abbrev FP_live_of (K : PySem.W.Frag) (fd : FuncData) : Prop := FunD K "live_of" "live_of" (defArgs s_live_of) (defBody s_live_of) (defScope s_live_of) ([]) [] (He.ga K "live_of") fd
theorem ok_live_of (T : TextF P w K mg) (TB : TabsB base mg K tfL) : ∃ fd, FP_live_of K fd ∧ Own P w K mg base 1 (He.ga K "live_of") fd ["words"] (l1 f_live_of) := by
  obtain ⟨fd, F⟩ := T.says.d.def_ 13 (d := d_live_of) rfl
  have F : FP_live_of K fd := F
  refine ⟨fd, F, fnX_of (k := 0) (gf := (l1 f_live_of)) F sc_live_of (fun cdv A fr s H E B ds hl => ?_), F.kp⟩
  match ds, hl with | [words], _ => exact (by exact xs_par_oo 1 2 (by exact B.calm) (by exact sc_live_of.nd) (by rfl) (by rfl) (by decide) (by rfl) (by rfl) (by exact xf_lst xa_nil) (by exact xf_lst xa_nil) (by intro found used; exact (by exact xs_then (e := (fun yy : (List D) × (List D) => ([some (.val words), some (.own yy.1), some (.own yy.2), none] : DSt))) (by exact xs_forN (T := (.nm 3)) (f := f_live_of_b1) (fun yy : (List D) × (List D) => ([some (.val words), some (.own yy.1), some (.own yy.2), none] : DSt)) (found, used) (by exact B.po) (by exact B.calm) (by exact xi_any (by exact xe_var 0)) (by exact pg_name (by exact sc_live_of.nd) (by rfl) (by first | exact .inl rfl | exact .inr rfl)) (by exact ⟨.inr rfl, .inr rfl, .inr rfl, .inl rfl, trivial⟩) (by intro y; exact none1 (by rfl)) (by intro y; exact tgt1 (by intro word; exact (by exact xs_last (by exact xs_if (by exact XW.xt (by exact xw_and (by exact xt_lent 2 (by rfl) (by exact xt_notin (by exact xe_ixT (V := E) (x := "KINDS") (by exact T.t_KINDS) (by rfl) (by exact T.g_KINDS) (by exact xe_var 3) (by exact fun _ _ => rfl)) (by exact xe_var 2))) (by exact xw_and1 (by exact xt_lent 2 (by rfl) (by exact xt_notin (by exact xe_str) (by exact xe_var 2)))))) (by exact xs_append 1 (by rfl) (by rfl) (by exact xe_var 3) (by intro found_1; exact (by exact xs_append 2 (by rfl) (by rfl) (by exact xe_ixT (V := E) (x := "KINDS") (by exact T.t_KINDS) (by rfl) (by exact T.g_KINDS) (by exact xe_var 3) (by exact fun _ _ => rfl)) (by intro used_1; exact (by exact xs_nil (a := (found_1, used_1)) (by exact ⟨_, rfl, ⟨.inr rfl, .inr rfl, .inr rfl, .inl rfl, trivial⟩⟩)))))) (by exact xs_nil (a := (y.1, y.2)) (by exact ⟨_, rfl, ⟨.inr rfl, .inr rfl, .inr rfl, .inl rfl, trivial⟩⟩))))))) (by intro y_1; exact (by exact xs_freeze 1 (by rfl) (by exact xs_retB (by exact xe_tuple_ (by rfl) (by exact T.n_tuple) (by exact xa_cons (by exact xe_var 1) xa_nil))))))))
theorem sc_Rule_init : FnScope ["self", "words"] ["self", "words"] (defScope s_Rule_init) := ⟨rfl, rfl, rfl, by decide +kernel, rfl, by decide +kernel, by decide +kernel⟩
abbrev FP_Rule_init (K : PySem.W.Frag) (fd : FuncData) : Prop := FunD K "__init__" "Rule.__init__" (defArgs s_Rule_init) (defBody s_Rule_init) (defScope s_Rule_init) (d_Rule_init.dvs K) [] (He.ma K (He.ga K "Rule") "__init__") fd
theorem ok_Rule_init (T : TextF P w K mg) (TB : TabsB base mg K tfL) : ∃ fd, FP_Rule_init K fd ∧ OwnI P w K mg base 3 "Rule" (He.ma K (He.ga K "Rule") "__init__") fd ["self", "words"] (l1 f_Rule_init) := by
  obtain ⟨fd, F⟩ := T.says.d.def_ 14 (d := d_Rule_init) rfl
  have F : FP_Rule_init K fd := F
  obtain ⟨fd_are_words, F_are_words, O_are_words⟩ := ok_are_words (P := P) (w := w) (base := base) T TB
  have b_are_words : Binds K fd_are_words ["thing"] [] := F_are_words.bindsN fun _ _ _ _ _ _ us hl => match us, hl with | [_], _ => rfl
  obtain ⟨fd_live_of, F_live_of, O_live_of⟩ := ok_live_of (P := P) (w := w) (base := base) T TB
  have b_live_of : Binds K fd_live_of ["words"] [] := F_live_of.bindsN fun _ _ _ _ _ _ us hl => match us, hl with | [_], _ => rfl
  refine ⟨fd, F, fnI_of (k := 2) (gf := (l1 f_Rule_init)) (by decide) F sc_Rule_init (fun cdv A fr s H E B a0 ds hl => ?_), mk1 (fun _ => rfl)⟩
  match ds, hl with | [words], _ => exact (show XS _ _ _ _ _ (f_Rule_init words) from XS.only (by exact xs_if1 (by exact xt_not (by exact xt_val (by exact xe_call (x := "are_words") (ps := ["thing"]) (gf := (l1 f_are_words)) (dds := []) (by exact O_are_words.fn) (by exact B.room.mono (by decide)) (by exact B.gd) (by exact B.tk) (by rfl) (by exact T.g_are_words) (by exact O_are_words.kp) (by exact b_are_words) (by exact .nil) (by exact fun _ _ => DenL.nil) (by exact xa_cons (by exact xe_var 1) xa_nil)))) (by exact xs_stuck) (by exact xs_fldS 0 (by exact T.fld) (by rfl) (by rfl) (by exact xe_tuple_ (by rfl) (by exact T.n_tuple) (by exact xa_cons (by exact xe_var 1) xa_nil)) (by intro rule_words; exact (by exact xs_fldS 0 (by exact T.fld) (by rfl) (by rfl) (by exact xe_call (x := "live_of") (ps := ["words"]) (gf := (l1 f_live_of)) (dds := []) (by exact O_live_of.fn) (by exact B.room.mono (by decide)) (by exact B.gd) (by exact B.tk) (by rfl) (by exact T.g_live_of) (by exact O_live_of.kp) (by exact b_live_of) (by exact .nil) (by exact fun _ _ => DenL.nil) (by exact xa_cons (by exact xe_var 1) xa_nil)) (by intro rule_live; exact (by exact xs_made (by rfl))))))))
theorem sc_Book_init : FnScope ["self", "rows", "at", "row"] ["self", "rows"] (defScope s_Book_init) := ⟨rfl, rfl, rfl, by decide +kernel, rfl, by decide +kernel, by decide +kernel⟩
abbrev FP_Book_init (K : PySem.W.Frag) (fd : FuncData) : Prop := FunD K "__init__" "Book.__init__" (defArgs s_Book_init) (defBody s_Book_init) (defScope s_Book_init) (d_Book_init.dvs K) [] (He.ma K (He.ga K "Book") "__init__") fd
theorem ok_Book_init (T : TextF P w K mg) (TB : TabsB base mg K tfL) : ∃ fd, FP_Book_init K fd ∧ OwnI P w K mg base 2 "Book" (He.ma K (He.ga K "Book") "__init__") fd ["self", "rows"] (l1 f_Book_init) := by
  obtain ⟨fd, F⟩ := T.says.d.def_ 15 (d := d_Book_init) rfl
  have F : FP_Book_init K fd := F
  obtain ⟨fd_is_list, F_is_list, O_is_list⟩ := ok_is_list (P := P) (w := w) (base := base) T TB
  have b_is_list : Binds K fd_is_list ["thing"] [] := F_is_list.bindsN fun _ _ _ _ _ _ us hl => match us, hl with | [_], _ => rfl
  obtain ⟨t_MOST, v_MOST⟩ := T.v_MOST
  refine ⟨fd, F, fnI_of (k := 1) (gf := (l1 f_Book_init)) (by decide) F sc_Book_init (fun cdv A fr s H E B a0 ds hl => ?_), mk1 (fun _ => rfl)⟩
  match ds, hl with | [rows], _ => exact (show XS _ _ _ _ _ (f_Book_init rows) from XS.only (by exact xs_if1 (by exact xt_not (by exact xt_val (by exact xe_call (x := "is_list") (ps := ["thing"]) (gf := (l1 f_is_list)) (dds := []) (by exact O_is_list.fn) (by exact B.room.mono (by decide)) (by exact B.gd) (by exact B.tk) (by rfl) (by exact T.g_is_list) (by exact O_is_list.kp) (by exact b_is_list) (by exact .nil) (by exact fun _ _ => DenL.nil) (by exact xa_cons (by exact xe_var 1) xa_nil)))) (by exact xs_stuck) (by exact xs_then (e := (fun yy : Unit => ([some (.slf a0 "Book" [] []), some (.val rows), none, none] : DSt))) (by exact xs_forN (T := (.tp [2, 3])) (f := f_Book_init_b1) (fun yy : Unit => ([some (.slf a0 "Book" [] []), some (.val rows), none, none] : DSt)) () (by exact B.po) (by exact B.calm) (by exact xi_enum (by rfl) (by exact T.n_enumerate) (by exact xe_var 1)) (by exact pg_tup (by exact B.calm) (by exact pgs_cons (by exact pg_name (by exact sc_Book_init.nd) (by rfl) (by first | exact .inl rfl | exact .inr rfl)) (by exact pgs_cons (by exact pg_name (by exact sc_Book_init.nd) (by rfl) (by first | exact .inl rfl | exact .inr rfl)) pgs_nil))) (by exact ⟨.inr rfl, .inr rfl, .inl rfl, .inl rfl, trivial⟩) (by intro y; exact none2 (by rfl)) (by intro y; exact tgt2 (by intro at_ row; exact (by exact xs_last (by exact xs_if (by exact xt_not (by exact xt_val (by exact xe_isi (by exact T.cls) (.o "Row") (by rfl) (by exact T.n_isinstance) (by exact xe_var 3) (by exact pe_own "Row" (by rfl) (by exact T.g_Row))))) (by exact xs_stuck) (by exact xs_nil (a := ()) (by exact ⟨_, rfl, ⟨.inr rfl, .inr rfl, .inl rfl, .inl rfl, trivial⟩⟩))))))) (by intro y_1; exact (by exact xs_if1 (by exact xt_gt (by exact xe_len (by rfl) (by exact T.n_len) (by exact xa_cons (by exact xe_var 1) xa_nil)) (by exact xe_glob (v := (.int 6)) (.int 6) (by rfl) (by exact v_MOST) (by exact ⟨_, rfl⟩) (by exact fun _ _ => rfl))) (by exact xs_stuck) (by exact xs_fldS 0 (by exact T.fld) (by rfl) (by rfl) (by exact xe_tuple_ (by rfl) (by exact T.n_tuple) (by exact xa_cons (by exact xe_var 1) xa_nil)) (by intro book_rows; exact (by exact xs_made (by rfl)))))))))
theorem sc_is_number : FnScope ["thing"] ["thing"] (defScope s_is_number) := ⟨rfl, rfl, rfl, by decide +kernel, rfl, by decide +kernel, by decide +kernel⟩
abbrev FP_is_number (K : PySem.W.Frag) (fd : FuncData) : Prop := FunD K "is_number" "is_number" (defArgs s_is_number) (defBody s_is_number) (defScope s_is_number) ([]) [] (He.ga K "is_number") fd
theorem ok_is_number (T : TextF P w K mg) (TB : TabsB base mg K tfL) : ∃ fd, FP_is_number K fd ∧ Own P w K mg base 1 (He.ga K "is_number") fd ["thing"] (l1 f_is_number) := by
  obtain ⟨fd, F⟩ := T.says.d.def_ 16 (d := d_is_number) rfl
  have F : FP_is_number K fd := F
  refine ⟨fd, F, fnX_of (k := 0) (gf := (l1 f_is_number)) F sc_is_number (fun cdv A fr s H E B ds hl => ?_), F.kp⟩
  match ds, hl with | [thing], _ => exact (by exact xs_retB (by exact xe_and (by exact xe_isi (by exact T.cls) (.b "int") (by rfl) (by exact T.n_isinstance) (by exact xe_var 0) (by exact pe_ty "int" (by rfl) (by exact T.n_int) (by decide +kernel))) (by exact xe_one (by exact xe_not (by exact xe_isi (by exact T.cls) (.b "bool") (by rfl) (by exact T.n_isinstance) (by exact xe_var 0) (by exact pe_ty "bool" (by rfl) (by exact T.n_bool) (by decide +kernel)))))))
theorem sc_is_day : FnScope ["thing"] ["thing"] (defScope s_is_day) := ⟨rfl, rfl, rfl, by decide +kernel, rfl, by decide +kernel, by decide +kernel⟩
abbrev FP_is_day (K : PySem.W.Frag) (fd : FuncData) : Prop := FunD K "is_day" "is_day" (defArgs s_is_day) (defBody s_is_day) (defScope s_is_day) ([]) [] (He.ga K "is_day") fd
theorem ok_is_day (T : TextF P w K mg) (TB : TabsB base mg K tfL) : ∃ fd, FP_is_day K fd ∧ Own P w K mg base 2 (He.ga K "is_day") fd ["thing"] (l1 f_is_day) := by
  obtain ⟨fd, F⟩ := T.says.d.def_ 17 (d := d_is_day) rfl
  have F : FP_is_day K fd := F
  obtain ⟨fd_is_number, F_is_number, O_is_number⟩ := ok_is_number (P := P) (w := w) (base := base) T TB
  have b_is_number : Binds K fd_is_number ["thing"] [] := F_is_number.bindsN fun _ _ _ _ _ _ us hl => match us, hl with | [_], _ => rfl
  refine ⟨fd, F, fnX_of (k := 1) (gf := (l1 f_is_day)) F sc_is_day (fun cdv A fr s H E B ds hl => ?_), F.kp⟩
  match ds, hl with | [thing], _ => exact (by exact xs_retB (by exact xe_and (by exact xe_call (x := "is_number") (ps := ["thing"]) (gf := (l1 f_is_number)) (dds := []) (by exact O_is_number.fn) (by exact B.room.mono (by decide)) (by exact B.gd) (by exact B.tk) (by rfl) (by exact T.g_is_number) (by exact O_is_number.kp) (by exact b_is_number) (by exact .nil) (by exact fun _ _ => DenL.nil) (by exact xa_cons (by exact xe_var 0) xa_nil)) (by exact xe_one (by exact xe_ge (by exact xe_var 0) (by exact xe_int)))))
theorem sc_Row_init : FnScope ["self", "box", "price", "rank"] ["self", "box", "price", "rank"] (defScope s_Row_init) := ⟨rfl, rfl, rfl, by decide +kernel, rfl, by decide +kernel, by decide +kernel⟩
abbrev FP_Row_init (K : PySem.W.Frag) (fd : FuncData) : Prop := FunD K "__init__" "Row.__init__" (defArgs s_Row_init) (defBody s_Row_init) (defScope s_Row_init) (d_Row_init.dvs K) [] (He.ma K (He.ga K "Row") "__init__") fd
theorem ok_Row_init (T : TextF P w K mg) (TB : TabsB base mg K tfL) : ∃ fd, FP_Row_init K fd ∧ OwnI P w K mg base 3 "Row" (He.ma K (He.ga K "Row") "__init__") fd ["self", "box", "price", "rank"] (l3 f_Row_init) := by
  obtain ⟨fd, F⟩ := T.says.d.def_ 18 (d := d_Row_init) rfl
  have F : FP_Row_init K fd := F
  obtain ⟨fd_is_day, F_is_day, O_is_day⟩ := ok_is_day (P := P) (w := w) (base := base) T TB
  have b_is_day : Binds K fd_is_day ["thing"] [] := F_is_day.bindsN fun _ _ _ _ _ _ us hl => match us, hl with | [_], _ => rfl
  obtain ⟨fd_is_number, F_is_number, O_is_number⟩ := ok_is_number (P := P) (w := w) (base := base) T TB
  have b_is_number : Binds K fd_is_number ["thing"] [] := F_is_number.bindsN fun _ _ _ _ _ _ us hl => match us, hl with | [_], _ => rfl
  refine ⟨fd, F, fnI_of (k := 2) (gf := (l3 f_Row_init)) (by decide) F sc_Row_init (fun cdv A fr s H E B a0 ds hl => ?_), mk3 (fun _ _ _ => rfl)⟩
  match ds, hl with | [box, price, rank], _ => exact (show XS _ _ _ _ _ (f_Row_init box price rank) from XS.only (by exact xs_if1 (by exact xt_not (by exact xt_val (by exact xe_isi (by exact T.cls) (.o "Box") (by rfl) (by exact T.n_isinstance) (by exact xe_var 1) (by exact pe_own "Box" (by rfl) (by exact T.g_Box))))) (by exact xs_stuck) (by exact xs_if1 (by exact xt_not (by exact xt_val (by exact xe_call (x := "is_day") (ps := ["thing"]) (gf := (l1 f_is_day)) (dds := []) (by exact O_is_day.fn) (by exact B.room.mono (by decide)) (by exact B.gd) (by exact B.tk) (by rfl) (by exact T.g_is_day) (by exact O_is_day.kp) (by exact b_is_day) (by exact .nil) (by exact fun _ _ => DenL.nil) (by exact xa_cons (by exact xe_var 2) xa_nil)))) (by exact xs_stuck) (by exact xs_if1 (by exact XW.xt (by exact xw_or (by exact xt_not (by exact xt_val (by exact xe_call (x := "is_number") (ps := ["thing"]) (gf := (l1 f_is_number)) (dds := []) (by exact O_is_number.fn) (by exact B.room.mono (by decide)) (by exact B.gd) (by exact B.tk) (by rfl) (by exact T.g_is_number) (by exact O_is_number.kp) (by exact b_is_number) (by exact .nil) (by exact fun _ _ => DenL.nil) (by exact xa_cons (by exact xe_var 3) xa_nil)))) (by exact xw_or (by exact xt_lt (by exact xe_var 3) (by exact xe_int)) (by exact xw_or1 (by exact xt_gt (by exact xe_var 3) (by exact xe_int)))))) (by exact xs_stuck) (by exact xs_fldS 0 (by exact T.fld) (by rfl) (by rfl) (by exact xe_var 1) (by intro row_box; exact (by exact xs_fldS 0 (by exact T.fld) (by rfl) (by rfl) (by exact xe_var 2) (by intro row_price; exact (by exact xs_fldS 0 (by exact T.fld) (by rfl) (by rfl) (by exact xe_var 3) (by intro row_rank; exact (by exact xs_made (by rfl))))))))))))
theorem sc_is_name : FnScope ["thing", "sign"] ["thing"] (defScope s_is_name) := ⟨rfl, rfl, rfl, by decide +kernel, rfl, by decide +kernel, by decide +kernel⟩
abbrev FP_is_name (K : PySem.W.Frag) (fd : FuncData) : Prop := FunD K "is_name" "is_name" (defArgs s_is_name) (defBody s_is_name) (defScope s_is_name) ([]) [] (He.ga K "is_name") fd
theorem ok_is_name (T : TextF P w K mg) (TB : TabsB base mg K tfL) : ∃ fd, FP_is_name K fd ∧ Own P w K mg base 1 (He.ga K "is_name") fd ["thing"] (l1 f_is_name) := by
  obtain ⟨fd, F⟩ := T.says.d.def_ 19 (d := d_is_name) rfl
  have F : FP_is_name K fd := F
  obtain ⟨t_LETTERS, v_LETTERS⟩ := T.v_LETTERS
  refine ⟨fd, F, fnX_of (k := 0) (gf := (l1 f_is_name)) F sc_is_name (fun cdv A fr s H E B ds hl => ?_), F.kp⟩
  match ds, hl with | [thing], _ => exact (by exact xs_if1 (by exact XW.xt (by exact xw_or (by exact xt_not (by exact xt_val (by exact xe_isi (by exact T.cls) (.b "str") (by rfl) (by exact T.n_isinstance) (by exact xe_var 0) (by exact pe_ty "str" (by rfl) (by exact T.n_str) (by decide +kernel))))) (by exact xw_or (by exact xt_lt (by exact xe_len (by rfl) (by exact T.n_len) (by exact xa_cons (by exact xe_var 0) xa_nil)) (by exact xe_int)) (by exact xw_or1 (by exact xt_gt (by exact xe_len (by rfl) (by exact T.n_len) (by exact xa_cons (by exact xe_var 0) xa_nil)) (by exact xe_int)))))) (by exact xs_retR (by exact xe_bl)) (by exact xs_retB (by exact xe_all (by exact B.calm) (by rfl) (by exact T.n_all) (by exact xa_cons (by exact XF.xe (by exact xf_lc (T := (.nm 1)) (by exact B.calm) (by exact sc_is_name.nd) (by exact xi_any (by exact xe_var 0)) (blkOk_by (own := [("sign", 1)]) (by first | decide +kernel | kernel_rfl)) (by intro _ _ _ _ _; exact (by exact pg_name (by exact sc_is_name.nd) (by rfl) (by first | exact .inl rfl | exact .inr rfl))) (by exact none1 (by rfl)) (by intro _ _ _ _ _; exact tgt1 (by intro sign; exact xts_yes)) (by intro _ _ _ _ _; exact tgt1 (by intro sign; exact (by exact xe_in (by exact xe_var 1) (by exact xe_glob (v := (.str "abcdefghijklmnopqrstuvwxyz")) (.str "abcdefghijklmnopqrstuvwxyz") (by rfl) (by exact v_LETTERS) (by exact ⟨_, rfl⟩) (by exact fun _ _ => rfl))))) (by decide))) xa_nil))))
theorem sc_is_stretch : FnScope ["thing"] ["thing"] (defScope s_is_stretch) := ⟨rfl, rfl, rfl, by decide +kernel, rfl, by decide +kernel, by decide +kernel⟩
abbrev FP_is_stretch (K : PySem.W.Frag) (fd : FuncData) : Prop := FunD K "is_stretch" "is_stretch" (defArgs s_is_stretch) (defBody s_is_stretch) (defScope s_is_stretch) ([]) [] (He.ga K "is_stretch") fd
theorem ok_is_stretch (T : TextF P w K mg) (TB : TabsB base mg K tfL) : ∃ fd, FP_is_stretch K fd ∧ Own P w K mg base 3 (He.ga K "is_stretch") fd ["thing"] (l1 f_is_stretch) := by
  obtain ⟨fd, F⟩ := T.says.d.def_ 20 (d := d_is_stretch) rfl
  have F : FP_is_stretch K fd := F
  obtain ⟨fd_is_day, F_is_day, O_is_day⟩ := ok_is_day (P := P) (w := w) (base := base) T TB
  have b_is_day : Binds K fd_is_day ["thing"] [] := F_is_day.bindsN fun _ _ _ _ _ _ us hl => match us, hl with | [_], _ => rfl
  obtain ⟨fd_is_number, F_is_number, O_is_number⟩ := ok_is_number (P := P) (w := w) (base := base) T TB
  have b_is_number : Binds K fd_is_number ["thing"] [] := F_is_number.bindsN fun _ _ _ _ _ _ us hl => match us, hl with | [_], _ => rfl
  refine ⟨fd, F, fnX_of (k := 2) (gf := (l1 f_is_stretch)) F sc_is_stretch (fun cdv A fr s H E B ds hl => ?_), F.kp⟩
  match ds, hl with | [thing], _ => exact (by exact xs_if1 (by exact XW.xt (by exact xw_or (by exact xt_not (by exact xt_val (by exact xe_isi (by exact T.cls) (.b "tuple") (by rfl) (by exact T.n_isinstance) (by exact xe_var 0) (by exact pe_ty "tuple" (by rfl) (by exact T.n_tuple) (by decide +kernel))))) (by exact xw_or (by exact xt_ne (by exact B.room.units) (by exact xe_len (by rfl) (by exact T.n_len) (by exact xa_cons (by exact xe_var 0) xa_nil)) (by exact xe_int)) (by exact xw_or1 (by exact xt_not (by exact xt_val (by exact xe_call (x := "is_day") (ps := ["thing"]) (gf := (l1 f_is_day)) (dds := []) (by exact O_is_day.fn) (by exact B.room.mono (by decide)) (by exact B.gd) (by exact B.tk) (by rfl) (by exact T.g_is_day) (by exact O_is_day.kp) (by exact b_is_day) (by exact .nil) (by exact fun _ _ => DenL.nil) (by exact xa_cons (by exact xe_idx (by exact xe_var 0) (by exact xe_int) (by exact fun _ _ => rfl)) xa_nil)))))))) (by exact xs_retR (by exact xe_bl)) (by exact xs_retB (by exact xe_or (by exact xe_is (by exact xe_idx (by exact xe_var 0) (by exact xe_int) (by exact fun _ _ => rfl)) (by exact xe_non)) (by exact xe_one (by exact xe_and (by exact xe_call (x := "is_number") (ps := ["thing"]) (gf := (l1 f_is_number)) (dds := []) (by exact O_is_number.fn) (by exact B.room.mono (by decide)) (by exact B.gd) (by exact B.tk) (by rfl) (by exact T.g_is_number) (by exact O_is_number.kp) (by exact b_is_number) (by exact .nil) (by exact fun _ _ => DenL.nil) (by exact xa_cons (by exact xe_idx (by exact xe_var 0) (by exact xe_int) (by exact fun _ _ => rfl)) xa_nil)) (by exact xe_one (by exact xe_ge (by exact xe_idx (by exact xe_var 0) (by exact xe_int) (by exact fun _ _ => rfl)) (by exact xe_idx (by exact xe_var 0) (by exact xe_int) (by exact fun _ _ => rfl)))))))))
theorem sc_Box_init : FnScope ["self", "who", "what", "days", "amounts"] ["self", "who", "what", "days", "amounts"] (defScope s_Box_init) := ⟨rfl, rfl, rfl, by decide +kernel, rfl, by decide +kernel, by decide +kernel⟩
abbrev FP_Box_init (K : PySem.W.Frag) (fd : FuncData) : Prop := FunD K "__init__" "Box.__init__" (defArgs s_Box_init) (defBody s_Box_init) (defScope s_Box_init) (d_Box_init.dvs K) [] (He.ma K (He.ga K "Box") "__init__") fd
theorem ok_Box_init (T : TextF P w K mg) (TB : TabsB base mg K tfL) : ∃ fd, FP_Box_init K fd ∧ OwnI P w K mg base 4 "Box" (He.ma K (He.ga K "Box") "__init__") fd ["self", "who", "what", "days", "amounts"] (l4 f_Box_init) := by
  obtain ⟨fd, F⟩ := T.says.d.def_ 21 (d := d_Box_init) rfl
  have F : FP_Box_init K fd := F
  obtain ⟨fd_is_name, F_is_name, O_is_name⟩ := ok_is_name (P := P) (w := w) (base := base) T TB
  have b_is_name : Binds K fd_is_name ["thing"] [] := F_is_name.bindsN fun _ _ _ _ _ _ us hl => match us, hl with | [_], _ => rfl
  obtain ⟨fd_is_stretch, F_is_stretch, O_is_stretch⟩ := ok_is_stretch (P := P) (w := w) (base := base) T TB
  have b_is_stretch : Binds K fd_is_stretch ["thing"] [] := F_is_stretch.bindsN fun _ _ _ _ _ _ us hl => match us, hl with | [_], _ => rfl
  refine ⟨fd, F, fnI_of (k := 3) (gf := (l4 f_Box_init)) (by decide) F sc_Box_init (fun cdv A fr s H E B a0 ds hl => ?_), mk4 (fun _ _ _ _ => rfl)⟩
  match ds, hl with | [who, what, days, amounts], _ => exact (show XS _ _ _ _ _ (f_Box_init who what days amounts) from XS.only (by exact xs_if1 (by exact XW.xt (by exact xw_and (by exact xt_isnot (by exact xe_var 1) (by exact xe_non)) (by exact xw_and1 (by exact xt_not (by exact xt_val (by exact xe_call (x := "is_name") (ps := ["thing"]) (gf := (l1 f_is_name)) (dds := []) (by exact O_is_name.fn) (by exact B.room.mono (by decide)) (by exact B.gd) (by exact B.tk) (by rfl) (by exact T.g_is_name) (by exact O_is_name.kp) (by exact b_is_name) (by exact .nil) (by exact fun _ _ => DenL.nil) (by exact xa_cons (by exact xe_var 1) xa_nil))))))) (by exact xs_stuck) (by exact xs_if1 (by exact XW.xt (by exact xw_and (by exact xt_isnot (by exact xe_var 2) (by exact xe_non)) (by exact xw_and1 (by exact xt_not (by exact xt_val (by exact xe_call (x := "is_name") (ps := ["thing"]) (gf := (l1 f_is_name)) (dds := []) (by exact O_is_name.fn) (by exact B.room.mono (by decide)) (by exact B.gd) (by exact B.tk) (by rfl) (by exact T.g_is_name) (by exact O_is_name.kp) (by exact b_is_name) (by exact .nil) (by exact fun _ _ => DenL.nil) (by exact xa_cons (by exact xe_var 2) xa_nil))))))) (by exact xs_stuck) (by exact xs_if1 (by exact xt_not (by exact xt_val (by exact xe_call (x := "is_stretch") (ps := ["thing"]) (gf := (l1 f_is_stretch)) (dds := []) (by exact O_is_stretch.fn) (by exact B.room.mono (by decide)) (by exact B.gd) (by exact B.tk) (by rfl) (by exact T.g_is_stretch) (by exact O_is_stretch.kp) (by exact b_is_stretch) (by exact .nil) (by exact fun _ _ => DenL.nil) (by exact xa_cons (by exact xe_var 3) xa_nil)))) (by exact xs_stuck) (by exact xs_if1 (by exact xt_not (by exact xt_val (by exact xe_call (x := "is_stretch") (ps := ["thing"]) (gf := (l1 f_is_stretch)) (dds := []) (by exact O_is_stretch.fn) (by exact B.room.mono (by decide)) (by exact B.gd) (by exact B.tk) (by rfl) (by exact T.g_is_stretch) (by exact O_is_stretch.kp) (by exact b_is_stretch) (by exact .nil) (by exact fun _ _ => DenL.nil) (by exact xa_cons (by exact xe_var 4) xa_nil)))) (by exact xs_stuck) (by exact xs_fldS 0 (by exact T.fld) (by rfl) (by rfl) (by exact xe_var 1) (by intro box_who; exact (by exact xs_fldS 0 (by exact T.fld) (by rfl) (by rfl) (by exact xe_var 2) (by intro box_what; exact (by exact xs_fldS 0 (by exact T.fld) (by rfl) (by rfl) (by exact xe_var 3) (by intro box_days; exact (by exact XS.cast (g' := [some (.slf a0 "Box" ["box_who", "box_what", "box_days"] [box_who, box_what, box_days]), some (.val who), some (.val what), some (.val days), some (.val amounts)]) (by rfl) (by exact xs_fldS 0 (by exact T.fld) (by rfl) (by rfl) (by exact xe_var 4) (by intro box_amounts; exact (by exact xs_made (by rfl))))))))))))))))
theorem sc_law_row : FnScope ["_law_card", "_law_frame_here"] ["_law_card"] (defScope s_law_row) := ⟨rfl, rfl, rfl, by decide +kernel, rfl, by decide +kernel, by decide +kernel⟩
abbrev FP_law_row (K : PySem.W.Frag) (fd : FuncData) : Prop := FunD K "_law_row" "_law_row" (defArgs s_law_row) (defBody s_law_row) (defScope s_law_row) ([]) [] (He.ga K "_law_row") fd
theorem ok_law_row (T : TextF P w K mg) (TB : TabsB base mg K tfL) : ∃ fd, FP_law_row K fd ∧ Own P w K mg base 6 (He.ga K "_law_row") fd ["_law_card"] (l1 f_law_row) := by
  obtain ⟨fd, F⟩ := T.says.d.def_ 22 (d := d_law_row) rfl
  have F : FP_law_row K fd := F
  obtain ⟨fd_Row_init, F_Row_init, O_Row_init⟩ := ok_Row_init (P := P) (w := w) (base := base) T TB
  obtain ⟨fd_Box_init, F_Box_init, O_Box_init⟩ := ok_Box_init (P := P) (w := w) (base := base) T TB
  obtain ⟨ds_Box_5, mv_Box_5, mb_Box_5⟩ := F_Box_init.binds1 (ps := ["self", "who", "what", "days", "amounts"]) 5 4 (by intro h; cases h) rfl fun _ _ _ _ _ _ _ us its h1 h2 => match us, h1, its, h2 with | [_, _, _, _, _], _, [_, _, _, _], _ => ⟨_, rfl, rfl⟩
  have md_Box_5 : ∀ q G, DenL K q G [] ((d_Box_init.dvs K).drop 4) := fun q G => DenL.nil
  obtain ⟨ds_Row_4, mv_Row_4, mb_Row_4⟩ := F_Row_init.binds1 (ps := ["self", "box", "price", "rank"]) 4 1 (by intro h; cases h) rfl fun _ _ _ _ _ _ _ us its h1 h2 => match us, h1, its, h2 with | [_, _, _, _], _, [_], _ => ⟨_, rfl, rfl⟩
  have md_Row_4 : ∀ q G, DenL K q G [] ((d_Row_init.dvs K).drop 1) := fun q G => DenL.nil
  refine ⟨fd, F, fnX_of (k := 5) (gf := (l1 f_law_row)) F sc_law_row (fun cdv A fr s H E B ds hl => ?_), F.kp⟩
  match ds, hl with | [card], _ => exact (by exact xs_set 1 (by exact sc_law_row.nd) (by rfl) (by first | exact .inl rfl | exact .inr rfl) (by exact xe_idx (by exact xe_var 0) (by exact xe_int) (by exact fun _ _ => rfl)) (by intro frame_here; exact (by exact xs_retB (by exact xe_make "Row" (ps := ["self", "box", "price", "rank"]) (gf := (l3 f_Row_init)) (dds := []) (by exact T.mk_Row) (by exact O_Row_init.fn) (by exact O_Row_init.mkc) (by exact B.room.mono (by decide)) (by exact B.gd) (by exact B.tk) (by rfl) (by exact T.g_Row) (by exact mb_Row_4) (by exact mv_Row_4) (by exact md_Row_4) (by exact xa_cons (by exact xe_make "Box" (ps := ["self", "who", "what", "days", "amounts"]) (gf := (l4 f_Box_init)) (dds := []) (by exact T.mk_Box) (by exact O_Box_init.fn) (by exact O_Box_init.mkc) (by exact B.room.mono (by decide)) (by exact B.gd) (by exact B.tk) (by rfl) (by exact T.g_Box) (by exact mb_Box_5) (by exact mv_Box_5) (by exact md_Box_5) (by exact xa_cons (by exact xe_idx (by exact xe_var 1) (by exact xe_int) (by exact fun _ _ => rfl)) (by exact xa_cons (by exact xe_idx (by exact xe_var 1) (by exact xe_int) (by exact fun _ _ => rfl)) (by exact xa_cons (by exact xe_idx (by exact xe_var 1) (by exact xe_int) (by exact fun _ _ => rfl)) (by exact xa_cons (by exact xe_idx (by exact xe_var 1) (by exact xe_int) (by exact fun _ _ => rfl)) xa_nil))))) (by exact xa_cons (by exact xe_idx (by exact xe_var 0) (by exact xe_int) (by exact fun _ _ => rfl)) (by exact xa_cons (by exact xe_idx (by exact xe_var 0) (by exact xe_int) (by exact fun _ _ => rfl)) xa_nil)))))))
theorem sc_law_book : FnScope ["_law_cards_here", "_law_card"] ["_law_cards_here"] (defScope s_law_book) := ⟨rfl, rfl, rfl, by decide +kernel, rfl, by decide +kernel, by decide +kernel⟩
abbrev FP_law_book (K : PySem.W.Frag) (fd : FuncData) : Prop := FunD K "_law_book" "_law_book" (defArgs s_law_book) (defBody s_law_book) (defScope s_law_book) ([]) [] (He.ga K "_law_book") fd
theorem ok_law_book (T : TextF P w K mg) (TB : TabsB base mg K tfL) : ∃ fd, FP_law_book K fd ∧ Own P w K mg base 7 (He.ga K "_law_book") fd ["_law_cards_here"] (l1 f_law_book) := by
  obtain ⟨fd, F⟩ := T.says.d.def_ 23 (d := d_law_book) rfl
  have F : FP_law_book K fd := F
  obtain ⟨fd_Book_init, F_Book_init, O_Book_init⟩ := ok_Book_init (P := P) (w := w) (base := base) T TB
  obtain ⟨fd_law_row, F_law_row, O_law_row⟩ := ok_law_row (P := P) (w := w) (base := base) T TB
  have b_law_row : Binds K fd_law_row ["_law_card"] [] := F_law_row.bindsN fun _ _ _ _ _ _ us hl => match us, hl with | [_], _ => rfl
  obtain ⟨ds_Book_2, mv_Book_2, mb_Book_2⟩ := F_Book_init.binds1 (ps := ["self", "rows"]) 2 1 (by intro h; cases h) rfl fun _ _ _ _ _ _ _ us its h1 h2 => match us, h1, its, h2 with | [_, _], _, [_], _ => ⟨_, rfl, rfl⟩
  have md_Book_2 : ∀ q G, DenL K q G [] ((d_Book_init.dvs K).drop 1) := fun q G => DenL.nil
  refine ⟨fd, F, fnX_of (k := 6) (gf := (l1 f_law_book)) F sc_law_book (fun cdv A fr s H E B ds hl => ?_), F.kp⟩
  match ds, hl with | [cards_here], _ => exact (by exact xs_retB (by exact xe_make "Book" (ps := ["self", "rows"]) (gf := (l1 f_Book_init)) (dds := []) (by exact T.mk_Book) (by exact O_Book_init.fn) (by exact O_Book_init.mkc) (by exact B.room.mono (by decide)) (by exact B.gd) (by exact B.tk) (by rfl) (by exact T.g_Book) (by exact mb_Book_2) (by exact mv_Book_2) (by exact md_Book_2) (by exact xa_cons (by exact XF.xe (by exact xf_lc (T := (.nm 1)) (by exact B.calm) (by exact sc_law_book.nd) (by exact xi_any (by exact xe_var 0)) (blkOk_by (own := [("_law_card", 1)]) (by first | decide +kernel | kernel_rfl)) (by intro _ _ _ _ _; exact (by exact pg_name (by exact sc_law_book.nd) (by rfl) (by first | exact .inl rfl | exact .inr rfl))) (by exact none1 (by rfl)) (by intro _ _ _ _ _; exact tgt1 (by intro card; exact xts_yes)) (by intro _ _ _ _ _; exact tgt1 (by intro card; exact (by exact xe_call (x := "_law_row") (ps := ["_law_card"]) (gf := (l1 f_law_row)) (dds := []) (by exact O_law_row.fn) (by exact B.room.mono (by decide)) (by exact B.gd) (by exact takes0) (by rfl) (by exact T.g_law_row) (by exact O_law_row.kp) (by exact b_law_row) (by exact .nil) (by exact fun _ _ => DenL.nil) (by exact xa_cons (by exact xe_var 1) xa_nil)))) (by decide))) xa_nil)))
theorem sc_law_contrary : FnScope ["_law_single", "_law_pairs", "_law_pair", "_law_two"] ["_law_single"] (defScope s_law_contrary) := ⟨rfl, rfl, rfl, by decide +kernel, rfl, by decide +kernel, by decide +kernel⟩
abbrev FP_law_contrary (K : PySem.W.Frag) (fd : FuncData) : Prop := FunD K "_law_contrary" "_law_contrary" (defArgs s_law_contrary) (defBody s_law_contrary) (defScope s_law_contrary) ([]) [] (He.ga K "_law_contrary") fd
theorem ok_law_contrary (T : TextF P w K mg) (TB : TabsB base mg K tfL) : ∃ fd, FP_law_contrary K fd ∧ Own P w K mg base 1 (He.ga K "_law_contrary") fd ["_law_single"] (l1 f_law_contrary) := by
  obtain ⟨fd, F⟩ := T.says.d.def_ 24 (d := d_law_contrary) rfl
  have F : FP_law_contrary K fd := F
  refine ⟨fd, F, fnX_of (k := 0) (gf := (l1 f_law_contrary)) F sc_law_contrary (fun cdv A fr s H E B ds hl => ?_), F.kp⟩
  match ds, hl with | [single], _ => exact (by exact xs_kn 1 ([["narrowest", "widest"], ["newest", "oldest"], ["cheapest", "dearest"], ["highest", "lowest"]] : List (List Str)) (by exact sc_law_contrary.nd) (by rfl) (by first | exact .inl rfl | exact .inr rfl) (by exact pa_cons (by exact pe_tupZ (by exact pa_cons pe_str (by exact pa_cons pe_str pa_nil))) (by exact pa_cons (by exact pe_tupZ (by exact pa_cons pe_str (by exact pa_cons pe_str pa_nil))) (by exact pa_cons (by exact pe_tupZ (by exact pa_cons pe_str (by exact pa_cons pe_str pa_nil))) (by exact pa_cons (by exact pe_tupZ (by exact pa_cons pe_str (by exact pa_cons pe_str pa_nil))) pa_nil)))) (by intro a0 vs0; exact (by exact xs_knPick (mt := fun two => (tst (RM.B (pure single) fun t1 => RM.B (pure two) fun t2 => inD false t1 t2))) 2 1 3 (by rfl) (by exact B.calm) (by exact sc_law_contrary.nd) (by rfl) (by first | exact .inl rfl | exact .inr rfl) (blkOk_by (own := [("_law_two", 3)]) (by first | decide +kernel | kernel_rfl)) (by rfl) (by first | exact Or.inl rfl | exact Or.inr (Or.inl rfl) | exact Or.inr (Or.inr rfl)) (by intro _ _ _ _ _; exact (by exact pg_name (by exact sc_law_contrary.nd) (by rfl) (by first | exact .inl rfl | exact .inr rfl))) (by intro _ _ _ _ _; exact tgt1 (by intro two; exact (by exact xts_one (by exact xt_in (by exact xe_var 0) (by exact xe_var 3))))) (by intro _ _ _ _ _; exact pe_var (by rfl) (by first | exact Or.inl rfl | exact Or.inr (Or.inl rfl) | exact Or.inr (Or.inr rfl))) (by intro z0 w0 e0; subst e0; exact kn_test z0 w0) (by intro v0 ws; exact (by exact xs_retB (by exact xe_idx (by exact xe_knVar 2) (by exact xe_sub (by exact xe_int) (by exact xe_knIx 2 (by rfl) (by exact xe_var 0))) (by exact fun _ _ => rfl)))))))
theorem sc_law_turned : FnScope ["_law_single"] ["_law_single"] (defScope s_law_turned) := ⟨rfl, rfl, rfl, by decide +kernel, rfl, by decide +kernel, by decide +kernel⟩
abbrev FP_law_turned (K : PySem.W.Frag) (fd : FuncData) : Prop := FunD K "_law_turned" "_law_turned" (defArgs s_law_turned) (defBody s_law_turned) (defScope s_law_turned) ([]) [] (He.ga K "_law_turned") fd
theorem ok_law_turned (T : TextF P w K mg) (TB : TabsB base mg K tfL) : ∃ fd, FP_law_turned K fd ∧ Own P w K mg base 2 (He.ga K "_law_turned") fd ["_law_single"] (l1 f_law_turned) := by
  obtain ⟨fd, F⟩ := T.says.d.def_ 25 (d := d_law_turned) rfl
  have F : FP_law_turned K fd := F
  obtain ⟨fd_law_contrary, F_law_contrary, O_law_contrary⟩ := ok_law_contrary (P := P) (w := w) (base := base) T TB
  have b_law_contrary : Binds K fd_law_contrary ["_law_single"] [] := F_law_contrary.bindsN fun _ _ _ _ _ _ us hl => match us, hl with | [_], _ => rfl
  refine ⟨fd, F, fnX_of (k := 1) (gf := (l1 f_law_turned)) F sc_law_turned (fun cdv A fr s H E B ds hl => ?_), F.kp⟩
  match ds, hl with | [single], _ => exact (by exact xs_retB (by exact xe_if (by exact xt_in (by exact xe_var 0) (by exact xe_tup (by exact xa_cons (by exact xe_str) (by exact xa_cons (by exact xe_str) xa_nil)))) (by exact xe_call (x := "_law_contrary") (ps := ["_law_single"]) (gf := (l1 f_law_contrary)) (dds := []) (by exact O_law_contrary.fn) (by exact B.room.mono (by decide)) (by exact B.gd) (by exact B.tk) (by rfl) (by exact T.g_law_contrary) (by exact O_law_contrary.kp) (by exact b_law_contrary) (by exact .nil) (by exact fun _ _ => DenL.nil) (by exact xa_cons (by exact xe_var 0) xa_nil)) (by exact xe_var 0)))
theorem sc_need_rule : FnScope ["rule"] ["rule"] (defScope s_need_rule) := ⟨rfl, rfl, rfl, by decide +kernel, rfl, by decide +kernel, by decide +kernel⟩
abbrev FP_need_rule (K : PySem.W.Frag) (fd : FuncData) : Prop := FunD K "need_rule" "need_rule" (defArgs s_need_rule) (defBody s_need_rule) (defScope s_need_rule) ([]) [] (He.ga K "need_rule") fd
theorem ok_need_rule (T : TextF P w K mg) (TB : TabsB base mg K tfL) : ∃ fd, FP_need_rule K fd ∧ Own P w K mg base 1 (He.ga K "need_rule") fd ["rule"] (l1 f_need_rule) := by
  obtain ⟨fd, F⟩ := T.says.d.def_ 26 (d := d_need_rule) rfl
  have F : FP_need_rule K fd := F
  refine ⟨fd, F, fnX_of (k := 0) (gf := (l1 f_need_rule)) F sc_need_rule (fun cdv A fr s H E B ds hl => ?_), F.kp⟩
  match ds, hl with | [rule], _ => exact (by exact xs_last (by exact xs_if (by exact xt_not (by exact xt_val (by exact xe_isi (by exact T.cls) (.o "Rule") (by rfl) (by exact T.n_isinstance) (by exact xe_var 0) (by exact pe_own "Rule" (by rfl) (by exact T.g_Rule))))) (by exact xs_stuck) (by exact xs_nil (a := D.non) (by exact .inr ⟨rfl, _, rfl⟩))))
theorem sc_need_book : FnScope ["book"] ["book"] (defScope s_need_book) := ⟨rfl, rfl, rfl, by decide +kernel, rfl, by decide +kernel, by decide +kernel⟩
abbrev FP_need_book (K : PySem.W.Frag) (fd : FuncData) : Prop := FunD K "need_book" "need_book" (defArgs s_need_book) (defBody s_need_book) (defScope s_need_book) ([]) [] (He.ga K "need_book") fd
theorem ok_need_book (T : TextF P w K mg) (TB : TabsB base mg K tfL) : ∃ fd, FP_need_book K fd ∧ Own P w K mg base 1 (He.ga K "need_book") fd ["book"] (l1 f_need_book) := by
  obtain ⟨fd, F⟩ := T.says.d.def_ 27 (d := d_need_book) rfl
  have F : FP_need_book K fd := F
  refine ⟨fd, F, fnX_of (k := 0) (gf := (l1 f_need_book)) F sc_need_book (fun cdv A fr s H E B ds hl => ?_), F.kp⟩
  match ds, hl with | [book], _ => exact (by exact xs_last (by exact xs_if (by exact xt_not (by exact xt_val (by exact xe_isi (by exact T.cls) (.o "Book") (by rfl) (by exact T.n_isinstance) (by exact xe_var 0) (by exact pe_own "Book" (by rfl) (by exact T.g_Book))))) (by exact xs_stuck) (by exact xs_nil (a := D.non) (by exact .inr ⟨rfl, _, rfl⟩))))
theorem sc_Book_len : FnScope ["self"] ["self"] (defScope s_Book_len) := ⟨rfl, rfl, rfl, by decide +kernel, rfl, by decide +kernel, by decide +kernel⟩
abbrev FP_Book_len (K : PySem.W.Frag) (fd : FuncData) : Prop := FunD K "__len__" "Book.__len__" (defArgs s_Book_len) (defBody s_Book_len) (defScope s_Book_len) ([]) [] (He.ma K (He.ga K "Book") "__len__") fd
theorem ok_Book_len (T : TextF P w K mg) (TB : TabsB base mg K tfL) : ∃ fd, FP_Book_len K fd ∧ Own P w K mg base 1 (He.ma K (He.ga K "Book") "__len__") fd ["self"] (l1 f_Book_len) := by
  obtain ⟨fd, F⟩ := T.says.d.def_ 28 (d := d_Book_len) rfl
  have F : FP_Book_len K fd := F
  refine ⟨fd, F, fnX_of (k := 0) (gf := (l1 f_Book_len)) F sc_Book_len (fun cdv A fr s H E B ds hl => ?_), F.kp⟩
  match ds, hl with | [self], _ => exact (by exact xs_retB (by exact xe_len (by rfl) (by exact T.n_len) (by exact xa_cons (by exact xe_fld (by exact T.fld) "book_rows" (by exact xe_var 0)) xa_nil)))
theorem sc_need_index : FnScope ["book", "at"] ["book", "at"] (defScope s_need_index) := ⟨rfl, rfl, rfl, by decide +kernel, rfl, by decide +kernel, by decide +kernel⟩
abbrev FP_need_index (K : PySem.W.Frag) (fd : FuncData) : Prop := FunD K "need_index" "need_index" (defArgs s_need_index) (defBody s_need_index) (defScope s_need_index) ([]) [] (He.ga K "need_index") fd
theorem ok_need_index (T : TextF P w K mg) (TB : TabsB base mg K tfL) : ∃ fd, FP_need_index K fd ∧ Own P w K mg base 3 (He.ga K "need_index") fd ["book", "at"] (l2 f_need_index) := by
  obtain ⟨fd, F⟩ := T.says.d.def_ 29 (d := d_need_index) rfl
  have F : FP_need_index K fd := F
  obtain ⟨fd_Book_len, F_Book_len, O_Book_len⟩ := ok_Book_len (P := P) (w := w) (base := base) T TB
  have b_Book_len : Binds K fd_Book_len ["self"] [] := F_Book_len.bindsN fun _ _ _ _ _ _ us hl => match us, hl with | [_], _ => rfl
  obtain ⟨fd_is_day, F_is_day, O_is_day⟩ := ok_is_day (P := P) (w := w) (base := base) T TB
  have b_is_day : Binds K fd_is_day ["thing"] [] := F_is_day.bindsN fun _ _ _ _ _ _ us hl => match us, hl with | [_], _ => rfl
  refine ⟨fd, F, fnX_of (k := 2) (gf := (l2 f_need_index)) F sc_need_index (fun cdv A fr s H E B ds hl => ?_), F.kp⟩
  match ds, hl with | [book, at_], _ => exact (by exact xs_last (by exact xs_if (by exact XW.xt (by exact xw_or (by exact xt_not (by exact xt_val (by exact xe_call (x := "is_day") (ps := ["thing"]) (gf := (l1 f_is_day)) (dds := []) (by exact O_is_day.fn) (by exact B.room.mono (by decide)) (by exact B.gd) (by exact B.tk) (by rfl) (by exact T.g_is_day) (by exact O_is_day.kp) (by exact b_is_day) (by exact .nil) (by exact fun _ _ => DenL.nil) (by exact xa_cons (by exact xe_var 1) xa_nil)))) (by exact xw_or1 (by exact xt_ge (by exact xe_var 1) (by exact xe_callA (V := E) (x := "len") (id := "len") (fa := lenX [("Book", f_Book_len)]) (by exact cr_lenX (k := 1) (by exact ⟨⟨_, _, _, ⟨O_Book_len.fn.up (by decide), T.cls.cl "Book" (by decide), T.m_Book_len⟩, rfl, b_Book_len⟩, trivial⟩) (by exact B.room.mono (by decide)) (by exact B.gd)) (by rfl) (by exact T.n_len) (by exact boot_len) (by exact xa_cons (by exact xe_var 0) xa_nil)))))) (by exact xs_stuck) (by exact xs_nil (a := D.non) (by exact .inr ⟨rfl, _, rfl⟩))))
theorem sc_need_two : FnScope ["book", "one", "other"] ["book", "one", "other"] (defScope s_need_two) := ⟨rfl, rfl, rfl, by decide +kernel, rfl, by decide +kernel, by decide +kernel⟩
abbrev FP_need_two (K : PySem.W.Frag) (fd : FuncData) : Prop := FunD K "need_two" "need_two" (defArgs s_need_two) (defBody s_need_two) (defScope s_need_two) ([]) [] (He.ga K "need_two") fd
theorem ok_need_two (T : TextF P w K mg) (TB : TabsB base mg K tfL) : ∃ fd, FP_need_two K fd ∧ Own P w K mg base 4 (He.ga K "need_two") fd ["book", "one", "other"] (l3 f_need_two) := by
  obtain ⟨fd, F⟩ := T.says.d.def_ 30 (d := d_need_two) rfl
  have F : FP_need_two K fd := F
  obtain ⟨fd_need_book, F_need_book, O_need_book⟩ := ok_need_book (P := P) (w := w) (base := base) T TB
  have b_need_book : Binds K fd_need_book ["book"] [] := F_need_book.bindsN fun _ _ _ _ _ _ us hl => match us, hl with | [_], _ => rfl
  obtain ⟨fd_need_index, F_need_index, O_need_index⟩ := ok_need_index (P := P) (w := w) (base := base) T TB
  have b_need_index : Binds K fd_need_index ["book", "at"] [] := F_need_index.bindsN fun _ _ _ _ _ _ us hl => match us, hl with | [_, _], _ => rfl
  refine ⟨fd, F, fnX_of (k := 3) (gf := (l3 f_need_two)) F sc_need_two (fun cdv A fr s H E B ds hl => ?_), F.kp⟩
  match ds, hl with | [book, one, other], _ => exact (by exact xs_expr (by exact xe_call (x := "need_book") (ps := ["book"]) (gf := (l1 f_need_book)) (dds := []) (by exact O_need_book.fn) (by exact B.room.mono (by decide)) (by exact B.gd) (by exact B.tk) (by rfl) (by exact T.g_need_book) (by exact O_need_book.kp) (by exact b_need_book) (by exact .nil) (by exact fun _ _ => DenL.nil) (by exact xa_cons (by exact xe_var 0) xa_nil)) (by exact xs_expr (by exact xe_call (x := "need_index") (ps := ["book", "at"]) (gf := (l2 f_need_index)) (dds := []) (by exact O_need_index.fn) (by exact B.room.mono (by decide)) (by exact B.gd) (by exact B.tk) (by rfl) (by exact T.g_need_index) (by exact O_need_index.kp) (by exact b_need_index) (by exact .nil) (by exact fun _ _ => DenL.nil) (by exact xa_cons (by exact xe_var 0) (by exact xa_cons (by exact xe_var 1) xa_nil))) (by exact xs_expr (by exact xe_call (x := "need_index") (ps := ["book", "at"]) (gf := (l2 f_need_index)) (dds := []) (by exact O_need_index.fn) (by exact B.room.mono (by decide)) (by exact B.gd) (by exact B.tk) (by rfl) (by exact T.g_need_index) (by exact O_need_index.kp) (by exact b_need_index) (by exact .nil) (by exact fun _ _ => DenL.nil) (by exact xa_cons (by exact xe_var 0) (by exact xa_cons (by exact xe_var 2) xa_nil))) (by exact xs_nil (a := D.non) (by exact .inr ⟨rfl, _, rfl⟩)))))
theorem sc_Box_eq : FnScope ["self", "other"] ["self", "other"] (defScope s_Box_eq) := ⟨rfl, rfl, rfl, by decide +kernel, rfl, by decide +kernel, by decide +kernel⟩
abbrev FP_Box_eq (K : PySem.W.Frag) (fd : FuncData) : Prop := FunD K "__eq__" "Box.__eq__" (defArgs s_Box_eq) (defBody s_Box_eq) (defScope s_Box_eq) ([]) [] (He.ma K (He.ga K "Box") "__eq__") fd
theorem ok_Box_eq (T : TextF P w K mg) (TB : TabsB base mg K tfL) : ∃ fd, FP_Box_eq K fd ∧ Own P w K mg base 1 (He.ma K (He.ga K "Box") "__eq__") fd ["self", "other"] (l2 f_Box_eq) := by
  obtain ⟨fd, F⟩ := T.says.d.def_ 31 (d := d_Box_eq) rfl
  have F : FP_Box_eq K fd := F
  refine ⟨fd, F, fnX_of (k := 0) (gf := (l2 f_Box_eq)) F sc_Box_eq (fun cdv A fr s H E B ds hl => ?_), F.kp⟩
  match ds, hl with | [self, other], _ => exact (by exact xs_if1 (by exact XW.xt (by exact xw_or (by exact xt_not (by exact xt_val (by exact xe_isi (by exact T.cls) (.o "Box") (by rfl) (by exact T.n_isinstance) (by exact xe_var 1) (by exact pe_own "Box" (by rfl) (by exact T.g_Box))))) (by exact xw_or (by exact xt_ne (by exact B.room.units) (by exact xe_fld (by exact T.fld) "box_who" (by exact xe_var 0)) (by exact xe_fld (by exact T.fld) "box_who" (by exact xe_var 1))) (by exact xw_or1 (by exact xt_ne (by exact B.room.units) (by exact xe_fld (by exact T.fld) "box_what" (by exact xe_var 0)) (by exact xe_fld (by exact T.fld) "box_what" (by exact xe_var 1))))))) (by exact xs_retR (by exact xe_bl)) (by exact xs_retB (by exact xe_and (by exact xe_eq (by exact B.room.units) (by exact xe_fld (by exact T.fld) "box_days" (by exact xe_var 0)) (by exact xe_fld (by exact T.fld) "box_days" (by exact xe_var 1))) (by exact xe_one (by exact xe_eq (by exact B.room.units) (by exact xe_fld (by exact T.fld) "box_amounts" (by exact xe_var 0)) (by exact xe_fld (by exact T.fld) "box_amounts" (by exact xe_var 1)))))))
theorem sc_Row_box : FnScope ["self"] ["self"] (defScope s_Row_box) := ⟨rfl, rfl, rfl, by decide +kernel, rfl, by decide +kernel, by decide +kernel⟩
abbrev FP_Row_box (K : PySem.W.Frag) (fd : FuncData) : Prop := FunD K "box" "Row.box" (defArgs s_Row_box) (defBody s_Row_box) (defScope s_Row_box) ([]) [] (pAd K "Row" "box") fd
theorem ok_Row_box (T : TextF P w K mg) (TB : TabsB base mg K tfL) : ∃ fd, FP_Row_box K fd ∧ Own P w K mg base 1 (pAd K "Row" "box") fd ["self"] (l1 f_Row_box) := by
  obtain ⟨_, fd, F⟩ := T.says.prop_ 0 rfl
  have F : FP_Row_box K fd := F
  refine ⟨fd, F, fnX_of (k := 0) (gf := (l1 f_Row_box)) F sc_Row_box (fun cdv A fr s H E B ds hl => ?_), F.kp⟩
  match ds, hl with | [self], _ => exact (by exact xs_retB (by exact xe_fld (by exact T.fld) "row_box" (by exact xe_var 0)))
theorem sc_is_stretch_within : FnScope ["inner", "outer"] ["inner", "outer"] (defScope s_is_stretch_within) := ⟨rfl, rfl, rfl, by decide +kernel, rfl, by decide +kernel, by decide +kernel⟩
abbrev FP_is_stretch_within (K : PySem.W.Frag) (fd : FuncData) : Prop := FunD K "is_stretch_within" "is_stretch_within" (defArgs s_is_stretch_within) (defBody s_is_stretch_within) (defScope s_is_stretch_within) ([]) [] (He.ga K "is_stretch_within") fd
theorem ok_is_stretch_within (T : TextF P w K mg) (TB : TabsB base mg K tfL) : ∃ fd, FP_is_stretch_within K fd ∧ Own P w K mg base 1 (He.ga K "is_stretch_within") fd ["inner", "outer"] (l2 f_is_stretch_within) := by
  obtain ⟨fd, F⟩ := T.says.d.def_ 32 (d := d_is_stretch_within) rfl
  have F : FP_is_stretch_within K fd := F
  refine ⟨fd, F, fnX_of (k := 0) (gf := (l2 f_is_stretch_within)) F sc_is_stretch_within (fun cdv A fr s H E B ds hl => ?_), F.kp⟩
  match ds, hl with | [inner, outer], _ => exact (by exact xs_if1 (by exact xt_lt (by exact xe_idx (by exact xe_var 0) (by exact xe_int) (by exact fun _ _ => rfl)) (by exact xe_idx (by exact xe_var 1) (by exact xe_int) (by exact fun _ _ => rfl))) (by exact xs_retR (by exact xe_bl)) (by exact xs_retB (by exact xe_or (by exact xe_is (by exact xe_idx (by exact xe_var 1) (by exact xe_int) (by exact fun _ _ => rfl)) (by exact xe_non)) (by exact xe_one (by exact xe_and (by exact xe_isnot (by exact xe_idx (by exact xe_var 0) (by exact xe_int) (by exact fun _ _ => rfl)) (by exact xe_non)) (by exact xe_one (by exact xe_le (by exact xe_idx (by exact xe_var 0) (by exact xe_int) (by exact fun _ _ => rfl)) (by exact xe_idx (by exact xe_var 1) (by exact xe_int) (by exact fun _ _ => rfl)))))))))
theorem sc_Box_is_within : FnScope ["self", "other", "is_so"] ["self", "other"] (defScope s_Box_is_within) := ⟨rfl, rfl, rfl, by decide +kernel, rfl, by decide +kernel, by decide +kernel⟩
abbrev FP_Box_is_within (K : PySem.W.Frag) (fd : FuncData) : Prop := FunD K "is_within" "Box.is_within" (defArgs s_Box_is_within) (defBody s_Box_is_within) (defScope s_Box_is_within) ([]) [] (He.ma K (He.ga K "Box") "is_within") fd
theorem ok_Box_is_within (T : TextF P w K mg) (TB : TabsB base mg K tfL) : ∃ fd, FP_Box_is_within K fd ∧ Own P w K mg base 2 (He.ma K (He.ga K "Box") "is_within") fd ["self", "other"] (l2 f_Box_is_within) := by
  obtain ⟨fd, F⟩ := T.says.d.def_ 33 (d := d_Box_is_within) rfl
  have F : FP_Box_is_within K fd := F
  obtain ⟨fd_is_stretch_within, F_is_stretch_within, O_is_stretch_within⟩ := ok_is_stretch_within (P := P) (w := w) (base := base) T TB
  have b_is_stretch_within : Binds K fd_is_stretch_within ["inner", "outer"] [] := F_is_stretch_within.bindsN fun _ _ _ _ _ _ us hl => match us, hl with | [_, _], _ => rfl
  refine ⟨fd, F, fnX_of (k := 1) (gf := (l2 f_Box_is_within)) F sc_Box_is_within (fun cdv A fr s H E B ds hl => ?_), F.kp⟩
  match ds, hl with | [self, other], _ => exact (by exact xs_if1 (by exact xt_not (by exact xt_val (by exact xe_isi (by exact T.cls) (.o "Box") (by rfl) (by exact T.n_isinstance) (by exact xe_var 1) (by exact pe_own "Box" (by rfl) (by exact T.g_Box))))) (by exact xs_stuck) (by exact xs_if1 (by exact XW.xt (by exact xw_and (by exact xt_isnot (by exact xe_fld (by exact T.fld) "box_who" (by exact xe_var 1)) (by exact xe_non)) (by exact xw_and1 (by exact xt_ne (by exact B.room.units) (by exact xe_fld (by exact T.fld) "box_who" (by exact xe_var 1)) (by exact xe_fld (by exact T.fld) "box_who" (by exact xe_var 0)))))) (by exact xs_retR (by exact xe_bl)) (by exact xs_if1 (by exact XW.xt (by exact xw_and (by exact xt_isnot (by exact xe_fld (by exact T.fld) "box_what" (by exact xe_var 1)) (by exact xe_non)) (by exact xw_and1 (by exact xt_ne (by exact B.room.units) (by exact xe_fld (by exact T.fld) "box_what" (by exact xe_var 1)) (by exact xe_fld (by exact T.fld) "box_what" (by exact xe_var 0)))))) (by exact xs_retR (by exact xe_bl)) (by exact xs_set 2 (by exact sc_Box_is_within.nd) (by rfl) (by first | exact .inl rfl | exact .inr rfl) (by exact xe_call (x := "is_stretch_within") (ps := ["inner", "outer"]) (gf := (l2 f_is_stretch_within)) (dds := []) (by exact O_is_stretch_within.fn) (by exact B.room.mono (by decide)) (by exact B.gd) (by exact B.tk) (by rfl) (by exact T.g_is_stretch_within) (by exact O_is_stretch_within.kp) (by exact b_is_stretch_within) (by exact .nil) (by exact fun _ _ => DenL.nil) (by exact xa_cons (by exact xe_fld (by exact T.fld) "box_days" (by exact xe_var 0)) (by exact xa_cons (by exact xe_fld (by exact T.fld) "box_days" (by exact xe_var 1)) xa_nil))) (by intro is_so; exact (by exact xs_retB (by exact xe_and (by exact xe_var 2) (by exact xe_one (by exact xe_call (x := "is_stretch_within") (ps := ["inner", "outer"]) (gf := (l2 f_is_stretch_within)) (dds := []) (by exact O_is_stretch_within.fn) (by exact B.room.mono (by decide)) (by exact B.gd) (by exact B.tk) (by rfl) (by exact T.g_is_stretch_within) (by exact O_is_stretch_within.kp) (by exact b_is_stretch_within) (by exact .nil) (by exact fun _ _ => DenL.nil) (by exact xa_cons (by exact xe_fld (by exact T.fld) "box_amounts" (by exact xe_var 0)) (by exact xa_cons (by exact xe_fld (by exact T.fld) "box_amounts" (by exact xe_var 1)) xa_nil)))))))))))
theorem sc_is_inside : FnScope ["first", "second"] ["first", "second"] (defScope s_is_inside) := ⟨rfl, rfl, rfl, by decide +kernel, rfl, by decide +kernel, by decide +kernel⟩
abbrev FP_is_inside (K : PySem.W.Frag) (fd : FuncData) : Prop := FunD K "is_inside" "is_inside" (defArgs s_is_inside) (defBody s_is_inside) (defScope s_is_inside) ([]) [] (He.ga K "is_inside") fd
theorem ok_is_inside (T : TextF P w K mg) (TB : TabsB base mg K tfL) : ∃ fd, FP_is_inside K fd ∧ Own P w K mg base 3 (He.ga K "is_inside") fd ["first", "second"] (l2 f_is_inside) := by
  obtain ⟨fd, F⟩ := T.says.d.def_ 34 (d := d_is_inside) rfl
  have F : FP_is_inside K fd := F
  obtain ⟨fd_Box_eq, F_Box_eq, O_Box_eq⟩ := ok_Box_eq (P := P) (w := w) (base := base) T TB
  have b_Box_eq : Binds K fd_Box_eq ["self", "other"] [] := F_Box_eq.bindsN fun _ _ _ _ _ _ us hl => match us, hl with | [_, _], _ => rfl
  have P_Row_box := (T.says.prop_ 0 rfl).1
  obtain ⟨fd_Row_box, F_Row_box, O_Row_box⟩ := ok_Row_box (P := P) (w := w) (base := base) T TB
  have b_Row_box : Binds K fd_Row_box ["self"] [] := F_Row_box.bindsN fun _ _ _ _ _ _ us hl => match us, hl with | [_], _ => rfl
  obtain ⟨fd_Box_is_within, F_Box_is_within, O_Box_is_within⟩ := ok_Box_is_within (P := P) (w := w) (base := base) T TB
  have b_Box_is_within : Binds K fd_Box_is_within ["self", "other"] [] := F_Box_is_within.bindsN fun _ _ _ _ _ _ us hl => match us, hl with | [_, _], _ => rfl
  refine ⟨fd, F, fnX_of (k := 2) (gf := (l2 f_is_inside)) F sc_is_inside (fun cdv A fr s H E B ds hl => ?_), F.kp⟩
  match ds, hl with | [first, second], _ => exact (by exact xs_retB (by exact xe_and (by exact xe_meth "Box" "is_within" (gf := (l2 f_Box_is_within)) (dds := []) (by exact ⟨O_Box_is_within.fn, T.cls.cl "Box" (by decide), T.m_Box_is_within⟩) (by exact B.room.mono (by decide)) (by exact B.gd) (by exact B.tk) (by exact b_Box_is_within) (by exact .nil) (by exact fun _ _ => DenL.nil) (by exact xe_prop "Row" "box" (gf := (l1 f_Row_box)) (by exact P_Row_box) (by exact T.cls.cl "Row" (by decide)) (by exact O_Row_box.fn) (by exact B.room.mono (by decide)) (by exact B.gd) (by exact b_Row_box) (by exact xe_var 0)) (by exact xa_cons (by exact xe_prop "Row" "box" (gf := (l1 f_Row_box)) (by exact P_Row_box) (by exact T.cls.cl "Row" (by decide)) (by exact O_Row_box.fn) (by exact B.room.mono (by decide)) (by exact B.gd) (by exact b_Row_box) (by exact xe_var 1)) xa_nil)) (by exact xe_one (by exact xe_not (by exact xe_cmpD (V := E) (by exact op_eqX (by exact B.room.units) (k := 1) (by exact ⟨⟨_, _, _, ⟨O_Box_eq.fn.up (by decide), T.cls.cl "Box" (by decide), T.m_Box_eq⟩, rfl, b_Box_eq⟩, trivial⟩) (by exact B.room.mono (by decide)) (by exact B.gd) (by exact B.tk)) (by exact xe_prop "Row" "box" (gf := (l1 f_Row_box)) (by exact P_Row_box) (by exact T.cls.cl "Row" (by decide)) (by exact O_Row_box.fn) (by exact B.room.mono (by decide)) (by exact B.gd) (by exact b_Row_box) (by exact xe_var 0)) (by exact xe_prop "Row" "box" (gf := (l1 f_Row_box)) (by exact P_Row_box) (by exact T.cls.cl "Row" (by decide)) (by exact O_Row_box.fn) (by exact B.room.mono (by decide)) (by exact B.gd) (by exact b_Row_box) (by exact xe_var 1)) (by rfl))))))
theorem sc_Row_price : FnScope ["self"] ["self"] (defScope s_Row_price) := ⟨rfl, rfl, rfl, by decide +kernel, rfl, by decide +kernel, by decide +kernel⟩
abbrev FP_Row_price (K : PySem.W.Frag) (fd : FuncData) : Prop := FunD K "price" "Row.price" (defArgs s_Row_price) (defBody s_Row_price) (defScope s_Row_price) ([]) [] (pAd K "Row" "price") fd
theorem ok_Row_price (T : TextF P w K mg) (TB : TabsB base mg K tfL) : ∃ fd, FP_Row_price K fd ∧ Own P w K mg base 1 (pAd K "Row" "price") fd ["self"] (l1 f_Row_price) := by
  obtain ⟨_, fd, F⟩ := T.says.prop_ 1 rfl
  have F : FP_Row_price K fd := F
  refine ⟨fd, F, fnX_of (k := 0) (gf := (l1 f_Row_price)) F sc_Row_price (fun cdv A fr s H E B ds hl => ?_), F.kp⟩
  match ds, hl with | [self], _ => exact (by exact xs_retB (by exact xe_fld (by exact T.fld) "row_price" (by exact xe_var 0)))
theorem sc_Row_rank : FnScope ["self"] ["self"] (defScope s_Row_rank) := ⟨rfl, rfl, rfl, by decide +kernel, rfl, by decide +kernel, by decide +kernel⟩
abbrev FP_Row_rank (K : PySem.W.Frag) (fd : FuncData) : Prop := FunD K "rank" "Row.rank" (defArgs s_Row_rank) (defBody s_Row_rank) (defScope s_Row_rank) ([]) [] (pAd K "Row" "rank") fd
theorem ok_Row_rank (T : TextF P w K mg) (TB : TabsB base mg K tfL) : ∃ fd, FP_Row_rank K fd ∧ Own P w K mg base 1 (pAd K "Row" "rank") fd ["self"] (l1 f_Row_rank) := by
  obtain ⟨_, fd, F⟩ := T.says.prop_ 2 rfl
  have F : FP_Row_rank K fd := F
  refine ⟨fd, F, fnX_of (k := 0) (gf := (l1 f_Row_rank)) F sc_Row_rank (fun cdv A fr s H E B ds hl => ?_), F.kp⟩
  match ds, hl with | [self], _ => exact (by exact xs_retB (by exact xe_fld (by exact T.fld) "row_rank" (by exact xe_var 0)))
theorem sc_puts_ahead : FnScope ["word", "rows", "one", "other", "first", "second"] ["word", "rows", "one", "other"] (defScope s_puts_ahead) := ⟨rfl, rfl, rfl, by decide +kernel, rfl, by decide +kernel, by decide +kernel⟩
abbrev FP_puts_ahead (K : PySem.W.Frag) (fd : FuncData) : Prop := FunD K "puts_ahead" "puts_ahead" (defArgs s_puts_ahead) (defBody s_puts_ahead) (defScope s_puts_ahead) ([]) [] (He.ga K "puts_ahead") fd
theorem ok_puts_ahead (T : TextF P w K mg) (TB : TabsB base mg K tfL) : ∃ fd, FP_puts_ahead K fd ∧ Own P w K mg base 4 (He.ga K "puts_ahead") fd ["word", "rows", "one", "other"] (l4 f_puts_ahead) := by
  obtain ⟨fd, F⟩ := T.says.d.def_ 35 (d := d_puts_ahead) rfl
  have F : FP_puts_ahead K fd := F
  obtain ⟨fd_is_inside, F_is_inside, O_is_inside⟩ := ok_is_inside (P := P) (w := w) (base := base) T TB
  have b_is_inside : Binds K fd_is_inside ["first", "second"] [] := F_is_inside.bindsN fun _ _ _ _ _ _ us hl => match us, hl with | [_, _], _ => rfl
  have P_Row_price := (T.says.prop_ 1 rfl).1
  obtain ⟨fd_Row_price, F_Row_price, O_Row_price⟩ := ok_Row_price (P := P) (w := w) (base := base) T TB
  have b_Row_price : Binds K fd_Row_price ["self"] [] := F_Row_price.bindsN fun _ _ _ _ _ _ us hl => match us, hl with | [_], _ => rfl
  have P_Row_rank := (T.says.prop_ 2 rfl).1
  obtain ⟨fd_Row_rank, F_Row_rank, O_Row_rank⟩ := ok_Row_rank (P := P) (w := w) (base := base) T TB
  have b_Row_rank : Binds K fd_Row_rank ["self"] [] := F_Row_rank.bindsN fun _ _ _ _ _ _ us hl => match us, hl with | [_], _ => rfl
  refine ⟨fd, F, fnX_of (k := 3) (gf := (l4 f_puts_ahead)) F sc_puts_ahead (fun cdv A fr s H E B ds hl => ?_), F.kp⟩
  match ds, hl with | [word, rows, one, other], _ => exact (by exact xs_par_vv 4 5 (by exact B.calm) (by exact sc_puts_ahead.nd) (by rfl) (by rfl) (by decide) (by rfl) (by rfl) (by exact xe_idx (by exact xe_var 1) (by exact xe_var 2) (by exact fun _ _ => rfl)) (by exact xe_idx (by exact xe_var 1) (by exact xe_var 3) (by exact fun _ _ => rfl)) (by intro first second; exact (by exact xs_if1 (by exact xt_in (by exact xe_var 0) (by exact xe_tup (by exact xa_cons (by exact xe_str) (by exact xa_cons (by exact xe_str) xa_nil)))) (by exact xs_retR (by exact xe_if (by exact xt_eq (by exact B.room.units) (by exact xe_var 0) (by exact xe_str)) (by exact xe_call (x := "is_inside") (ps := ["first", "second"]) (gf := (l2 f_is_inside)) (dds := []) (by exact O_is_inside.fn) (by exact B.room.mono (by decide)) (by exact B.gd) (by exact B.tk) (by rfl) (by exact T.g_is_inside) (by exact O_is_inside.kp) (by exact b_is_inside) (by exact .nil) (by exact fun _ _ => DenL.nil) (by exact xa_cons (by exact xe_var 4) (by exact xa_cons (by exact xe_var 5) xa_nil))) (by exact xe_call (x := "is_inside") (ps := ["first", "second"]) (gf := (l2 f_is_inside)) (dds := []) (by exact O_is_inside.fn) (by exact B.room.mono (by decide)) (by exact B.gd) (by exact B.tk) (by rfl) (by exact T.g_is_inside) (by exact O_is_inside.kp) (by exact b_is_inside) (by exact .nil) (by exact fun _ _ => DenL.nil) (by exact xa_cons (by exact xe_var 5) (by exact xa_cons (by exact xe_var 4) xa_nil))))) (by exact xs_if1 (by exact xt_in (by exact xe_var 0) (by exact xe_tup (by exact xa_cons (by exact xe_str) (by exact xa_cons (by exact xe_str) xa_nil)))) (by exact xs_retR (by exact xe_if (by exact xt_eq (by exact B.room.units) (by exact xe_var 0) (by exact xe_str)) (by exact xe_gt (by exact xe_var 2) (by exact xe_var 3)) (by exact xe_lt (by exact xe_var 2) (by exact xe_var 3)))) (by exact xs_if1 (by exact xt_in (by exact xe_var 0) (by exact xe_tup (by exact xa_cons (by exact xe_str) (by exact xa_cons (by exact xe_str) xa_nil)))) (by exact xs_retR (by exact xe_if (by exact xt_eq (by exact B.room.units) (by exact xe_var 0) (by exact xe_str)) (by exact xe_lt (by exact xe_prop "Row" "price" (gf := (l1 f_Row_price)) (by exact P_Row_price) (by exact T.cls.cl "Row" (by decide)) (by exact O_Row_price.fn) (by exact B.room.mono (by decide)) (by exact B.gd) (by exact b_Row_price) (by exact xe_var 4)) (by exact xe_prop "Row" "price" (gf := (l1 f_Row_price)) (by exact P_Row_price) (by exact T.cls.cl "Row" (by decide)) (by exact O_Row_price.fn) (by exact B.room.mono (by decide)) (by exact B.gd) (by exact b_Row_price) (by exact xe_var 5))) (by exact xe_gt (by exact xe_prop "Row" "price" (gf := (l1 f_Row_price)) (by exact P_Row_price) (by exact T.cls.cl "Row" (by decide)) (by exact O_Row_price.fn) (by exact B.room.mono (by decide)) (by exact B.gd) (by exact b_Row_price) (by exact xe_var 4)) (by exact xe_prop "Row" "price" (gf := (l1 f_Row_price)) (by exact P_Row_price) (by exact T.cls.cl "Row" (by decide)) (by exact O_Row_price.fn) (by exact B.room.mono (by decide)) (by exact B.gd) (by exact b_Row_price) (by exact xe_var 5))))) (by exact xs_retB (by exact xe_if (by exact xt_eq (by exact B.room.units) (by exact xe_var 0) (by exact xe_str)) (by exact xe_gt (by exact xe_prop "Row" "rank" (gf := (l1 f_Row_rank)) (by exact P_Row_rank) (by exact T.cls.cl "Row" (by decide)) (by exact O_Row_rank.fn) (by exact B.room.mono (by decide)) (by exact B.gd) (by exact b_Row_rank) (by exact xe_var 4)) (by exact xe_prop "Row" "rank" (gf := (l1 f_Row_rank)) (by exact P_Row_rank) (by exact T.cls.cl "Row" (by decide)) (by exact O_Row_rank.fn) (by exact B.room.mono (by decide)) (by exact B.gd) (by exact b_Row_rank) (by exact xe_var 5))) (by exact xe_lt (by exact xe_prop "Row" "rank" (gf := (l1 f_Row_rank)) (by exact P_Row_rank) (by exact T.cls.cl "Row" (by decide)) (by exact O_Row_rank.fn) (by exact B.room.mono (by decide)) (by exact B.gd) (by exact b_Row_rank) (by exact xe_var 4)) (by exact xe_prop "Row" "rank" (gf := (l1 f_Row_rank)) (by exact P_Row_rank) (by exact T.cls.cl "Row" (by decide)) (by exact O_Row_rank.fn) (by exact B.room.mono (by decide)) (by exact B.gd) (by exact b_Row_rank) (by exact xe_var 5))))))))))
theorem sc_parting_word : FnScope ["words", "rows", "one", "other", "word"] ["words", "rows", "one", "other"] (defScope s_parting_word) := ⟨rfl, rfl, rfl, by decide +kernel, rfl, by decide +kernel, by decide +kernel⟩
abbrev FP_parting_word (K : PySem.W.Frag) (fd : FuncData) : Prop := FunD K "parting_word" "parting_word" (defArgs s_parting_word) (defBody s_parting_word) (defScope s_parting_word) ([]) [] (He.ga K "parting_word") fd
theorem ok_parting_word (T : TextF P w K mg) (TB : TabsB base mg K tfL) : ∃ fd, FP_parting_word K fd ∧ Own P w K mg base 5 (He.ga K "parting_word") fd ["words", "rows", "one", "other"] (l4 f_parting_word) := by
  obtain ⟨fd, F⟩ := T.says.d.def_ 36 (d := d_parting_word) rfl
  have F : FP_parting_word K fd := F
  obtain ⟨fd_puts_ahead, F_puts_ahead, O_puts_ahead⟩ := ok_puts_ahead (P := P) (w := w) (base := base) T TB
  have b_puts_ahead : Binds K fd_puts_ahead ["word", "rows", "one", "other"] [] := F_puts_ahead.bindsN fun _ _ _ _ _ _ us hl => match us, hl with | [_, _, _, _], _ => rfl
  refine ⟨fd, F, fnX_of (k := 4) (gf := (l4 f_parting_word)) F sc_parting_word (fun cdv A fr s H E B ds hl => ?_), F.kp⟩
  match ds, hl with | [words, rows, one, other], _ => exact (by exact xs_thenS (e := (fun yy : Unit => ([some (.val words), some (.val rows), some (.val one), some (.val other), none] : DSt))) (by exact xs_forS (T := (.nm 4)) (f := (f_parting_word_b1 rows one other)) (fun yy : Unit => ([some (.val words), some (.val rows), some (.val one), some (.val other), none] : DSt)) () (by exact B.po) (by exact B.calm) (by exact xi_any (by exact xe_var 0)) (by exact pg_name (by exact sc_parting_word.nd) (by rfl) (by first | exact .inl rfl | exact .inr rfl)) (by exact ⟨.inr rfl, .inr rfl, .inr rfl, .inr rfl, .inl rfl, trivial⟩) (by intro y; exact none1 (by rfl)) (by intro y; exact tgt1 (by intro word; exact (by exact xs_last (by exact xs_if (by exact XW.xt (by exact xw_or (by exact xt_val (by exact xe_call (x := "puts_ahead") (ps := ["word", "rows", "one", "other"]) (gf := (l4 f_puts_ahead)) (dds := []) (by exact O_puts_ahead.fn) (by exact B.room.mono (by decide)) (by exact B.gd) (by exact B.tk) (by rfl) (by exact T.g_puts_ahead) (by exact O_puts_ahead.kp) (by exact b_puts_ahead) (by exact .nil) (by exact fun _ _ => DenL.nil) (by exact xa_cons (by exact xe_var 4) (by exact xa_cons (by exact xe_var 1) (by exact xa_cons (by exact xe_var 2) (by exact xa_cons (by exact xe_var 3) xa_nil)))))) (by exact xw_or1 (by exact xt_val (by exact xe_call (x := "puts_ahead") (ps := ["word", "rows", "one", "other"]) (gf := (l4 f_puts_ahead)) (dds := []) (by exact O_puts_ahead.fn) (by exact B.room.mono (by decide)) (by exact B.gd) (by exact B.tk) (by rfl) (by exact T.g_puts_ahead) (by exact O_puts_ahead.kp) (by exact b_puts_ahead) (by exact .nil) (by exact fun _ _ => DenL.nil) (by exact xa_cons (by exact xe_var 4) (by exact xa_cons (by exact xe_var 1) (by exact xa_cons (by exact xe_var 3) (by exact xa_cons (by exact xe_var 2) xa_nil))))))))) (by exact xs_ret (r := Sum.inl) (by exact xe_var 4) (by exact fun _ => rfl)) (by exact xs_nil (a := Sum.inr ()) (by exact ⟨_, rfl, ⟨.inr rfl, .inr rfl, .inr rfl, .inr rfl, .inl rfl, trivial⟩⟩))))))) (by exact fun _ => .inl rfl) (by intro y_1; exact (by exact xs_retB (by exact xe_non))))
theorem sc_Rule_words : FnScope ["self"] ["self"] (defScope s_Rule_words) := ⟨rfl, rfl, rfl, by decide +kernel, rfl, by decide +kernel, by decide +kernel⟩
abbrev FP_Rule_words (K : PySem.W.Frag) (fd : FuncData) : Prop := FunD K "words" "Rule.words" (defArgs s_Rule_words) (defBody s_Rule_words) (defScope s_Rule_words) ([]) [] (pAd K "Rule" "words") fd
theorem ok_Rule_words (T : TextF P w K mg) (TB : TabsB base mg K tfL) : ∃ fd, FP_Rule_words K fd ∧ Own P w K mg base 1 (pAd K "Rule" "words") fd ["self"] (l1 f_Rule_words) := by
  obtain ⟨_, fd, F⟩ := T.says.prop_ 3 rfl
  have F : FP_Rule_words K fd := F
  refine ⟨fd, F, fnX_of (k := 0) (gf := (l1 f_Rule_words)) F sc_Rule_words (fun cdv A fr s H E B ds hl => ?_), F.kp⟩
  match ds, hl with | [self], _ => exact (by exact xs_retB (by exact xe_fld (by exact T.fld) "rule_words" (by exact xe_var 0)))
theorem sc_Book_rows : FnScope ["self"] ["self"] (defScope s_Book_rows) := ⟨rfl, rfl, rfl, by decide +kernel, rfl, by decide +kernel, by decide +kernel⟩
abbrev FP_Book_rows (K : PySem.W.Frag) (fd : FuncData) : Prop := FunD K "rows" "Book.rows" (defArgs s_Book_rows) (defBody s_Book_rows) (defScope s_Book_rows) ([]) [] (pAd K "Book" "rows") fd
theorem ok_Book_rows (T : TextF P w K mg) (TB : TabsB base mg K tfL) : ∃ fd, FP_Book_rows K fd ∧ Own P w K mg base 1 (pAd K "Book" "rows") fd ["self"] (l1 f_Book_rows) := by
  obtain ⟨_, fd, F⟩ := T.says.prop_ 4 rfl
  have F : FP_Book_rows K fd := F
  refine ⟨fd, F, fnX_of (k := 0) (gf := (l1 f_Book_rows)) F sc_Book_rows (fun cdv A fr s H E B ds hl => ?_), F.kp⟩
  match ds, hl with | [self], _ => exact (by exact xs_retB (by exact xe_fld (by exact T.fld) "book_rows" (by exact xe_var 0)))
theorem sc_parts : FnScope ["rule", "book", "one", "other"] ["rule", "book", "one", "other"] (defScope s_parts) := ⟨rfl, rfl, rfl, by decide +kernel, rfl, by decide +kernel, by decide +kernel⟩
abbrev FP_parts (K : PySem.W.Frag) (fd : FuncData) : Prop := FunD K "parts" "parts" (defArgs s_parts) (defBody s_parts) (defScope s_parts) ([]) [] (He.ga K "parts") fd
theorem ok_parts (T : TextF P w K mg) (TB : TabsB base mg K tfL) : ∃ fd, FP_parts K fd ∧ Own P w K mg base 6 (He.ga K "parts") fd ["rule", "book", "one", "other"] (l4 f_parts) := by
  obtain ⟨fd, F⟩ := T.says.d.def_ 37 (d := d_parts) rfl
  have F : FP_parts K fd := F
  obtain ⟨fd_need_rule, F_need_rule, O_need_rule⟩ := ok_need_rule (P := P) (w := w) (base := base) T TB
  have b_need_rule : Binds K fd_need_rule ["rule"] [] := F_need_rule.bindsN fun _ _ _ _ _ _ us hl => match us, hl with | [_], _ => rfl
  obtain ⟨fd_need_two, F_need_two, O_need_two⟩ := ok_need_two (P := P) (w := w) (base := base) T TB
  have b_need_two : Binds K fd_need_two ["book", "one", "other"] [] := F_need_two.bindsN fun _ _ _ _ _ _ us hl => match us, hl with | [_, _, _], _ => rfl
  obtain ⟨fd_parting_word, F_parting_word, O_parting_word⟩ := ok_parting_word (P := P) (w := w) (base := base) T TB
  have b_parting_word : Binds K fd_parting_word ["words", "rows", "one", "other"] [] := F_parting_word.bindsN fun _ _ _ _ _ _ us hl => match us, hl with | [_, _, _, _], _ => rfl
  have P_Rule_words := (T.says.prop_ 3 rfl).1
  obtain ⟨fd_Rule_words, F_Rule_words, O_Rule_words⟩ := ok_Rule_words (P := P) (w := w) (base := base) T TB
  have b_Rule_words : Binds K fd_Rule_words ["self"] [] := F_Rule_words.bindsN fun _ _ _ _ _ _ us hl => match us, hl with | [_], _ => rfl
  have P_Book_rows := (T.says.prop_ 4 rfl).1
  obtain ⟨fd_Book_rows, F_Book_rows, O_Book_rows⟩ := ok_Book_rows (P := P) (w := w) (base := base) T TB
  have b_Book_rows : Binds K fd_Book_rows ["self"] [] := F_Book_rows.bindsN fun _ _ _ _ _ _ us hl => match us, hl with | [_], _ => rfl
  refine ⟨fd, F, fnX_of (k := 5) (gf := (l4 f_parts)) F sc_parts (fun cdv A fr s H E B ds hl => ?_), F.kp⟩
  match ds, hl with | [rule, book, one, other], _ => exact (by exact xs_expr (by exact xe_call (x := "need_rule") (ps := ["rule"]) (gf := (l1 f_need_rule)) (dds := []) (by exact O_need_rule.fn) (by exact B.room.mono (by decide)) (by exact B.gd) (by exact B.tk) (by rfl) (by exact T.g_need_rule) (by exact O_need_rule.kp) (by exact b_need_rule) (by exact .nil) (by exact fun _ _ => DenL.nil) (by exact xa_cons (by exact xe_var 0) xa_nil)) (by exact xs_expr (by exact xe_call (x := "need_two") (ps := ["book", "one", "other"]) (gf := (l3 f_need_two)) (dds := []) (by exact O_need_two.fn) (by exact B.room.mono (by decide)) (by exact B.gd) (by exact B.tk) (by rfl) (by exact T.g_need_two) (by exact O_need_two.kp) (by exact b_need_two) (by exact .nil) (by exact fun _ _ => DenL.nil) (by exact xa_cons (by exact xe_var 1) (by exact xa_cons (by exact xe_var 2) (by exact xa_cons (by exact xe_var 3) xa_nil)))) (by exact xs_retB (by exact xe_call (x := "parting_word") (ps := ["words", "rows", "one", "other"]) (gf := (l4 f_parting_word)) (dds := []) (by exact O_parting_word.fn) (by exact B.room.mono (by decide)) (by exact B.gd) (by exact B.tk) (by rfl) (by exact T.g_parting_word) (by exact O_parting_word.kp) (by exact b_parting_word) (by exact .nil) (by exact fun _ _ => DenL.nil) (by exact xa_cons (by exact xe_prop "Rule" "words" (gf := (l1 f_Rule_words)) (by exact P_Rule_words) (by exact T.cls.cl "Rule" (by decide)) (by exact O_Rule_words.fn) (by exact B.room.mono (by decide)) (by exact B.gd) (by exact b_Rule_words) (by exact xe_var 0)) (by exact xa_cons (by exact xe_prop "Book" "rows" (gf := (l1 f_Book_rows)) (by exact P_Book_rows) (by exact T.cls.cl "Book" (by decide)) (by exact O_Book_rows.fn) (by exact B.room.mono (by decide)) (by exact B.gd) (by exact b_Book_rows) (by exact xe_var 1)) (by exact xa_cons (by exact xe_var 2) (by exact xa_cons (by exact xe_var 3) xa_nil))))))))
theorem sc_does_beat : FnScope ["words", "rows", "one", "other", "word"] ["words", "rows", "one", "other"] (defScope s_does_beat) := ⟨rfl, rfl, rfl, by decide +kernel, rfl, by decide +kernel, by decide +kernel⟩
abbrev FP_does_beat (K : PySem.W.Frag) (fd : FuncData) : Prop := FunD K "does_beat" "does_beat" (defArgs s_does_beat) (defBody s_does_beat) (defScope s_does_beat) ([]) [] (He.ga K "does_beat") fd
theorem ok_does_beat (T : TextF P w K mg) (TB : TabsB base mg K tfL) : ∃ fd, FP_does_beat K fd ∧ Own P w K mg base 6 (He.ga K "does_beat") fd ["words", "rows", "one", "other"] (l4 f_does_beat) := by
  obtain ⟨fd, F⟩ := T.says.d.def_ 38 (d := d_does_beat) rfl
  have F : FP_does_beat K fd := F
  obtain ⟨fd_parting_word, F_parting_word, O_parting_word⟩ := ok_parting_word (P := P) (w := w) (base := base) T TB
  have b_parting_word : Binds K fd_parting_word ["words", "rows", "one", "other"] [] := F_parting_word.bindsN fun _ _ _ _ _ _ us hl => match us, hl with | [_, _, _, _], _ => rfl
  obtain ⟨fd_puts_ahead, F_puts_ahead, O_puts_ahead⟩ := ok_puts_ahead (P := P) (w := w) (base := base) T TB
  have b_puts_ahead : Binds K fd_puts_ahead ["word", "rows", "one", "other"] [] := F_puts_ahead.bindsN fun _ _ _ _ _ _ us hl => match us, hl with | [_, _, _, _], _ => rfl
  refine ⟨fd, F, fnX_of (k := 5) (gf := (l4 f_does_beat)) F sc_does_beat (fun cdv A fr s H E B ds hl => ?_), F.kp⟩
  match ds, hl with | [words, rows, one, other], _ => exact (by exact xs_set 4 (by exact sc_does_beat.nd) (by rfl) (by first | exact .inl rfl | exact .inr rfl) (by exact xe_call (x := "parting_word") (ps := ["words", "rows", "one", "other"]) (gf := (l4 f_parting_word)) (dds := []) (by exact O_parting_word.fn) (by exact B.room.mono (by decide)) (by exact B.gd) (by exact B.tk) (by rfl) (by exact T.g_parting_word) (by exact O_parting_word.kp) (by exact b_parting_word) (by exact .nil) (by exact fun _ _ => DenL.nil) (by exact xa_cons (by exact xe_var 0) (by exact xa_cons (by exact xe_var 1) (by exact xa_cons (by exact xe_var 2) (by exact xa_cons (by exact xe_var 3) xa_nil))))) (by intro word; exact (by exact xs_retB (by exact xe_and (by exact xe_isnot (by exact xe_var 4) (by exact xe_non)) (by exact xe_one (by exact xe_call (x := "puts_ahead") (ps := ["word", "rows", "one", "other"]) (gf := (l4 f_puts_ahead)) (dds := []) (by exact O_puts_ahead.fn) (by exact B.room.mono (by decide)) (by exact B.gd) (by exact B.tk) (by rfl) (by exact T.g_puts_ahead) (by exact O_puts_ahead.kp) (by exact b_puts_ahead) (by exact .nil) (by exact fun _ _ => DenL.nil) (by exact xa_cons (by exact xe_var 4) (by exact xa_cons (by exact xe_var 1) (by exact xa_cons (by exact xe_var 2) (by exact xa_cons (by exact xe_var 3) xa_nil))))))))))
theorem sc_beats : FnScope ["rule", "book", "one", "other"] ["rule", "book", "one", "other"] (defScope s_beats) := ⟨rfl, rfl, rfl, by decide +kernel, rfl, by decide +kernel, by decide +kernel⟩
abbrev FP_beats (K : PySem.W.Frag) (fd : FuncData) : Prop := FunD K "beats" "beats" (defArgs s_beats) (defBody s_beats) (defScope s_beats) ([]) [] (He.ga K "beats") fd
theorem ok_beats (T : TextF P w K mg) (TB : TabsB base mg K tfL) : ∃ fd, FP_beats K fd ∧ Own P w K mg base 7 (He.ga K "beats") fd ["rule", "book", "one", "other"] (l4 f_beats) := by
  obtain ⟨fd, F⟩ := T.says.d.def_ 39 (d := d_beats) rfl
  have F : FP_beats K fd := F
  obtain ⟨fd_need_rule, F_need_rule, O_need_rule⟩ := ok_need_rule (P := P) (w := w) (base := base) T TB
  have b_need_rule : Binds K fd_need_rule ["rule"] [] := F_need_rule.bindsN fun _ _ _ _ _ _ us hl => match us, hl with | [_], _ => rfl
  obtain ⟨fd_need_two, F_need_two, O_need_two⟩ := ok_need_two (P := P) (w := w) (base := base) T TB
  have b_need_two : Binds K fd_need_two ["book", "one", "other"] [] := F_need_two.bindsN fun _ _ _ _ _ _ us hl => match us, hl with | [_, _, _], _ => rfl
  obtain ⟨fd_does_beat, F_does_beat, O_does_beat⟩ := ok_does_beat (P := P) (w := w) (base := base) T TB
  have b_does_beat : Binds K fd_does_beat ["words", "rows", "one", "other"] [] := F_does_beat.bindsN fun _ _ _ _ _ _ us hl => match us, hl with | [_, _, _, _], _ => rfl
  have P_Rule_words := (T.says.prop_ 3 rfl).1
  obtain ⟨fd_Rule_words, F_Rule_words, O_Rule_words⟩ := ok_Rule_words (P := P) (w := w) (base := base) T TB
  have b_Rule_words : Binds K fd_Rule_words ["self"] [] := F_Rule_words.bindsN fun _ _ _ _ _ _ us hl => match us, hl with | [_], _ => rfl
  have P_Book_rows := (T.says.prop_ 4 rfl).1
  obtain ⟨fd_Book_rows, F_Book_rows, O_Book_rows⟩ := ok_Book_rows (P := P) (w := w) (base := base) T TB
  have b_Book_rows : Binds K fd_Book_rows ["self"] [] := F_Book_rows.bindsN fun _ _ _ _ _ _ us hl => match us, hl with | [_], _ => rfl
  refine ⟨fd, F, fnX_of (k := 6) (gf := (l4 f_beats)) F sc_beats (fun cdv A fr s H E B ds hl => ?_), F.kp⟩
  match ds, hl with | [rule, book, one, other], _ => exact (by exact xs_expr (by exact xe_call (x := "need_rule") (ps := ["rule"]) (gf := (l1 f_need_rule)) (dds := []) (by exact O_need_rule.fn) (by exact B.room.mono (by decide)) (by exact B.gd) (by exact B.tk) (by rfl) (by exact T.g_need_rule) (by exact O_need_rule.kp) (by exact b_need_rule) (by exact .nil) (by exact fun _ _ => DenL.nil) (by exact xa_cons (by exact xe_var 0) xa_nil)) (by exact xs_expr (by exact xe_call (x := "need_two") (ps := ["book", "one", "other"]) (gf := (l3 f_need_two)) (dds := []) (by exact O_need_two.fn) (by exact B.room.mono (by decide)) (by exact B.gd) (by exact B.tk) (by rfl) (by exact T.g_need_two) (by exact O_need_two.kp) (by exact b_need_two) (by exact .nil) (by exact fun _ _ => DenL.nil) (by exact xa_cons (by exact xe_var 1) (by exact xa_cons (by exact xe_var 2) (by exact xa_cons (by exact xe_var 3) xa_nil)))) (by exact xs_retB (by exact xe_call (x := "does_beat") (ps := ["words", "rows", "one", "other"]) (gf := (l4 f_does_beat)) (dds := []) (by exact O_does_beat.fn) (by exact B.room.mono (by decide)) (by exact B.gd) (by exact B.tk) (by rfl) (by exact T.g_does_beat) (by exact O_does_beat.kp) (by exact b_does_beat) (by exact .nil) (by exact fun _ _ => DenL.nil) (by exact xa_cons (by exact xe_prop "Rule" "words" (gf := (l1 f_Rule_words)) (by exact P_Rule_words) (by exact T.cls.cl "Rule" (by decide)) (by exact O_Rule_words.fn) (by exact B.room.mono (by decide)) (by exact B.gd) (by exact b_Rule_words) (by exact xe_var 0)) (by exact xa_cons (by exact xe_prop "Book" "rows" (gf := (l1 f_Book_rows)) (by exact P_Book_rows) (by exact T.cls.cl "Book" (by decide)) (by exact O_Book_rows.fn) (by exact B.room.mono (by decide)) (by exact B.gd) (by exact b_Book_rows) (by exact xe_var 1)) (by exact xa_cons (by exact xe_var 2) (by exact xa_cons (by exact xe_var 3) xa_nil))))))))
theorem sc_ahead : FnScope ["word", "book", "one", "other"] ["word", "book", "one", "other"] (defScope s_ahead) := ⟨rfl, rfl, rfl, by decide +kernel, rfl, by decide +kernel, by decide +kernel⟩
abbrev FP_ahead (K : PySem.W.Frag) (fd : FuncData) : Prop := FunD K "ahead" "ahead" (defArgs s_ahead) (defBody s_ahead) (defScope s_ahead) ([]) [] (He.ga K "ahead") fd
theorem ok_ahead (T : TextF P w K mg) (TB : TabsB base mg K tfL) : ∃ fd, FP_ahead K fd ∧ Own P w K mg base 5 (He.ga K "ahead") fd ["word", "book", "one", "other"] (l4 f_ahead) := by
  obtain ⟨fd, F⟩ := T.says.d.def_ 40 (d := d_ahead) rfl
  have F : FP_ahead K fd := F
  obtain ⟨fd_is_word, F_is_word, O_is_word⟩ := ok_is_word (P := P) (w := w) (base := base) T TB
  have b_is_word : Binds K fd_is_word ["thing"] [] := F_is_word.bindsN fun _ _ _ _ _ _ us hl => match us, hl with | [_], _ => rfl
  obtain ⟨fd_need_two, F_need_two, O_need_two⟩ := ok_need_two (P := P) (w := w) (base := base) T TB
  have b_need_two : Binds K fd_need_two ["book", "one", "other"] [] := F_need_two.bindsN fun _ _ _ _ _ _ us hl => match us, hl with | [_, _, _], _ => rfl
  obtain ⟨fd_puts_ahead, F_puts_ahead, O_puts_ahead⟩ := ok_puts_ahead (P := P) (w := w) (base := base) T TB
  have b_puts_ahead : Binds K fd_puts_ahead ["word", "rows", "one", "other"] [] := F_puts_ahead.bindsN fun _ _ _ _ _ _ us hl => match us, hl with | [_, _, _, _], _ => rfl
  have P_Book_rows := (T.says.prop_ 4 rfl).1
  obtain ⟨fd_Book_rows, F_Book_rows, O_Book_rows⟩ := ok_Book_rows (P := P) (w := w) (base := base) T TB
  have b_Book_rows : Binds K fd_Book_rows ["self"] [] := F_Book_rows.bindsN fun _ _ _ _ _ _ us hl => match us, hl with | [_], _ => rfl
  refine ⟨fd, F, fnX_of (k := 4) (gf := (l4 f_ahead)) F sc_ahead (fun cdv A fr s H E B ds hl => ?_), F.kp⟩
  match ds, hl with | [word, book, one, other], _ => exact (by exact xs_if1 (by exact xt_not (by exact xt_val (by exact xe_call (x := "is_word") (ps := ["thing"]) (gf := (l1 f_is_word)) (dds := []) (by exact O_is_word.fn) (by exact B.room.mono (by decide)) (by exact B.gd) (by exact B.tk) (by rfl) (by exact T.g_is_word) (by exact O_is_word.kp) (by exact b_is_word) (by exact .nil) (by exact fun _ _ => DenL.nil) (by exact xa_cons (by exact xe_var 0) xa_nil)))) (by exact xs_stuck) (by exact xs_expr (by exact xe_call (x := "need_two") (ps := ["book", "one", "other"]) (gf := (l3 f_need_two)) (dds := []) (by exact O_need_two.fn) (by exact B.room.mono (by decide)) (by exact B.gd) (by exact B.tk) (by rfl) (by exact T.g_need_two) (by exact O_need_two.kp) (by exact b_need_two) (by exact .nil) (by exact fun _ _ => DenL.nil) (by exact xa_cons (by exact xe_var 1) (by exact xa_cons (by exact xe_var 2) (by exact xa_cons (by exact xe_var 3) xa_nil)))) (by exact xs_retB (by exact xe_call (x := "puts_ahead") (ps := ["word", "rows", "one", "other"]) (gf := (l4 f_puts_ahead)) (dds := []) (by exact O_puts_ahead.fn) (by exact B.room.mono (by decide)) (by exact B.gd) (by exact B.tk) (by rfl) (by exact T.g_puts_ahead) (by exact O_puts_ahead.kp) (by exact b_puts_ahead) (by exact .nil) (by exact fun _ _ => DenL.nil) (by exact xa_cons (by exact xe_var 0) (by exact xa_cons (by exact xe_prop "Book" "rows" (gf := (l1 f_Book_rows)) (by exact P_Book_rows) (by exact T.cls.cl "Book" (by decide)) (by exact O_Book_rows.fn) (by exact B.room.mono (by decide)) (by exact B.gd) (by exact b_Book_rows) (by exact xe_var 1)) (by exact xa_cons (by exact xe_var 2) (by exact xa_cons (by exact xe_var 3) xa_nil))))))))
theorem sc_law : FnScope ["_law_script", "_law_state", "_law_turn", "_law_wording_here", "_law_cards_here", "_law_sort", "_law_made", "_law_many", "_law_against", "_law_about", "_law_back", "_law_first", "_law_second", "_law_found", "_law_does", "_law_single"] ["_law_script"] (defScope s_law) := ⟨rfl, rfl, rfl, by decide +kernel, rfl, by decide +kernel, by decide +kernel⟩
abbrev FP_law (K : PySem.W.Frag) (fd : FuncData) : Prop := FunD K "law" "law" (defArgs s_law) (defBody s_law) (defScope s_law) ([]) [] (He.ga K "law") fd
theorem ok_law (T : TextF P w K mg) (TB : TabsB base mg K tfL) : ∃ fd, FP_law K fd ∧ Own P w K mg base 8 (He.ga K "law") fd ["_law_script"] (l1 f_law) := by
  obtain ⟨fd, F⟩ := T.says.d.def_ 41 (d := d_law) rfl
  have F : FP_law K fd := F
  obtain ⟨fd_law_begun, F_law_begun, O_law_begun⟩ := ok_law_begun (P := P) (w := w) (base := base) T TB
  have b_law_begun : Binds K fd_law_begun ["_law_script"] [] := F_law_begun.bindsN fun _ _ _ _ _ _ us hl => match us, hl with | [_], _ => rfl
  obtain ⟨fd_law_wording, F_law_wording, O_law_wording⟩ := ok_law_wording (P := P) (w := w) (base := base) T TB
  have b_law_wording : Binds K fd_law_wording ["_law_state", "_law_most"] [] := F_law_wording.bindsN fun _ _ _ _ _ _ us hl => match us, hl with | [_, _], _ => rfl
  obtain ⟨fd_law_cards, F_law_cards, O_law_cards⟩ := ok_law_cards (P := P) (w := w) (base := base) T TB
  have b_law_cards : Binds K fd_law_cards ["_law_state", "_law_many", "_law_top"] [] := F_law_cards.bindsN fun _ _ _ _ _ _ us hl => match us, hl with | [_, _, _], _ => rfl
  obtain ⟨fd_law_draw, F_law_draw, O_law_draw⟩ := ok_law_draw (P := P) (w := w) (base := base) T TB
  have b_law_draw : Binds K fd_law_draw ["_law_state", "_law_size"] [] := F_law_draw.bindsN fun _ _ _ _ _ _ us hl => match us, hl with | [_, _], _ => rfl
  obtain ⟨fd_Rule_init, F_Rule_init, O_Rule_init⟩ := ok_Rule_init (P := P) (w := w) (base := base) T TB
  obtain ⟨fd_law_book, F_law_book, O_law_book⟩ := ok_law_book (P := P) (w := w) (base := base) T TB
  have b_law_book : Binds K fd_law_book ["_law_cards_here"] [] := F_law_book.bindsN fun _ _ _ _ _ _ us hl => match us, hl with | [_], _ => rfl
  obtain ⟨fd_law_contrary, F_law_contrary, O_law_contrary⟩ := ok_law_contrary (P := P) (w := w) (base := base) T TB
  have b_law_contrary : Binds K fd_law_contrary ["_law_single"] [] := F_law_contrary.bindsN fun _ _ _ _ _ _ us hl => match us, hl with | [_], _ => rfl
  obtain ⟨fd_law_turned, F_law_turned, O_law_turned⟩ := ok_law_turned (P := P) (w := w) (base := base) T TB
  have b_law_turned : Binds K fd_law_turned ["_law_single"] [] := F_law_turned.bindsN fun _ _ _ _ _ _ us hl => match us, hl with | [_], _ => rfl
  obtain ⟨fd_parts, F_parts, O_parts⟩ := ok_parts (P := P) (w := w) (base := base) T TB
  have b_parts : Binds K fd_parts ["rule", "book", "one", "other"] [] := F_parts.bindsN fun _ _ _ _ _ _ us hl => match us, hl with | [_, _, _, _], _ => rfl
  obtain ⟨fd_beats, F_beats, O_beats⟩ := ok_beats (P := P) (w := w) (base := base) T TB
  have b_beats : Binds K fd_beats ["rule", "book", "one", "other"] [] := F_beats.bindsN fun _ _ _ _ _ _ us hl => match us, hl with | [_, _, _, _], _ => rfl
  obtain ⟨fd_ahead, F_ahead, O_ahead⟩ := ok_ahead (P := P) (w := w) (base := base) T TB
  have b_ahead : Binds K fd_ahead ["word", "book", "one", "other"] [] := F_ahead.bindsN fun _ _ _ _ _ _ us hl => match us, hl with | [_, _, _, _], _ => rfl
  obtain ⟨ds_Rule_2, mv_Rule_2, mb_Rule_2⟩ := F_Rule_init.binds1 (ps := ["self", "words"]) 2 1 (by intro h; cases h) rfl fun _ _ _ _ _ _ _ us its h1 h2 => match us, h1, its, h2 with | [_, _], _, [_], _ => ⟨_, rfl, rfl⟩
  have md_Rule_2 : ∀ q G, DenL K q G [] ((d_Rule_init.dvs K).drop 1) := fun q G => DenL.nil
  refine ⟨fd, F, fnX_of (k := 7) (gf := (l1 f_law)) F sc_law (fun cdv A fr s H E B ds hl => ?_), F.kp⟩
  match ds, hl with | [script], _ => exact (by exact xs_set 1 (by exact sc_law.nd) (by rfl) (by first | exact .inl rfl | exact .inr rfl) (by exact xe_call (x := "_law_begun") (ps := ["_law_script"]) (gf := begunD) (dds := []) (by exact O_law_begun.fn) (by exact B.room.mono (by decide)) (by exact B.gd) (by exact B.tk) (by rfl) (by exact T.g_law_begun) (by exact O_law_begun.kp) (by exact b_law_begun) (by exact .nil) (by exact fun _ _ => DenL.nil) (by exact xa_cons (by exact xe_var 0) xa_nil)) (by intro state; exact (by exact xs_thenS (e := (fun yy : Unit => ([some (.val script), some (.val state), none, none, none, none, none, none, none, none, none, none, none, none, none, none] : DSt))) (by exact xs_forS (T := (.nm 2)) (f := (f_law_b3 state)) (fun yy : Unit => ([some (.val script), some (.val state), none, none, none, none, none, none, none, none, none, none, none, none, none, none] : DSt)) () (by exact B.po) (by exact B.calm) (by exact xi_range1 (by rfl) (by exact T.n_range) (by exact xe_add (by exact xe_int) (by exact xe_min (by exact B.calm) (by rfl) (by exact T.n_min) (by exact xa_cons (by exact xe_len (by rfl) (by exact T.n_len) (by exact xa_cons (by exact xe_var 0) xa_nil)) (by exact xa_cons (by exact xe_int) xa_nil))))) (by exact pg_name (by exact sc_law.nd) (by rfl) (by first | exact .inl rfl | exact .inr rfl)) (by exact ⟨.inr rfl, .inr rfl, .inl rfl, .inl rfl, .inl rfl, .inl rfl, .inl rfl, .inl rfl, .inl rfl, .inl rfl, .inl rfl, .inl rfl, .inl rfl, .inl rfl, .inl rfl, .inl rfl, trivial⟩) (by intro y; exact none1 (by rfl)) (by intro y; exact tgt1 (by intro turn; exact (by exact xs_par_vv 3 4 (by exact B.calm) (by exact sc_law.nd) (by rfl) (by rfl) (by decide) (by rfl) (by rfl) (by exact xe_call (x := "_law_wording") (ps := ["_law_state", "_law_most"]) (gf := (l2 f_law_wording)) (dds := []) (by exact O_law_wording.fn) (by exact B.room.mono (by decide)) (by exact B.gd) (by exact B.tk) (by rfl) (by exact T.g_law_wording) (by exact O_law_wording.kp) (by exact b_law_wording) (by exact .nil) (by exact fun _ _ => DenL.nil) (by exact xa_cons (by exact xe_var 1) (by exact xa_cons (by exact xe_int) xa_nil))) (by exact xe_call (x := "_law_cards") (ps := ["_law_state", "_law_many", "_law_top"]) (gf := (l3 f_law_cards)) (dds := []) (by exact O_law_cards.fn) (by exact B.room.mono (by decide)) (by exact B.gd) (by exact B.tk) (by rfl) (by exact T.g_law_cards) (by exact O_law_cards.kp) (by exact b_law_cards) (by exact .nil) (by exact fun _ _ => DenL.nil) (by exact xa_cons (by exact xe_var 1) (by exact xa_cons (by exact xe_add (by exact xe_int) (by exact xe_call (x := "_law_draw") (ps := ["_law_state", "_law_size"]) (gf := drawM) (dds := []) (by exact O_law_draw.fn) (by exact B.room.mono (by decide)) (by exact B.gd) (by exact B.tk) (by rfl) (by exact T.g_law_draw) (by exact O_law_draw.kp) (by exact b_law_draw) (by exact .nil) (by exact fun _ _ => DenL.nil) (by exact xa_cons (by exact xe_var 1) (by exact xa_cons (by exact xe_int) xa_nil)))) (by exact xa_cons (by exact xe_int) xa_nil)))) (by intro wording_here cards_here; exact (by exact xs_par_vvv 5 6 7 (by exact B.calm) (by exact sc_law.nd) (by rfl) (by rfl) (by rfl) (by decide) (by decide) (by decide) (by rfl) (by rfl) (by rfl) (by exact xe_make "Rule" (ps := ["self", "words"]) (gf := (l1 f_Rule_init)) (dds := []) (by exact T.mk_Rule) (by exact O_Rule_init.fn) (by exact O_Rule_init.mkc) (by exact B.room.mono (by decide)) (by exact B.gd) (by exact B.tk) (by rfl) (by exact T.g_Rule) (by exact mb_Rule_2) (by exact mv_Rule_2) (by exact md_Rule_2) (by exact xa_cons (by exact xe_var 3) xa_nil)) (by exact xe_call (x := "_law_book") (ps := ["_law_cards_here"]) (gf := (l1 f_law_book)) (dds := []) (by exact O_law_book.fn) (by exact B.room.mono (by decide)) (by exact B.gd) (by exact B.tk) (by rfl) (by exact T.g_law_book) (by exact O_law_book.kp) (by exact b_law_book) (by exact .nil) (by exact fun _ _ => DenL.nil) (by exact xa_cons (by exact xe_var 4) xa_nil)) (by exact xe_len (by rfl) (by exact T.n_len) (by exact xa_cons (by exact xe_var 4) xa_nil)) (by intro sort made many; exact (by exact XS.cast (g' := [some (.val script), some (.val state), some (.val turn), some (.val wording_here), some (.val cards_here), some (.val sort), some (.val made), some (.val many), none, none, none, none, none, none, none, none]) (by rfl) (by exact xs_set 8 (by exact sc_law.nd) (by rfl) (by first | exact .inl rfl | exact .inr rfl) (by exact xe_make "Rule" (ps := ["self", "words"]) (gf := (l1 f_Rule_init)) (dds := []) (by exact T.mk_Rule) (by exact O_Rule_init.fn) (by exact O_Rule_init.mkc) (by exact B.room.mono (by decide)) (by exact B.gd) (by exact B.tk) (by rfl) (by exact T.g_Rule) (by exact mb_Rule_2) (by exact mv_Rule_2) (by exact md_Rule_2) (by exact xa_cons (by exact XF.xe (by exact xf_lc (T := (.nm 15)) (by exact B.calm) (by exact sc_law.nd) (by exact xi_any (by exact xe_var 3)) (blkOk_by (own := [("_law_single", 15)]) (by first | decide +kernel | kernel_rfl)) (by intro _ _ _ _ _; exact (by exact pg_name (by exact sc_law.nd) (by rfl) (by first | exact .inl rfl | exact .inr rfl))) (by exact none1 (by rfl)) (by intro _ _ _ _ _; exact tgt1 (by intro single; exact xts_yes)) (by intro _ _ _ _ _; exact tgt1 (by intro single; exact (by exact xe_call (x := "_law_contrary") (ps := ["_law_single"]) (gf := (l1 f_law_contrary)) (dds := []) (by exact O_law_contrary.fn) (by exact B.room.mono (by decide)) (by exact B.gd) (by exact takes0) (by rfl) (by exact T.g_law_contrary) (by exact O_law_contrary.kp) (by exact b_law_contrary) (by exact .nil) (by exact fun _ _ => DenL.nil) (by exact xa_cons (by exact xe_var 15) xa_nil)))) (by decide))) xa_nil)) (by intro against; exact (by exact xs_set 9 (by exact sc_law.nd) (by rfl) (by first | exact .inl rfl | exact .inr rfl) (by exact xe_make "Rule" (ps := ["self", "words"]) (gf := (l1 f_Rule_init)) (dds := []) (by exact T.mk_Rule) (by exact O_Rule_init.fn) (by exact O_Rule_init.mkc) (by exact B.room.mono (by decide)) (by exact B.gd) (by exact B.tk) (by rfl) (by exact T.g_Rule) (by exact mb_Rule_2) (by exact mv_Rule_2) (by exact md_Rule_2) (by exact xa_cons (by exact XF.xe (by exact xf_lc (T := (.nm 15)) (by exact B.calm) (by exact sc_law.nd) (by exact xi_any (by exact xe_var 3)) (blkOk_by (own := [("_law_single", 15)]) (by first | decide +kernel | kernel_rfl)) (by intro _ _ _ _ _; exact (by exact pg_name (by exact sc_law.nd) (by rfl) (by first | exact .inl rfl | exact .inr rfl))) (by exact none1 (by rfl)) (by intro _ _ _ _ _; exact tgt1 (by intro single_1; exact xts_yes)) (by intro _ _ _ _ _; exact tgt1 (by intro single_1; exact (by exact xe_call (x := "_law_turned") (ps := ["_law_single"]) (gf := (l1 f_law_turned)) (dds := []) (by exact O_law_turned.fn) (by exact B.room.mono (by decide)) (by exact B.gd) (by exact takes0) (by rfl) (by exact T.g_law_turned) (by exact O_law_turned.kp) (by exact b_law_turned) (by exact .nil) (by exact fun _ _ => DenL.nil) (by exact xa_cons (by exact xe_var 15) xa_nil)))) (by decide))) xa_nil)) (by intro about; exact (by exact xs_set 10 (by exact sc_law.nd) (by rfl) (by first | exact .inl rfl | exact .inr rfl) (by exact xe_call (x := "_law_book") (ps := ["_law_cards_here"]) (gf := (l1 f_law_book)) (dds := []) (by exact O_law_book.fn) (by exact B.room.mono (by decide)) (by exact B.gd) (by exact B.tk) (by rfl) (by exact T.g_law_book) (by exact O_law_book.kp) (by exact b_law_book) (by exact .nil) (by exact fun _ _ => DenL.nil) (by exact xa_cons (by exact XF.xe (by exact xf_rev (by exact xe_var 4))) xa_nil)) (by intro back; exact (by exact xs_thenS (e := (fun yy : Unit => ([some (.val script), some (.val state), none, none, none, some (.val sort), some (.val made), some (.val many), some (.val against), some (.val about), some (.val back), none, none, none, none, none] : DSt))) (by exact xs_forS (T := (.nm 11)) (f := (f_law_b2 sort made many against about back)) (fun yy : Unit => ([some (.val script), some (.val state), none, none, none, some (.val sort), some (.val made), some (.val many), some (.val against), some (.val about), some (.val back), none, none, none, none, none] : DSt)) () (by exact B.po) (by exact B.calm) (by exact xi_range1 (by rfl) (by exact T.n_range) (by exact xe_var 7)) (by exact pg_name (by exact sc_law.nd) (by rfl) (by first | exact .inl rfl | exact .inr rfl)) (by exact ⟨.inr rfl, .inr rfl, .inl rfl, .inl rfl, .inl rfl, .inr rfl, .inr rfl, .inr rfl, .inr rfl, .inr rfl, .inr rfl, .inl rfl, .inl rfl, .inl rfl, .inl rfl, .inl rfl, trivial⟩) (by intro y_1; exact none1 (by rfl)) (by intro y_1; exact tgt1 (by intro first; exact (by exact xs_thenS (e := (fun yy : Unit => ([some (.val script), some (.val state), none, none, none, some (.val sort), some (.val made), some (.val many), some (.val against), some (.val about), some (.val back), some (.val first), none, none, none, none] : DSt))) (by exact xs_forS (T := (.nm 12)) (f := (f_law_b1 sort made many against about back first)) (fun yy : Unit => ([some (.val script), some (.val state), none, none, none, some (.val sort), some (.val made), some (.val many), some (.val against), some (.val about), some (.val back), some (.val first), none, none, none, none] : DSt)) () (by exact B.po) (by exact B.calm) (by exact xi_range1 (by rfl) (by exact T.n_range) (by exact xe_var 7)) (by exact pg_name (by exact sc_law.nd) (by rfl) (by first | exact .inl rfl | exact .inr rfl)) (by exact ⟨.inr rfl, .inr rfl, .inl rfl, .inl rfl, .inl rfl, .inr rfl, .inr rfl, .inr rfl, .inr rfl, .inr rfl, .inr rfl, .inr rfl, .inl rfl, .inl rfl, .inl rfl, .inl rfl, trivial⟩) (by intro y_2; exact none1 (by rfl)) (by intro y_2; exact tgt1 (by intro second; exact (by exact xs_par_vv 13 14 (by exact B.calm) (by exact sc_law.nd) (by rfl) (by rfl) (by decide) (by rfl) (by rfl) (by exact xe_call (x := "parts") (ps := ["rule", "book", "one", "other"]) (gf := (l4 f_parts)) (dds := []) (by exact O_parts.fn) (by exact B.room.mono (by decide)) (by exact B.gd) (by exact B.tk) (by rfl) (by exact T.g_parts) (by exact O_parts.kp) (by exact b_parts) (by exact .nil) (by exact fun _ _ => DenL.nil) (by exact xa_cons (by exact xe_var 5) (by exact xa_cons (by exact xe_var 6) (by exact xa_cons (by exact xe_var 11) (by exact xa_cons (by exact xe_var 12) xa_nil))))) (by exact xe_call (x := "beats") (ps := ["rule", "book", "one", "other"]) (gf := (l4 f_beats)) (dds := []) (by exact O_beats.fn) (by exact B.room.mono (by decide)) (by exact B.gd) (by exact B.tk) (by rfl) (by exact T.g_beats) (by exact O_beats.kp) (by exact b_beats) (by exact .nil) (by exact fun _ _ => DenL.nil) (by exact xa_cons (by exact xe_var 5) (by exact xa_cons (by exact xe_var 6) (by exact xa_cons (by exact xe_var 11) (by exact xa_cons (by exact xe_var 12) xa_nil))))) (by intro found does; exact (by exact xs_if1 (by exact xt_ne (by exact B.room.units) (by exact xe_isnot (by exact xe_var 13) (by exact xe_non)) (by exact xe_or (by exact xe_var 14) (by exact xe_one (by exact xe_call (x := "beats") (ps := ["rule", "book", "one", "other"]) (gf := (l4 f_beats)) (dds := []) (by exact O_beats.fn) (by exact B.room.mono (by decide)) (by exact B.gd) (by exact B.tk) (by rfl) (by exact T.g_beats) (by exact O_beats.kp) (by exact b_beats) (by exact .nil) (by exact fun _ _ => DenL.nil) (by exact xa_cons (by exact xe_var 5) (by exact xa_cons (by exact xe_var 6) (by exact xa_cons (by exact xe_var 12) (by exact xa_cons (by exact xe_var 11) xa_nil)))))))) (by exact xs_ret (r := Sum.inl) (by exact xe_bl) (by exact fun d => ⟨rfl, .inl ⟨d, rfl⟩⟩)) (by exact xs_if1 (by exact XW.xt (by exact xw_or (by exact XW.xt (by exact xw_and (by exact xt_val (by exact xe_var 14)) (by exact xw_and1 (by exact xt_val (by exact xe_call (x := "beats") (ps := ["rule", "book", "one", "other"]) (gf := (l4 f_beats)) (dds := []) (by exact O_beats.fn) (by exact B.room.mono (by decide)) (by exact B.gd) (by exact B.tk) (by rfl) (by exact T.g_beats) (by exact O_beats.kp) (by exact b_beats) (by exact .nil) (by exact fun _ _ => DenL.nil) (by exact xa_cons (by exact xe_var 5) (by exact xa_cons (by exact xe_var 6) (by exact xa_cons (by exact xe_var 12) (by exact xa_cons (by exact xe_var 11) xa_nil))))))))) (by exact xw_or1 (by exact XW.xt (by exact xw_and (by exact xt_eq (by exact B.room.units) (by exact xe_var 11) (by exact xe_var 12)) (by exact xw_and1 (by exact xt_isnot (by exact xe_var 13) (by exact xe_non)))))))) (by exact xs_ret (r := Sum.inl) (by exact xe_bl) (by exact fun d => ⟨rfl, .inl ⟨d, rfl⟩⟩)) (by exact xs_if1 (by exact XW.xt (by exact xw_and (by exact xt_isnot (by exact xe_var 13) (by exact xe_non)) (by exact xw_and1 (by exact xt_ne (by exact B.room.units) (by exact xe_var 14) (by exact xe_call (x := "ahead") (ps := ["word", "book", "one", "other"]) (gf := (l4 f_ahead)) (dds := []) (by exact O_ahead.fn) (by exact B.room.mono (by decide)) (by exact B.gd) (by exact B.tk) (by rfl) (by exact T.g_ahead) (by exact O_ahead.kp) (by exact b_ahead) (by exact .nil) (by exact fun _ _ => DenL.nil) (by exact xa_cons (by exact xe_var 13) (by exact xa_cons (by exact xe_var 6) (by exact xa_cons (by exact xe_var 11) (by exact xa_cons (by exact xe_var 12) xa_nil))))))))) (by exact xs_ret (r := Sum.inl) (by exact xe_bl) (by exact fun d => ⟨rfl, .inl ⟨d, rfl⟩⟩)) (by exact xs_if1 (by exact XW.xt (by exact xw_and (by exact xt_isnot (by exact xe_var 13) (by exact xe_non)) (by exact xw_and1 (by exact xt_ne (by exact B.room.units) (by exact xe_call (x := "parts") (ps := ["rule", "book", "one", "other"]) (gf := (l4 f_parts)) (dds := []) (by exact O_parts.fn) (by exact B.room.mono (by decide)) (by exact B.gd) (by exact B.tk) (by rfl) (by exact T.g_parts) (by exact O_parts.kp) (by exact b_parts) (by exact .nil) (by exact fun _ _ => DenL.nil) (by exact xa_cons (by exact xe_var 8) (by exact xa_cons (by exact xe_var 6) (by exact xa_cons (by exact xe_var 11) (by exact xa_cons (by exact xe_var 12) xa_nil))))) (by exact xe_call (x := "_law_contrary") (ps := ["_law_single"]) (gf := (l1 f_law_contrary)) (dds := []) (by exact O_law_contrary.fn) (by exact B.room.mono (by decide)) (by exact B.gd) (by exact B.tk) (by rfl) (by exact T.g_law_contrary) (by exact O_law_contrary.kp) (by exact b_law_contrary) (by exact .nil) (by exact fun _ _ => DenL.nil) (by exact xa_cons (by exact xe_var 13) xa_nil)))))) (by exact xs_ret (r := Sum.inl) (by exact xe_bl) (by exact fun d => ⟨rfl, .inl ⟨d, rfl⟩⟩)) (by exact xs_if1 (by exact xt_ne (by exact B.room.units) (by exact xe_call (x := "beats") (ps := ["rule", "book", "one", "other"]) (gf := (l4 f_beats)) (dds := []) (by exact O_beats.fn) (by exact B.room.mono (by decide)) (by exact B.gd) (by exact B.tk) (by rfl) (by exact T.g_beats) (by exact O_beats.kp) (by exact b_beats) (by exact .nil) (by exact fun _ _ => DenL.nil) (by exact xa_cons (by exact xe_var 8) (by exact xa_cons (by exact xe_var 6) (by exact xa_cons (by exact xe_var 12) (by exact xa_cons (by exact xe_var 11) xa_nil))))) (by exact xe_var 14)) (by exact xs_ret (r := Sum.inl) (by exact xe_bl) (by exact fun d => ⟨rfl, .inl ⟨d, rfl⟩⟩)) (by exact xs_last (by exact xs_if (by exact xt_ne (by exact B.room.units) (by exact xe_call (x := "beats") (ps := ["rule", "book", "one", "other"]) (gf := (l4 f_beats)) (dds := []) (by exact O_beats.fn) (by exact B.room.mono (by decide)) (by exact B.gd) (by exact B.tk) (by rfl) (by exact T.g_beats) (by exact O_beats.kp) (by exact b_beats) (by exact .nil) (by exact fun _ _ => DenL.nil) (by exact xa_cons (by exact xe_var 9) (by exact xa_cons (by exact xe_var 10) (by exact xa_cons (by exact xe_sub (by exact xe_sub (by exact xe_var 7) (by exact xe_int)) (by exact xe_var 11)) (by exact xa_cons (by exact xe_sub (by exact xe_sub (by exact xe_var 7) (by exact xe_int)) (by exact xe_var 12)) xa_nil))))) (by exact xe_var 14)) (by exact xs_ret (r := Sum.inl) (by exact xe_bl) (by exact fun _ => rfl)) (by exact xs_nil (a := Sum.inr ()) (by exact ⟨_, rfl, ⟨.inr rfl, .inr rfl, .inl rfl, .inl rfl, .inl rfl, .inr rfl, .inr rfl, .inr rfl, .inr rfl, .inr rfl, .inr rfl, .inr rfl, .inl rfl, .inl rfl, .inl rfl, .inl rfl, trivial⟩⟩)))))))))))))) (by exact fun _ => rfl) (by intro y_3; exact (by exact xs_nil (a := Sum.inr ()) (by exact ⟨_, rfl, ⟨.inr rfl, .inr rfl, .inl rfl, .inl rfl, .inl rfl, .inr rfl, .inr rfl, .inr rfl, .inr rfl, .inr rfl, .inr rfl, .inl rfl, .inl rfl, .inl rfl, .inl rfl, .inl rfl, trivial⟩⟩))))))) (by exact fun _ => rfl) (by intro y_4; exact (by exact xs_nil (a := Sum.inr ()) (by exact ⟨_, rfl, ⟨.inr rfl, .inr rfl, .inl rfl, .inl rfl, .inl rfl, .inl rfl, .inl rfl, .inl rfl, .inl rfl, .inl rfl, .inl rfl, .inl rfl, .inl rfl, .inl rfl, .inl rfl, .inl rfl, trivial⟩⟩)))))))))))))))))) (by exact fun _ => .inl rfl) (by intro y_5; exact (by exact xs_retB (by exact xe_bl))))))
instance : Pre := ⟨[], 0, rfl⟩
def lawIx : Nat := 41
def lawLevel : Nat := 8
end LW

namespace LW
open PySem PySem.Spec PyProof.Rows L2 RM
variable [PgW]
mutual
def fineD : D → Bool
  | .non => true
  | .bl _ => true
  | .int _ => true
  | .str x => decide (x.length ≤ 1000) && x.cps.toList.all fun c => decide (c < 128)
  | .tup xs => fineL xs
  | .lst xs => fineL xs
  | .dic _ _ => true
  | .ins c _ _ => decide (c ∈ clsL)
  | .mref _ => false
  | .scr _ => false
  | .xcp _ _ _ => false
  | .dct _ _ => false
def fineL : List D → Bool
  | [] => true
  | d :: ds => fineD d && fineL ds
end
theorem fineL_iff : ∀ {ds : List D}, fineL ds = true ↔ ∀ d ∈ ds, fineD d = true
  | [] => by simp [fineL]
  | d :: ds => by simp [fineL, fineL_iff (ds := ds)]
abbrev abc : Str := "abcdefghijklmnopqrstuvwxyz"
def nameS (x : Str) : Bool := decide (1 ≤ x.length) && decide (x.length ≤ 8) && x.cps.toList.all fun c => decide (c ∈ abc.cps.toList)
def nameB : D → Bool
  | .str x => nameS x
  | _ => false
def intB : D → Bool
  | .int _ => true
  | _ => false
def countB : D → Bool
  | .int i => decide (0 ≤ i)
  | _ => false
def stretchB : D → Bool
  | .tup [a, .non] => countB a
  | .tup [.int a, .int b] => decide (0 ≤ a) && decide (a ≤ b)
  | _ => false
theorem fine_str {x : Str} : fineD (.str x) = true ↔ x.length ≤ 1000 ∧ ∀ c ∈ x.cps.toList, c < 128 := by
  unfold fineD
  rw [Bool.and_eq_true, decide_eq_true_eq, List.all_eq_true]
  simp only [decide_eq_true_eq]
@[simp] theorem fine_int (i : Int) : fineD (.int i) = true := Eq.trans rfl rfl
@[simp] theorem fine_non : fineD .non = true := Eq.trans rfl rfl
@[simp] theorem fine_bl (b : Bool) : fineD (.bl b) = true := Eq.trans rfl rfl
theorem fine_ins {c : Str} {ns : List Str} {fs : List D} (h : fineD (.ins c ns fs) = true) : c ∈ clsL := of_decide_eq_true h
theorem number_eq {d : D} (h : fineD d = true) : f_is_number d = pure (.bl (intB d)) := by
  unfold f_is_number
  cases d <;> first | (cases h; done) | (simp [intB, isi_int_ins (fine_ins h), isi_bool_ins (fine_ins h)]; done) | simp [intB]
theorem day_eq {d : D} (h : fineD d = true) : f_is_day d = pure (.bl (countB d)) := by
  unfold f_is_day
  simp only [callB, argsB_cons, argsB_nil, B_pure, List.append_nil, l1_at, List.cons_append, List.nil_append, number_eq h]
  cases d <;> simp [intB, countB]
def signB : D → Bool
  | .str z => match z.cps.toList with
    | [c] => decide (c ∈ abc.cps.toList)
    | _ => false
  | _ => false
theorem in_abc (neg : Bool) (c : Nat) : inD neg (.str ⟨#[c]⟩) (.str abc) = pure (.bl (if neg then !signB (.str ⟨#[c]⟩) else signB (.str ⟨#[c]⟩))) := rfl
theorem signs_len (x : Str) : (RM.signs x).length = x.length := by unfold RM.signs; rw [List.length_map]; rfl
theorem toBools_map (f : D → Bool) : ∀ ds : List D, toBools (ds.map fun d => D.bl (f d)) = some (ds.map f)
  | [] => rfl
  | d :: ds => by
    show (toBools (ds.map fun d => D.bl (f d))).map (f d :: ·) = _
    rw [toBools_map f ds]; rfl
theorem signs_all (x : Str) : ((RM.signs x).map signB).all id = x.cps.toList.all fun c => decide (c ∈ abc.cps.toList) := by
  unfold RM.signs
  rw [List.map_map, List.all_map]
  rfl
theorem allD_map (f : D → Bool) (ds : List D) : allD [.lst (ds.map fun d => D.bl (f d))] = pure (.bl ((ds.map f).all id)) := by
  unfold allD
  dsimp only
  rw [toBools_map]
theorem name_eq {d : D} (h : fineD d = true) : f_is_name d = pure (.bl (nameB d)) := by
  unfold f_is_name
  cases d
  case str x =>
    have hx : x.length ≤ 1000 := (fine_str.mp h).1
    have hs : x.length ≤ sizeLine := size_big _ (by omega)
    have lcx : lc (fun sign => pure true) (fun sign => inD false sign (.str "abcdefghijklmnopqrstuvwxyz")) (RM.signs x) = pure ((RM.signs x).map fun d => D.bl (signB d)) := by
      refine lc_map _ (fun d hd => ?_) (by rw [signs_len]; exact hs)
      obtain ⟨c, _, rfl⟩ := List.mem_map.mp hd
      exact in_abc false c
    have sa := signs_all x
    by_cases q1 : x.length < 1
    · simp [lenD_str hs, nameB, nameS, show (x.length : Int) < 1 by omega, show ¬ 1 ≤ x.length by omega]
    · by_cases q2 : 8 < x.length
      · simp [lenD_str hs, nameB, nameS, show ¬ (x.length : Int) < 1 by omega, show (8 : Int) < x.length by omega, show ¬ x.length ≤ 8 by omega]
      · simp [lenD_str hs, nameB, nameS, show ¬ (x.length : Int) < 1 by omega, show ¬ (8 : Int) < x.length by omega, show x.length ≤ 8 by omega, show 1 ≤ x.length by omega, lcx, allD_map, -List.all_eq_true, -List.all_map]
        rw [sa]; simp
  case mref => cases h
  case scr => cases h
  case xcp => cases h
  case dct => cases h
  case ins c ns fs => simp [isi_str_ins (fine_ins h), nameB]
  all_goals simp [nameB]
theorem stretch_eq {d : D} (h : fineD d = true) : f_is_stretch d = pure (.bl (stretchB d)) := by
  unfold f_is_stretch
  cases d
  case tup xs =>
    have hf := fineL_iff.mp (show fineL xs = true from h)
    match xs, hf with
    | [a, b], hf =>
      have ha := hf a (by simp)
      have hb := hf b (by simp)
      simp only [isi_tuple_tup, lenD_tup, argsB_cons, argsB_nil, B_pure, callB, List.append_nil, List.cons_append, List.nil_append, l1_at, idx_tup0, idx_tup1, day_eq ha, number_eq hb]
      cases a
      case int i =>
        by_cases q : 0 ≤ i
        · cases b
          case mref => cases hb
          case scr => cases hb
          case xcp => cases hb
          case dct => cases hb
          case int j => by_cases q2 : i ≤ j <;> simp [stretchB, countB, intB, q, q2]
          all_goals simp [stretchB, countB, intB, q]
        · cases b <;> simp [stretchB, countB, intB, q]
      case mref => cases ha
      case scr => cases ha
      case xcp => cases ha
      case dct => cases ha
      all_goals (cases b <;> simp [countB, stretchB])
    | [], _ => simp [stretchB]
    | [_], _ => simp [stretchB]
    | _ :: _ :: _ :: l, _ =>
      have : ¬ ((l.length : Int) + 1 + 1 + 1 = 2) := by omega
      simp [stretchB, this]
  case mref => cases h
  case scr => cases h
  case xcp => cases h
  case dct => cases h
  case ins c ns fs => simp [isi_tuple_ins (fine_ins h), stretchB]
  all_goals simp [stretchB]
def sg (c : Nat) : Str := ⟨#[c]⟩
structure Span where
  a : Int
  b : Option Int
def optI : Option Int → D
  | none => .non
  | some i => .int i
def optS : Option Str → D
  | none => .non
  | some x => .str x
@[simp] theorem optI_none : optI none = .non := rfl
@[simp] theorem optI_some (i : Int) : optI (some i) = .int i := rfl
@[simp] theorem optS_none : optS none = .non := rfl
@[simp] theorem optS_some (x : Str) : optS (some x) = .str x := rfl
@[reducible] def Span.d (s : Span) : D := .tup [.int s.a, optI s.b]
@[simp] theorem Span.d_mk (a : Int) (b : Option Int) : Span.d ⟨a, b⟩ = .tup [.int a, optI b] := Eq.trans rfl rfl
structure Span.ok (s : Span) (m : Int) : Prop where
  lo : 0 ≤ s.a
  hi : s.a ≤ m
  up : ∀ b, s.b = some b → s.a ≤ b ∧ b ≤ m
theorem Span.ok.le {s : Span} {m k : Int} (h : s.ok m) (hk : m ≤ k) : s.ok k := ⟨h.lo, by have := h.hi; omega, fun b e => by have := h.up b e; omega⟩
def Nm (o : Option Str) : Prop := ∀ x, o = some x → nameS x = true
structure Frame where
  who : Option Str
  what : Option Str
  days : Span
  amts : Span
@[reducible] def Frame.l (f : Frame) : List D := [optS f.who, optS f.what, f.days.d, f.amts.d]
@[reducible] def Frame.d (f : Frame) : D := .tup f.l
structure Frame.ok (f : Frame) (m : Int) : Prop where
  w1 : Nm f.who
  w2 : Nm f.what
  d : f.days.ok m
  a : f.amts.ok m
theorem Frame.ok.le {f : Frame} {m k : Int} (h : f.ok m) (hk : m ≤ k) : f.ok k := ⟨h.w1, h.w2, h.d.le hk, h.a.le hk⟩
def PoolP (xs : List D) : Prop := 0 < xs.length ∧ xs.length < 1000 ∧ ∀ d ∈ xs, ∃ o, d = optS o ∧ Nm o
theorem name_lay {x : Str} (h : nameS x = true) : PyData.canLay0 (.str x) = true := by
  unfold nameS at h
  rw [Bool.and_eq_true, List.all_eq_true] at h
  show x.cps.all _ = true
  rw [← Array.all_toList, List.all_eq_true]
  intro c hc
  have : ∀ z ∈ abc.cps.toList, z < 1114112 := by decide +kernel
  exact decide_eq_true (this c (of_decide_eq_true (h.2 c hc)))
theorem optS_flat {o : Option Str} {n : Nat} (h : Nm o) : flatN n (optS o) = true := by
  cases o with
  | none => cases n <;> rfl
  | some x =>
    have := name_lay (h x rfl)
    cases n <;> exact this
theorem span_flat (s : Span) (n : Nat) : flatN (n + 1) s.d = true := by
  obtain ⟨a, b⟩ := s
  show ([D.int a, optI b].all (flatN n)) = true
  cases b <;> cases n <;> rfl
theorem frame_flat {f : Frame} {m : Int} (h : f.ok m) (n : Nat) : flatN (n + 2) f.d = true := by
  show (f.l.all (flatN (n + 1))) = true
  simp only [List.all_cons, List.all_nil, Bool.and_true, optS_flat h.w1, optS_flat h.w2, span_flat]
theorem abc_small : ∀ c ∈ abc.cps.toList, c < 128 := by decide +kernel
theorem name_fine {x : Str} (h : nameS x = true) : fineD (.str x) = true := by
  unfold nameS at h
  rw [Bool.and_eq_true, Bool.and_eq_true, decide_eq_true_eq, decide_eq_true_eq, List.all_eq_true] at h
  exact fine_str.mpr ⟨by omega, fun c hc => abc_small c (of_decide_eq_true (h.2 c hc))⟩
theorem span_fine (s : Span) : fineD s.d = true := by
  obtain ⟨a, b⟩ := s
  cases b <;> rfl
theorem span_stretch {s : Span} {m : Int} (h : s.ok m) : stretchB s.d = true := by
  obtain ⟨a, b⟩ := s
  have h0 : 0 ≤ a := h.lo
  cases b with
  | none => simp [stretchB, countB, h0]
  | some b =>
    have := (h.up b rfl).1
    simp at this
    simp [stretchB, h0, this]
@[reducible] def boxD (f : Frame) : D := .ins "Box" ["box_who", "box_what", "box_days", "box_amounts"] [optS f.who, optS f.what, f.days.d, f.amts.d]
theorem box_eq {f : Frame} {m : Int} (h : f.ok m) : f_Box_init (optS f.who) (optS f.what) f.days.d f.amts.d = pure (boxD f) := by
  obtain ⟨w, x, s, t⟩ := f
  have h1 := h.w1
  have h2 := h.w2
  have h3 := span_stretch h.d
  have h4 := span_stretch h.a
  dsimp only at h1 h2 h3 h4
  unfold f_Box_init
  have e1 : ∀ z, w = some z → f_is_name (.str z) = pure (.bl true) := fun z e => by rw [name_eq (name_fine (h1 z e))]; exact congrArg (fun b => pure (D.bl b)) (h1 z e)
  have e2 : ∀ z, x = some z → f_is_name (.str z) = pure (.bl true) := fun z e => by rw [name_eq (name_fine (h2 z e))]; exact congrArg (fun b => pure (D.bl b)) (h2 z e)
  cases w with
  | none =>
    cases x with
    | none => simp [stretch_eq (span_fine _), h3, h4]; rfl
    | some x => simp [stretch_eq (span_fine _), h3, h4, e2 x rfl]; rfl
  | some w =>
    cases x with
    | none => simp [stretch_eq (span_fine _), h3, h4, e1 w rfl]; rfl
    | some x => simp [stretch_eq (span_fine _), h3, h4, e1 w rfl, e2 x rfl]; rfl
theorem fld_who (f : Frame) : fldD tab "box_who" (boxD f) = pure (optS f.who) := by funext S; rfl
theorem fld_what (f : Frame) : fldD tab "box_what" (boxD f) = pure (optS f.what) := by funext S; rfl
theorem fld_days (f : Frame) : fldD tab "box_days" (boxD f) = pure f.days.d := by funext S; rfl
theorem fld_amts (f : Frame) : fldD tab "box_amounts" (boxD f) = pure f.amts.d := by funext S; rfl
def AS (n : Nat) (x : Str) : Prop := x.length ≤ n ∧ ∀ c ∈ x.cps.toList, c < 128
theorem AS.cut {n : Nat} {x : Str} (h : AS n x) (lo hi : Option Int) : AS n (cutS x lo hi) := by
  unfold cutS
  refine ⟨?_, fun c hc => h.2 c ?_⟩
  · show (List.toArray _).size ≤ n
    rw [List.size_toArray, List.length_take, List.length_drop]
    have := h.1
    have e : x.cps.toList.length = x.length := rfl
    omega
  · exact List.mem_of_mem_drop (List.mem_of_mem_take hc)
theorem AS.up {n k : Nat} {x : Str} (h : AS n x) (hk : n ≤ k) : AS k x := ⟨Nat.le_trans h.1 hk, h.2⟩
theorem AS.name {x : Str} (h : nameS x = true) : AS 8 x := by
  unfold nameS at h
  rw [Bool.and_eq_true, Bool.and_eq_true, decide_eq_true_eq, decide_eq_true_eq, List.all_eq_true] at h
  exact ⟨h.1.2, fun c hc => abc_small c (of_decide_eq_true (h.2 c hc))⟩
@[reducible] def rowD (f : Frame) (p r : Int) : D := .ins "Row" ["row_box", "row_price", "row_rank"] [boxD f, .int p, .int r]
theorem isi_box (f : Frame) : isiD clsL [.o "Box"] (boxD f) = pure (.bl true) := isi_o_ins (o := "Box") (c := "Box") (by decide +kernel) (by decide +kernel) _ _
theorem row_eq {f : Frame} {p r : Int} (hp : 0 ≤ p) (hr : 0 ≤ r) (hr9 : r ≤ 9) : f_Row_init (boxD f) (.int p) (.int r) = pure (rowD f p r) := by
  unfold f_Row_init
  simp [isi_box, day_eq, number_eq, countB, intB, hp, show ¬ r < 0 by omega, show ¬ 9 < r by omega]
theorem nm_none : Nm none := fun _ e => nomatch e
theorem nm_a : Nm (some "a") := fun x e => by cases e; decide +kernel
theorem nm_b : Nm (some "b") := fun x e => by cases e; decide +kernel
theorem nm_z : Nm (some "zzzzzzzz") := fun x e => by cases e; decide +kernel
theorem pool6 : PoolP [.non, .non, .non, .str "a", .str "b", .str "zzzzzzzz"] := ⟨by decide, by decide, fun d hd => by
  simp only [List.mem_cons, List.not_mem_nil, or_false] at hd
  rcases hd with rfl | rfl | rfl | rfl | rfl | rfl
  · exact ⟨none, rfl, nm_none⟩
  · exact ⟨none, rfl, nm_none⟩
  · exact ⟨none, rfl, nm_none⟩
  · exact ⟨some "a", rfl, nm_a⟩
  · exact ⟨some "b", rfl, nm_b⟩
  · exact ⟨some "zzzzzzzz", rfl, nm_z⟩⟩
theorem pool5 : PoolP [.non, .non, .non, .str "a", .str "b"] := ⟨by decide, by decide, fun d hd => by
  simp only [List.mem_cons, List.not_mem_nil, or_false] at hd
  rcases hd with rfl | rfl | rfl | rfl | rfl
  · exact ⟨none, rfl, nm_none⟩
  · exact ⟨none, rfl, nm_none⟩
  · exact ⟨none, rfl, nm_none⟩
  · exact ⟨some "a", rfl, nm_a⟩
  · exact ⟨some "b", rfl, nm_b⟩⟩
theorem pool2 : PoolP [.str "a", .str "b"] := ⟨by decide, by decide, fun d hd => by
  simp only [List.mem_cons, List.not_mem_nil, or_false] at hd
  rcases hd with rfl | rfl
  · exact ⟨some "a", rfl, nm_a⟩
  · exact ⟨some "b", rfl, nm_b⟩⟩
theorem cut5 : cutL [D.non, .non, .non, .str "a", .str "b", .str "zzzzzzzz"] none (some 5) = [.non, .non, .non, .str "a", .str "b"] := rfl
structure Card where
  f : Frame
  p : Int
  r : Int
@[reducible] def Card.d (c : Card) : D := .tup [c.f.d, .int c.p, .int c.r]
structure Card.ok (c : Card) (m : Int) : Prop where
  f : c.f.ok m
  p0 : 0 ≤ c.p
  r0 : 0 ≤ c.r
  r9 : c.r ≤ 9
theorem Card.ok.le {c : Card} {m k : Int} (h : c.ok m) (hk : m ≤ k) : c.ok k := ⟨h.f.le hk, h.p0, h.r0, h.r9⟩
def crs (cs : List Card) : List D := cs.map Card.d
theorem crs_len (cs : List Card) : (crs cs).length = cs.length := by unfold crs; simp
theorem card_flat {c : Card} {m : Int} (h : c.ok m) : flatN 3 c.d = true := by
  show ([c.f.d, .int c.p, .int c.r].all (flatN 2)) = true
  simp only [List.all_cons, List.all_nil, Bool.and_true, frame_flat h.f 0, Bool.true_and]
  rfl
theorem card_noLst (c : Card) : noLst c.d = true := by
  obtain ⟨⟨w, x, ⟨a, b⟩, ⟨c, d⟩⟩, p, r⟩ := c
  cases w <;> cases x <;> cases b <;> cases d <;> rfl
@[reducible] def Card.row (c : Card) : D := rowD c.f c.p c.r
def rws (cs : List Card) : List D := cs.map Card.row
theorem rws_len (cs : List Card) : (rws cs).length = cs.length := by unfold rws; simp
@[reducible] def bookD (cs : List Card) : D := .ins "Book" ["book_rows"] [.tup (rws cs)]
theorem isi_row (c : Card) : isiD clsL [.o "Row"] c.row = pure (.bl true) := isi_o_ins (o := "Row") (c := "Row") (by decide +kernel) (by decide +kernel) _ _
theorem enum_mem {k : Nat} : ∀ {xs : List D} {d : D}, d ∈ enumFrom k xs → ∃ i x, d = .tup [.int i, x] ∧ x ∈ xs
  | [], d, h => by cases h
  | x :: xs, d, h => by
    rcases List.mem_cons.mp h with rfl | h
    · exact ⟨_, _, rfl, by simp⟩
    · obtain ⟨i, y, e, hy⟩ := enum_mem (k := k + 1) h
      exact ⟨i, y, e, List.mem_cons_of_mem _ hy⟩
@[simp] theorem enumD_lst (xs : List D) : enumD (.lst xs) = pure (enumFrom 0 xs) := Eq.trans rfl rfl
@[simp] theorem enumD_tup (xs : List D) : enumD (.tup xs) = pure (enumFrom 0 xs) := Eq.trans rfl rfl
theorem book_init {cs : List Card} (hl : cs.length ≤ 6) : f_Book_init (.lst (rws cs)) = pure (bookD cs) := by
  have lp : loopN f_Book_init_b1 (enumFrom 0 (rws cs)) () = pure () := by
    rw [loopN_pure (fun _ x => x) _ _ fun d hd x => ?_]
    obtain ⟨i, y, rfl, hy⟩ := enum_mem hd
    obtain ⟨c, _, rfl⟩ := List.mem_map.mp hy
    unfold f_Book_init_b1
    simp [isi_row]
  unfold f_Book_init f_is_list
  have len := rws_len cs
  simp [lp, len, show ¬ (6 : Int) < cs.length by omega]
theorem keysD_strs : ∀ ns : List Str, keysD (ns.map D.str) = some (ns.map Sum.inr)
  | [] => rfl
  | n :: ns => by
    show (match keyD (.str n), keysD (ns.map D.str) with | some k, some ks => some (k :: ks) | _, _ => none) = _
    rw [keysD_strs ns]; rfl
theorem lcX_opt {α : Type} {mt : D → M Bool} {me : D → M D} (g : α → D) (o : α → Option D) : ∀ (xs : List α) (acc : List D), (∀ x ∈ xs, mt (g x) = pure (o x).isSome) → (∀ x ∈ xs, ∀ z, o x = some z → me (g x) = pure z) → acc.length + xs.length ≤ sizeLine → lcX mt me (xs.map g) acc = pure (acc ++ xs.filterMap o)
  | [], acc, _, _, _ => by simp [lcX]
  | x :: xs, acc, h1, h2, hl => by
    rw [List.map_cons]
    unfold lcX
    rw [h1 x (by simp), B_pure]
    have i1 := fun y hy => h1 y (List.mem_cons_of_mem x hy)
    have i2 := fun y hy => h2 y (List.mem_cons_of_mem x hy)
    rw [List.length_cons] at hl
    cases e : o x with
    | none =>
      rw [List.filterMap_cons, e]
      exact lcX_opt g o xs acc i1 i2 (by omega)
    | some z =>
      rw [List.filterMap_cons, e]
      show B (me (g x)) _ = _
      rw [h2 x (by simp) z e, B_pure, if_pos (by omega), lcX_opt g o xs _ i1 i2 (by rw [List.length_append, List.length_singleton]; omega)]
      simp
theorem lc_opt {α : Type} {mt : D → M Bool} {me : D → M D} (g : α → D) (o : α → Option D) (xs : List α) (h1 : ∀ x ∈ xs, mt (g x) = pure (o x).isSome) (h2 : ∀ x ∈ xs, ∀ z, o x = some z → me (g x) = pure z) (hl : xs.length ≤ sizeLine) : lc mt me (xs.map g) = pure (xs.filterMap o) := by
  unfold lc
  rw [lcX_opt g o xs [] h1 h2 (by simpa using hl)]
  rfl
theorem lc_all {α : Type} {me : D → M D} (g h : α → D) (xs : List α) (h2 : ∀ x ∈ xs, me (g x) = pure (h x)) (hl : xs.length ≤ sizeLine) : lc (fun _ => pure true) me (xs.map g) = pure (xs.map h) := by
  rw [lc_opt g (fun x => some (h x)) xs (fun x _ => rfl) (fun x hx z e => by cases e; exact h2 x hx) hl]
  congr 1
  exact congrFun (List.filterMap_eq_map (f := h)) xs
theorem map_some {α : Type} (o : α → Option Str) : ∀ xs : List α, xs.filterMap (fun x => (o x).map D.str) = (xs.filterMap o).map D.str
  | [] => rfl
  | x :: xs => by
    cases e : o x with
    | none => simp [e, map_some o xs]
    | some z => simp [e, map_some o xs]
theorem fld_rows (cs : List Card) : fldD tab "book_rows" (bookD cs) = pure (.tup (rws cs)) := by funext S; rfl
theorem fld_box (c : Card) : fldD tab "row_box" c.row = pure (boxD c.f) := by funext S; rfl
theorem isC_row (c : Card) : isC "Row" c.row = pure () := by funext S; rfl
theorem isC_book (cs : List Card) : isC "Book" (bookD cs) = pure () := by funext S; rfl
theorem lay_ints : ∀ ns : List Int, PyData.canLayAll0 (ns.map PyData.int) = true
  | [] => rfl
  | n :: ns => by
    show (PyData.canLay0 (.int n) && PyData.canLayAll0 (ns.map PyData.int)) = true
    rw [lay_ints ns]; rfl
theorem depth_ints : ∀ ns : List Int, PyData.depthAll (ns.map PyData.int) = 0
  | [] => rfl
  | n :: ns => by
    show max (PyData.depth (.int n)) (PyData.depthAll (ns.map PyData.int)) = 0
    rw [depth_ints ns]; rfl
def every : List Str := ["narrowest", "widest", "newest", "oldest", "cheapest", "dearest", "highest", "lowest"]
theorem every_or {w : Str} (h : w ∈ every) : w = "narrowest" ∨ w = "widest" ∨ w = "newest" ∨ w = "oldest" ∨ w = "cheapest" ∨ w = "dearest" ∨ w = "highest" ∨ w = "lowest" := by
  unfold every at h
  simpa only [List.mem_cons, List.not_mem_nil, or_false] using h
structure Ws (ws : List Str) : Prop where
  nd : ws.Nodup
  mem : ∀ w ∈ ws, w ∈ every
theorem Ws.sub {ws vs : List Str} (h : Ws ws) (s : vs.Sublist ws) : Ws vs := ⟨s.nodup h.nd, fun w hw => h.mem w (s.subset hw)⟩
theorem every_nd : every.Nodup := by decide +kernel
theorem nodup_sub {α : Type} [DecidableEq α] : ∀ {xs ys : List α}, xs.Nodup → (∀ x ∈ xs, x ∈ ys) → xs.length ≤ ys.length
  | [], _, _, _ => Nat.zero_le _
  | x :: xs, ys, nd, h => by
    have nd := List.nodup_cons.mp nd
    have hx := h x (by simp)
    have := nodup_sub (xs := xs) (ys := ys.erase x) nd.2 fun z hz => by
      refine (List.mem_erase_of_ne ?_).mpr (h z (List.mem_cons_of_mem _ hz))
      rintro rfl
      exact nd.1 hz
    rw [List.length_erase_of_mem hx] at this
    have := List.length_pos_of_mem hx
    rw [List.length_cons]
    omega
theorem nodup_len {ws : List Str} (h : Ws ws) : ws.length ≤ 8 := nodup_sub (ys := every) h.nd h.mem
def wds (ws : List Str) : List D := ws.map D.str
theorem wds_len (ws : List Str) : (wds ws).length = ws.length := by unfold wds; simp
theorem pop_at {xs : List D} {i : Int} (h0 : 0 ≤ i) (h1 : i < xs.length) (hl : xs.length ≤ 1000000) : ∃ d, xs[i.toNat]? = some d ∧ popX xs (.int i) = pure (d, xs.eraseIdx i.toNat) := by
  have hi : i.toNat < xs.length := by omega
  refine ⟨xs[i.toNat], by simp [hi], ?_⟩
  unfold popX popO
  have e : seqIndex? i xs.length = some i.toNat := by
    unfold seqIndex?
    simp [show ¬ i < 0 by omega, h0, h1]
  dsimp only
  rw [if_pos (by constructor <;> omega), e]
  simp [hi]
theorem erase_perm {α : Type} : ∀ (xs : List α) (i : Nat) (h : i < xs.length), (xs[i] :: xs.eraseIdx i).Perm xs
  | [], _, h => absurd h (by simp)
  | x :: xs, 0, _ => List.Perm.refl _
  | x :: xs, i + 1, h => by
    have ih := erase_perm xs i (by simpa using h)
    exact (List.Perm.swap _ _ _).trans (ih.cons x)
theorem perm_strs {ys : List D} {ws : List Str} (h : ys.Perm (ws.map D.str)) : ∃ vs : List Str, ys = vs.map D.str ∧ vs.Perm ws := by
  refine ⟨ys.map fun d => match d with | .str x => x | _ => "", ?_, ?_⟩
  · rw [List.map_map]
    have : ∀ y ∈ ys, (D.str ∘ fun d => match d with | .str x => x | _ => "") y = y := fun y hy => by
      obtain ⟨w, _, rfl⟩ := List.mem_map.mp (h.mem_iff.mp hy)
      rfl
    conv => lhs; rw [← List.map_id ys]
    exact List.map_congr_left fun y hy => (this y hy).symm
  · refine (h.map _).trans ?_
    rw [List.map_map]
    have : ∀ w ∈ ws, ((fun d => match d with | .str x => x | _ => "") ∘ D.str) w = w := fun w _ => rfl
    conv => rhs; rw [← List.map_id ws]
    exact List.Perm.of_eq (List.map_congr_left fun y hy => this y hy)
theorem cut_take {α : Type} (xs : List α) {k : Int} (h : 0 ≤ k) : cutL xs none (some k) = xs.take k.toNat := by
  unfold cutL _root_.HT.sIx
  simp [show ¬ k < 0 by omega]
theorem memD_strs (x : Str) (ws : List Str) : memD (.str x) (wds ws) = decide (x ∈ ws) := by
  unfold memD wds
  rw [List.any_map]
  induction ws with
  | nil => rfl
  | cons w ws ih =>
    rw [List.any_cons, ih]
    show ((w == x) || decide (x ∈ ws)) = decide (x ∈ w :: ws)
    by_cases q : w = x
    · subst q; simp
    · have q' : ¬ x = w := fun e => q e.symm
      simp [q, q']
theorem flat_wds (ws : List Str) : (wds ws).all flatD = true := by
  unfold wds
  rw [List.all_map, List.all_eq_true]
  intro x _; rfl
theorem in_lst (neg : Bool) (x : Str) (ws : List Str) : inD neg (.str x) (.lst (wds ws)) = pure (.bl (if neg then !decide (x ∈ ws) else decide (x ∈ ws))) := by
  show (if flatD (.str x) = true ∧ (wds ws).all flatD = true then pure (D.bl (if neg then !memD (.str x) (wds ws) else memD (.str x) (wds ws))) else stuck) = _
  rw [if_pos ⟨rfl, flat_wds ws⟩, memD_strs]
theorem in_tup (neg : Bool) (x : Str) (ws : List Str) : inD neg (.str x) (.tup (wds ws)) = pure (.bl (if neg then !decide (x ∈ ws) else decide (x ∈ ws))) := by
  show (if flatD (.str x) = true ∧ (wds ws).all flatD = true then pure (D.bl (if neg then !memD (.str x) (wds ws) else memD (.str x) (wds ws))) else stuck) = _
  rw [if_pos ⟨rfl, flat_wds ws⟩, memD_strs]
theorem every_flat : (wds every).all (flatN 0) = true := by decide +kernel
def kindW (w : Str) : Str := (tt_KINDS.lookup w).getD ""
abbrev ent : Str := "entry"
def liveGo : List Str → List Str → List Str → List Str × List Str
  | [], f, u => (f, u)
  | w :: ws, f, u => if kindW w ∉ u ∧ ent ∉ u then liveGo ws (f ++ [w]) (u ++ [kindW w]) else liveGo ws f u
def live (ws : List Str) : List Str := (liveGo ws [] []).1
theorem kind_ix {w : Str} (h : w ∈ every) : ixTab tt_KINDS (.str w) = pure (.str (kindW w)) := by
  rcases every_or h with rfl | rfl | rfl | rfl | rfl | rfl | rfl | rfl <;> kernel_rfl
theorem kind_in {w : Str} (h : w ∈ every) : inTab false tt_KINDS (.str w) = pure (.bl true) := by
  rcases every_or h with rfl | rfl | rfl | rfl | rfl | rfl | rfl | rfl <;> kernel_rfl
theorem once_nodup : ∀ (n : Nat) (ks : List Key), ks.length = n → ks.Nodup → once ks = ks
  | 0, ks, h, _ => by
    have : ks = [] := List.length_eq_zero_iff.mp h
    subst this; rfl
  | n + 1, ks, h, nd => by
    have hn : ks ≠ [] := fun e => by rw [e] at h; cases h
    have e := List.dropLast_concat_getLast hn
    rw [← e] at nd ⊢
    have nd2 := List.nodup_append.mp nd
    rw [once_snoc, once_nodup n ks.dropLast (by rw [List.length_dropLast]; omega) nd2.1]
    unfold RM.stepK
    rw [if_neg]
    intro z
    obtain ⟨x, hx, e⟩ := List.any_eq_true.mp z
    exact nd2.2.2 x hx _ (List.mem_singleton.mpr rfl) (of_decide_eq_true e)
theorem lenSet_ws {ws : List Str} (h : Ws ws) : lenSetD (.lst (wds ws)) = pure (.int ws.length) ∧ lenSetD (.tup (wds ws)) = pure (.int ws.length) := by
  have l8 := nodup_len h
  have e1 : keysD (wds ws) = some (ws.map Sum.inr) := keysD_strs ws
  have e2 : once (ws.map Sum.inr) = ws.map Sum.inr := once_nodup _ _ rfl (List.pairwise_map.mpr (h.nd.imp fun hne e => hne (Sum.inr.inj e)))
  constructor
  · unfold lenSetD
    dsimp only
    rw [e1]
    show (if (ws.map (Sum.inr : Str → Key)).length ≤ 4000 then (pure (.int (once (ws.map Sum.inr)).length) : M D) else stuck) = _
    rw [if_pos (by rw [List.length_map]; omega), e2, List.length_map]
  · unfold lenSetD
    dsimp only
    rw [e1]
    show (if (ws.map (Sum.inr : Str → Key)).length ≤ 4000 then (pure (.int (once (ws.map Sum.inr)).length) : M D) else stuck) = _
    rw [if_pos (by rw [List.length_map]; omega), e2, List.length_map]
theorem is_word_eq {w : Str} (h : w ∈ every) : f_is_word (.str w) = pure (.bl true) := by
  unfold f_is_word
  simp [kind_in h]
theorem lc_words {ws : List Str} (h : Ws ws) : lc (fun word => pure true) (fun word => f_is_word word) (wds ws) = pure ((wds ws).map fun _ => D.bl true) := by
  refine lc_map _ (fun d hd => ?_) (by rw [wds_len]; exact size_big _ (by have := nodup_len h; omega))
  obtain ⟨w, hw, rfl⟩ := List.mem_map.mp hd
  exact is_word_eq (h.mem w hw)
theorem all_words (ws : List Str) : allD [.lst ((wds ws).map fun _ => D.bl true)] = pure (.bl true) := by
  rw [allD_map (fun _ => true) (wds ws)]
  congr 2
  rw [List.all_map, List.all_eq_true]
  intro x _; rfl
@[reducible] def ruleD (ws : List Str) : D := .ins "Rule" ["rule_words", "rule_live"] [.tup (wds ws), .tup (wds (live ws))]
@[simp] theorem ne_narrowest_widest : (("narrowest" : Str) == "widest") = false := by decide +kernel
@[simp] theorem ne_narrowest_newest : (("narrowest" : Str) == "newest") = false := by decide +kernel
@[simp] theorem ne_narrowest_oldest : (("narrowest" : Str) == "oldest") = false := by decide +kernel
@[simp] theorem ne_narrowest_cheapest : (("narrowest" : Str) == "cheapest") = false := by decide +kernel
@[simp] theorem ne_narrowest_dearest : (("narrowest" : Str) == "dearest") = false := by decide +kernel
@[simp] theorem ne_narrowest_highest : (("narrowest" : Str) == "highest") = false := by decide +kernel
@[simp] theorem ne_narrowest_lowest : (("narrowest" : Str) == "lowest") = false := by decide +kernel
@[simp] theorem ne_widest_narrowest : (("widest" : Str) == "narrowest") = false := by decide +kernel
@[simp] theorem ne_widest_newest : (("widest" : Str) == "newest") = false := by decide +kernel
@[simp] theorem ne_widest_oldest : (("widest" : Str) == "oldest") = false := by decide +kernel
@[simp] theorem ne_widest_cheapest : (("widest" : Str) == "cheapest") = false := by decide +kernel
@[simp] theorem ne_widest_dearest : (("widest" : Str) == "dearest") = false := by decide +kernel
@[simp] theorem ne_widest_highest : (("widest" : Str) == "highest") = false := by decide +kernel
@[simp] theorem ne_widest_lowest : (("widest" : Str) == "lowest") = false := by decide +kernel
@[simp] theorem ne_newest_narrowest : (("newest" : Str) == "narrowest") = false := by decide +kernel
@[simp] theorem ne_newest_widest : (("newest" : Str) == "widest") = false := by decide +kernel
@[simp] theorem ne_newest_oldest : (("newest" : Str) == "oldest") = false := by decide +kernel
@[simp] theorem ne_newest_cheapest : (("newest" : Str) == "cheapest") = false := by decide +kernel
@[simp] theorem ne_newest_dearest : (("newest" : Str) == "dearest") = false := by decide +kernel
@[simp] theorem ne_newest_highest : (("newest" : Str) == "highest") = false := by decide +kernel
@[simp] theorem ne_newest_lowest : (("newest" : Str) == "lowest") = false := by decide +kernel
@[simp] theorem ne_oldest_narrowest : (("oldest" : Str) == "narrowest") = false := by decide +kernel
@[simp] theorem ne_oldest_widest : (("oldest" : Str) == "widest") = false := by decide +kernel
@[simp] theorem ne_oldest_newest : (("oldest" : Str) == "newest") = false := by decide +kernel
@[simp] theorem ne_oldest_cheapest : (("oldest" : Str) == "cheapest") = false := by decide +kernel
@[simp] theorem ne_oldest_dearest : (("oldest" : Str) == "dearest") = false := by decide +kernel
@[simp] theorem ne_oldest_highest : (("oldest" : Str) == "highest") = false := by decide +kernel
@[simp] theorem ne_oldest_lowest : (("oldest" : Str) == "lowest") = false := by decide +kernel
@[simp] theorem ne_cheapest_narrowest : (("cheapest" : Str) == "narrowest") = false := by decide +kernel
@[simp] theorem ne_cheapest_widest : (("cheapest" : Str) == "widest") = false := by decide +kernel
@[simp] theorem ne_cheapest_newest : (("cheapest" : Str) == "newest") = false := by decide +kernel
@[simp] theorem ne_cheapest_oldest : (("cheapest" : Str) == "oldest") = false := by decide +kernel
@[simp] theorem ne_cheapest_dearest : (("cheapest" : Str) == "dearest") = false := by decide +kernel
@[simp] theorem ne_cheapest_highest : (("cheapest" : Str) == "highest") = false := by decide +kernel
@[simp] theorem ne_cheapest_lowest : (("cheapest" : Str) == "lowest") = false := by decide +kernel
@[simp] theorem ne_dearest_narrowest : (("dearest" : Str) == "narrowest") = false := by decide +kernel
@[simp] theorem ne_dearest_widest : (("dearest" : Str) == "widest") = false := by decide +kernel
@[simp] theorem ne_dearest_newest : (("dearest" : Str) == "newest") = false := by decide +kernel
@[simp] theorem ne_dearest_oldest : (("dearest" : Str) == "oldest") = false := by decide +kernel
@[simp] theorem ne_dearest_cheapest : (("dearest" : Str) == "cheapest") = false := by decide +kernel
@[simp] theorem ne_dearest_highest : (("dearest" : Str) == "highest") = false := by decide +kernel
@[simp] theorem ne_dearest_lowest : (("dearest" : Str) == "lowest") = false := by decide +kernel
@[simp] theorem ne_highest_narrowest : (("highest" : Str) == "narrowest") = false := by decide +kernel
@[simp] theorem ne_highest_widest : (("highest" : Str) == "widest") = false := by decide +kernel
@[simp] theorem ne_highest_newest : (("highest" : Str) == "newest") = false := by decide +kernel
@[simp] theorem ne_highest_oldest : (("highest" : Str) == "oldest") = false := by decide +kernel
@[simp] theorem ne_highest_cheapest : (("highest" : Str) == "cheapest") = false := by decide +kernel
@[simp] theorem ne_highest_dearest : (("highest" : Str) == "dearest") = false := by decide +kernel
@[simp] theorem ne_highest_lowest : (("highest" : Str) == "lowest") = false := by decide +kernel
@[simp] theorem ne_lowest_narrowest : (("lowest" : Str) == "narrowest") = false := by decide +kernel
@[simp] theorem ne_lowest_widest : (("lowest" : Str) == "widest") = false := by decide +kernel
@[simp] theorem ne_lowest_newest : (("lowest" : Str) == "newest") = false := by decide +kernel
@[simp] theorem ne_lowest_oldest : (("lowest" : Str) == "oldest") = false := by decide +kernel
@[simp] theorem ne_lowest_cheapest : (("lowest" : Str) == "cheapest") = false := by decide +kernel
@[simp] theorem ne_lowest_dearest : (("lowest" : Str) == "dearest") = false := by decide +kernel
@[simp] theorem ne_lowest_highest : (("lowest" : Str) == "highest") = false := by decide +kernel
def nmU (o p : Option Str) : Bool := match p with
  | none => true
  | some y => decide (o = some y)
def spU (s t : Span) : Bool := decide (t.a ≤ s.a) && (match t.b with
  | none => true
  | some tb => match s.b with
    | none => false
    | some sb => decide (sb ≤ tb))
def frU (f g : Frame) : Bool := (nmU f.who g.who && nmU f.what g.what) && (spU f.days g.days && spU f.amts g.amts)
def spE (s t : Span) : Bool := decide (s.a = t.a) && decide (s.b = t.b)
def frE (f g : Frame) : Bool := (decide (f.who = g.who) && decide (f.what = g.what)) && (spE f.days g.days && spE f.amts g.amts)
theorem dec_comm {α : Type} [DecidableEq α] (a b : α) : decide (a = b) = decide (b = a) := by
  by_cases h : a = b
  · subst h; rfl
  · have h' : ¬ b = a := fun e => h e.symm
    simp [h, h']
theorem swithin_eq (s t : Span) : f_is_stretch_within s.d t.d = pure (.bl (spU s t)) := by
  obtain ⟨a, b⟩ := s
  obtain ⟨c, e⟩ := t
  unfold f_is_stretch_within
  by_cases q : a < c
  · cases b <;> cases e <;> simp [spU, q, show ¬ c ≤ a by omega]
  · cases b <;> cases e <;> simp [spU, q, show c ≤ a by omega]
theorem ne_opt {o p : Option Str} (ho : Nm o) (hp : Nm p) : neD (optS o) (optS p) = pure (.bl (!decide (o = p))) := by
  cases o with
  | none =>
    cases p with
    | none => rfl
    | some y =>
      have := name_lay (hp y rfl)
      show eqDeep true .non (.str y) = _
      unfold eqDeep
      show (if SeqAt.shaped .none = true ∧ SeqAt.shaped (.str y) = true then pure (D.bl true) else stuck) = _
      rw [if_pos ⟨rfl, shaped_of (n := 1) this (by show 0 ≤ 1; omega) (by omega)⟩]
      rfl
  | some x =>
    cases p with
    | none =>
      have := name_lay (ho x rfl)
      show eqDeep true (.str x) .non = _
      unfold eqDeep
      show (if SeqAt.shaped (.str x) = true ∧ SeqAt.shaped .none = true then pure (D.bl true) else stuck) = _
      rw [if_pos ⟨shaped_of (n := 1) this (by show 0 ≤ 1; omega) (by omega), rfl⟩]
      rfl
    | some y =>
      show pure (D.bl (!(x == y))) = _
      by_cases h : x = y
      · subst h; simp
      · have hb : (x == y) = false := by simpa using h
        simp [h, hb]
def pyI : Option Int → PyData
  | none => .none
  | some i => .int i
def pyS : Option Str → PyData
  | none => .none
  | some i => .str i
def Span.py (s : Span) : PyData := .tuple [.int s.a, pyI s.b]
def Frame.py (f : Frame) : PyData := .tuple [pyS f.who, pyS f.what, f.days.py, f.amts.py]
theorem span_py (s : Span) : toPy s.d = some s.py := by
  obtain ⟨a, b⟩ := s
  cases b <;> rfl
theorem span_eqv (s t : Span) : PyData.eqv s.py t.py = spE s t := by
  obtain ⟨a, b⟩ := s
  obtain ⟨c, e⟩ := t
  show PyData.eqvAll [.int a, pyI b] [.int c, pyI e] = _
  have h : PyData.eqv (pyI b) (pyI e) = decide (b = e) := by
    cases b <;> cases e
    · rfl
    · rfl
    · rfl
    · rename_i i j
      show (i == j) = decide (some i = some j)
      by_cases h : i = j
      · subst h; simp
      · simp [h]
  show (PyData.eqv (.int a) (.int c) && (PyData.eqv (pyI b) (pyI e) && true)) = _
  rw [h]
  show ((a == c) && (decide (b = e) && true)) = _
  unfold spE
  by_cases h1 : a = c
  · subst h1; simp
  · simp [h1]
theorem span_shaped (s : Span) : SeqAt.shaped s.py = true := by
  obtain ⟨a, b⟩ := s
  cases b <;> rfl
theorem eq_span (s t : Span) : eqD s.d t.d = pure (.bl (spE s t)) := by
  show eqDeep false s.d t.d = _
  unfold eqDeep
  rw [span_py, span_py]
  show (if SeqAt.shaped s.py = true ∧ SeqAt.shaped t.py = true then pure (D.bl (PyData.eqv s.py t.py)) else stuck) = _
  rw [if_pos ⟨span_shaped s, span_shaped t⟩, span_eqv]
theorem bwithin_eq {f g : Frame} {m : Int} (hf : f.ok m) (hg : g.ok m) : f_Box_is_within (boxD f) (boxD g) = pure (.bl (frU f g)) := by
  have n1 := ne_opt hg.w1 hf.w1
  have n2 := ne_opt hg.w2 hf.w2
  have c1 : notNonD (optS g.who) .non = pure (.bl (g.who.isSome)) := by cases g.who <;> rfl
  have c2 : notNonD (optS g.what) .non = pure (.bl (g.what.isSome)) := by cases g.what <;> rfl
  have k1 : (g.who.isSome && !decide (g.who = f.who)) = !nmU f.who g.who := by
    cases e : g.who with
    | none => rfl
    | some y => show (true && !decide (some y = f.who)) = !decide (f.who = some y); rw [dec_comm]; simp
  have k2 : (g.what.isSome && !decide (g.what = f.what)) = !nmU f.what g.what := by
    cases e : g.what with
    | none => rfl
    | some y => show (true && !decide (some y = f.what)) = !decide (f.what = some y); rw [dec_comm]; simp
  unfold f_Box_is_within
  simp [isi_box, fld_who, fld_what, fld_days, fld_amts, n1, n2, c1, c2, swithin_eq, frU]
  cases q1 : nmU f.who g.who <;> cases q2 : nmU f.what g.what <;> rw [q1] at k1 <;> rw [q2] at k2 <;> cases h1 : g.who.isSome <;> cases h2 : g.what.isSome <;> cases h3 : decide (g.who = f.who) <;> cases h4 : decide (g.what = f.what) <;> rw [h1, h3] at k1 <;> rw [h2, h4] at k2 <;> first | (cases k1; done) | (cases k2; done) | skip
  all_goals simp_all
  all_goals (cases spU f.days g.days <;> simp)
theorem beq_eq {f g : Frame} {m : Int} (hf : f.ok m) (hg : g.ok m) : f_Box_eq (boxD f) (boxD g) = pure (.bl (frE f g)) := by
  unfold f_Box_eq
  simp [isi_box, fld_who, fld_what, fld_days, fld_amts, ne_opt hf.w1 hg.w1, ne_opt hf.w2 hg.w2, eq_span, frE]
  by_cases h1 : f.who = g.who <;> by_cases h2 : f.what = g.what <;> cases spE f.days g.days <;> simp [h1, h2]
theorem fld_price (c : Card) : fldD tab "row_price" c.row = pure (.int c.p) := by funext S; rfl
theorem fld_rank (c : Card) : fldD tab "row_rank" c.row = pure (.int c.r) := by funext S; rfl
theorem isCm_box (f : Frame) : isCm "Box" "is_within" (boxD f) = pure () := by funext S; rfl
theorem eqX_box {f g : Frame} {m : Int} (hf : f.ok m) (hg : g.ok m) : eqX [("Box", f_Box_eq)] (boxD f) (boxD g) = pure (.bl (frE f g)) := by
  show B (f_Box_eq (boxD f) (boxD g)) _ = _
  rw [beq_eq hf hg]
  rfl
def insB (f g : Frame) : Bool := frU f g && !frE f g
theorem inside_eq {c e : Card} {m : Int} (hc : c.ok m) (he : e.ok m) : f_is_inside c.row e.row = pure (.bl (insB c.f e.f)) := by
  unfold f_is_inside insB
  simp [isC_row, f_Row_box, fld_box, isCm_box, bwithin_eq hc.f he.f, eqX_box hc.f he.f]
  cases frU c.f e.f <;> simp
def aheadB (w : Str) (c e : Card) (i j : Int) : Bool :=
  if w == "narrowest" then insB c.f e.f else if w == "widest" then insB e.f c.f
  else if w == "newest" then decide (j < i) else if w == "oldest" then decide (i < j)
  else if w == "cheapest" then decide (c.p < e.p) else if w == "dearest" then decide (e.p < c.p)
  else if w == "highest" then decide (e.r < c.r) else decide (c.r < e.r)
theorem in_pair (x a b : Str) : inD false (.str x) (.tup [.str a, .str b]) = pure (.bl (a == x || b == x)) := by
  show (pure (D.bl ((a == x) || ((b == x) || false))) : M D) = _
  simp
theorem puts_eq {w : Str} {cs : List Card} {c e : Card} {i j : Nat} {m : Int} (hw : w ∈ every) (h1 : cs[i]? = some c) (h2 : cs[j]? = some e) (hc : c.ok m) (he : e.ok m) : f_puts_ahead (.str w) (.tup (rws cs)) (.int i) (.int j) = pure (.bl (aheadB w c e i j)) := by
  have e1 : (rws cs)[i]? = some c.row := by unfold rws; rw [List.getElem?_map, h1]; rfl
  have e2 : (rws cs)[j]? = some e.row := by unfold rws; rw [List.getElem?_map, h2]; rfl
  unfold f_puts_ahead
  simp only [B_pure, (idxT e1).1, (idxT e2).1]
  rcases every_or hw with rfl | rfl | rfl | rfl | rfl | rfl | rfl | rfl <;>
    simp [in_pair, inside_eq hc he, inside_eq he hc, aheadB, isC_row, f_Row_price, f_Row_rank, fld_price, fld_rank]
def partP (cs : List Card) (c e : Card) (i j : Nat) (w : Str) : Bool := aheadB w c e i j || aheadB w e c j i
def partW (ws : List Str) (c e : Card) (i j : Nat) : Option Str := ws.find? (partP [] c e i j)
def beatB (ws : List Str) (c e : Card) (i j : Nat) : Bool := match partW ws c e i j with
  | some w => aheadB w c e i j
  | none => false
theorem loopS_find {f : D → Unit → M (D ⊕ Unit)} {p : Str → Bool} : ∀ {ws : List Str}, (∀ w ∈ ws, f (.str w) () = pure (if p w then .inl (.str w) else .inr ())) → loopS f (wds ws) () = pure (match ws.find? p with | some w => .inl (.str w) | none => .inr ())
  | [], _ => rfl
  | w :: ws, h => by
    have ih := loopS_find (f := f) (p := p) (ws := ws) fun z hz => h z (List.mem_cons_of_mem _ hz)
    show RM.B (f (.str w) ()) _ = _
    rw [h w (by simp), B_pure]
    cases q : p w with
    | true => simp [List.find?_cons, q]
    | false =>
      simp only [List.find?_cons, q]
      exact ih
theorem find_mem {ws : List Str} {p : Str → Bool} {w : Str} (h : ws.find? p = some w) : w ∈ ws := List.mem_of_find?_eq_some h
abbrev nD (n : Nat) : D := .int n
def ixs (ns : List Nat) : List D := ns.map nD
def Val (cs : List Card) (ns : List Nat) : Prop := ∀ n ∈ ns, ∃ c, cs[n]? = some c
def bt (ws : List Str) (cs : List Card) (i j : Nat) : Bool := match cs[i]?, cs[j]? with
  | some c, some e => beatB ws c e i j
  | _, _ => false
section
variable {ws : List Str} {cs : List Card} {i j : Nat} {m : Int} {ns : List Nat}
def topP (ws : List Str) (cs : List Card) (ns : List Nat) (o : Nat) : Bool := ns.all fun n => decide (o = n) || bt ws cs o n
end
theorem isC_rule (ws : List Str) : isC "Rule" (ruleD ws) = pure () := by funext S; rfl
@[simp] theorem powD_107 : powD (.int 10) (.int 7) = pure (.int 10000000) := Eq.trans rfl rfl
def rD (rs : List (List Nat)) : List D := rs.map fun ns => .tup (ixs ns)
theorem Val.sub {cs : List Card} {ns ms : List Nat} (h : Val cs ns) (s : ms.Sublist ns) : Val cs ms := fun n hn => h n (s.subset hn)
@[simp] theorem neg1 : negD (.int 1) = pure (.int (-1)) := Eq.trans rfl rfl
theorem insB_self (f : Frame) : insB f f = false := by
  unfold insB frE spE
  simp
abbrev Apart (x y : Str) : Prop := kindW x ≠ kindW y ∧ kindW x ≠ ent
theorem nmU_trans {a b c : Option Str} (h1 : nmU a b = true) (h2 : nmU b c = true) : nmU a c = true := by
  cases c with
  | none => rfl
  | some z =>
    have e : b = some z := of_decide_eq_true h2
    subst e
    exact h1
theorem nmU_anti {a b : Option Str} (h1 : nmU a b = true) (h2 : nmU b a = true) : a = b := by
  cases a with
  | none => cases b with
    | none => rfl
    | some y => exact absurd h1 (by simp [nmU])
  | some x => exact (of_decide_eq_true h2 : b = some x).symm
theorem spU_trans {a b c : Span} (h1 : spU a b = true) (h2 : spU b c = true) : spU a c = true := by
  obtain ⟨a1, a2⟩ := a
  obtain ⟨b1, b2⟩ := b
  obtain ⟨c1, c2⟩ := c
  unfold spU at *
  cases a2 <;> cases b2 <;> cases c2 <;> simp at * <;> omega
theorem spU_anti {a b : Span} (h1 : spU a b = true) (h2 : spU b a = true) : a = b := by
  obtain ⟨a1, a2⟩ := a
  obtain ⟨b1, b2⟩ := b
  unfold spU at *
  cases a2 <;> cases b2 <;> simp at * <;> omega
theorem frU_trans {f g h : Frame} (h1 : frU f g = true) (h2 : frU g h = true) : frU f h = true := by
  unfold frU at *
  simp only [Bool.and_eq_true] at *
  exact ⟨⟨nmU_trans h1.1.1 h2.1.1, nmU_trans h1.1.2 h2.1.2⟩, spU_trans h1.2.1 h2.2.1, spU_trans h1.2.2 h2.2.2⟩
theorem frU_anti {f g : Frame} (h1 : frU f g = true) (h2 : frU g f = true) : f = g := by
  obtain ⟨a, b, c, d⟩ := f
  obtain ⟨a', b', c', d'⟩ := g
  unfold frU at *
  simp only [Bool.and_eq_true] at *
  obtain rfl := nmU_anti h1.1.1 h2.1.1
  obtain rfl := nmU_anti h1.1.2 h2.1.2
  obtain rfl := spU_anti h1.2.1 h2.2.1
  obtain rfl := spU_anti h1.2.2 h2.2.2
  rfl
theorem frE_self (f : Frame) : frE f f = true := by unfold frE spE; simp
theorem frE_ext {f g : Frame} (h : frE f g = true) : f = g := by
  obtain ⟨a, b, ⟨c1, c2⟩, ⟨d1, d2⟩⟩ := f
  obtain ⟨a', b', ⟨c1', c2'⟩, ⟨d1', d2'⟩⟩ := g
  unfold frE spE at h
  simp at h
  obtain ⟨⟨rfl, rfl⟩, ⟨rfl, rfl⟩, rfl, rfl⟩ := h
  rfl
theorem insB_iff {f g : Frame} : insB f g = true ↔ frU f g = true ∧ f ≠ g := by
  unfold insB
  rw [Bool.and_eq_true, Bool.not_eq_true']
  refine ⟨fun ⟨a, b⟩ => ⟨a, fun e => by rw [e, frE_self] at b; cases b⟩, fun ⟨a, b⟩ => ⟨a, ?_⟩⟩
  cases q : frE f g with
  | false => rfl
  | true => exact absurd (frE_ext q) b
theorem insB_trans {f g h : Frame} (h1 : insB f g = true) (h2 : insB g h = true) : insB f h = true := by
  rw [insB_iff] at *
  refine ⟨frU_trans h1.1 h2.1, fun e => ?_⟩
  subst e
  exact h1.2 (frU_anti h1.1 h2.1)
theorem insB_asym {f g : Frame} (h1 : insB f g = true) : insB g f = false := by
  cases q : insB g f with
  | false => rfl
  | true =>
    have := insB_trans h1 q
    rw [insB_self] at this; cases this
theorem aheadB_irr {w : Str} (hw : w ∈ every) (c : Card) (i : Int) : aheadB w c c i i = false := by
  rcases every_or hw with rfl | rfl | rfl | rfl | rfl | rfl | rfl | rfl <;> simp [aheadB, insB_self]
theorem aheadB_asym {w : Str} (hw : w ∈ every) {c e : Card} {i j : Int} (h : aheadB w c e i j = true) : aheadB w e c j i = false := by
  rcases every_or hw with rfl | rfl | rfl | rfl | rfl | rfl | rfl | rfl <;> simp [aheadB] at h ⊢ <;> first | exact insB_asym h | omega
@[simp] theorem zipD_tup (xs ys : List D) : zipD (.tup xs) (.tup ys) = pure (zipL xs ys) := Eq.trans rfl rfl
@[simp] theorem zipD_lst (xs ys : List D) : zipD (.lst xs) (.lst ys) = pure (zipL xs ys) := Eq.trans rfl rfl

theorem pick_lst {xs : List D} (h0 : 0 < xs.length) (h1 : xs.length < 1000000) : HT 1 (f_law_pick (.mref Pre.ix) (.lst xs)) fun d => d ∈ xs := by
  unfold f_law_pick
  simp
  refine HT.draw (k := 0) (by omega) fun i i0 i1 => ?_
  obtain ⟨d, hm, _, e, _⟩ := idx_at i0 i1
  rw [e]
  exact HT.p0 hm
theorem span_ok {t : Int} (h0 : 0 ≤ t) (h1 : t ≤ 10000000000) : HT 3 (f_law_span (.mref Pre.ix) (.int t)) fun d => ∃ s : Span, d = s.d ∧ s.ok t := by
  unfold f_law_span
  simp
  refine HT.draw (by omega) fun i i0 i1 => ?_
  simp
  refine HT.draw (by decide) fun j j0 j1 => ?_
  by_cases q : j = 0
  · simp [q]
    exact HT.p0 ⟨⟨i, none⟩, rfl, i0, by show i ≤ t; omega, fun b e => by cases e⟩ _
  · simp [q]
    refine HT.draw (k := 0) (by omega) fun k k0 k1 => ?_
    simp
    exact HT.p0 ⟨⟨i, some (i + k)⟩, rfl, i0, by show i ≤ t; omega, fun b e => by cases e; show i ≤ i + k ∧ i + k ≤ t; omega⟩ _
theorem pick_pool {xs : List D} (h : PoolP xs) : HT 1 (f_law_pick (.mref Pre.ix) (.lst xs)) fun d => ∃ o, d = optS o ∧ Nm o := HT.imp (pick_lst h.1 (by have := h.2.1; omega)) h.2.2
theorem frame_ok {t : Int} (h0 : 0 ≤ t) (h1 : t ≤ 10000000000) : HT 8 (f_law_frame (.mref Pre.ix) (.int t)) fun d => ∃ f : Frame, d = f.d ∧ f.ok t := by
  unfold f_law_frame
  simp
  refine HT.C (k := 7) (pick_pool pool6) ?_
  rintro _ ⟨o, rfl, ho⟩
  simp [cut5]
  refine HT.C (k := 6) (pick_pool pool5) ?_
  rintro _ ⟨o2, rfl, ho2⟩
  simp
  refine HT.C (k := 3) (span_ok h0 h1) ?_
  rintro _ ⟨s, rfl, hs⟩
  simp
  refine HT.C (k := 0) (span_ok h0 h1) ?_
  rintro _ ⟨s2, rfl, hs2⟩
  simp
  exact HT.p0 ⟨⟨o, o2, s, s2⟩, rfl, ho, ho2, hs, hs2⟩
theorem near_frame_ok {f : Frame} {t m : Int} (hf : f.ok m) (h0 : 0 ≤ t) (h1 : t ≤ m) (h2 : m ≤ 9000000000) : HT 10 (f_law_near_frame (.mref Pre.ix) f.d (.int t)) fun d => ∃ f : Frame, d = f.d ∧ f.ok (m + 1) := by
  obtain ⟨wo, wa, ⟨a, b⟩, ⟨c, e⟩⟩ := f
  have hd := hf.d
  have ha := hf.a
  have w1 := hf.w1
  have w2 := hf.w2
  dsimp only at hd ha w1 w2
  have a0 : 0 ≤ a := hd.lo
  have a1 : a ≤ m := hd.hi
  have c0 : 0 ≤ c := ha.lo
  have c1 : c ≤ m := ha.hi
  have ex : ∀ (x : Int) (y : Option Int), 0 ≤ x → x ≤ m + 1 → (∀ z, y = some z → x ≤ z ∧ z ≤ m + 1) → Span.ok ⟨x, y⟩ (m + 1) := fun x y q1 q2 q3 => ⟨q1, q2, q3⟩
  have no : ∀ x : Int, ∀ z, (none : Option Int) = some z → x ≤ z ∧ z ≤ m + 1 := fun _ _ e => by cases e
  unfold f_law_near_frame
  simp
  refine HT.draw (k := 9) (by decide) fun w w0' w1' => ?_
  simp
  refine HT.draw (k := 8) (by decide) fun s s0 s1 => ?_
  obtain rfl | rfl | rfl | rfl | rfl | rfl : w = 0 ∨ w = 1 ∨ w = 2 ∨ w = 3 ∨ w = 4 ∨ w = 5 := by omega
  · simp
    exact HT.p0 ⟨⟨wo, wa, ⟨a, b⟩, ⟨c, e⟩⟩, rfl, hf.le (by omega)⟩ _
  · simp
    refine HT.imp (frame_ok h0 (by omega)) ?_
    rintro _ ⟨g, rfl, hg⟩
    exact ⟨g, rfl, hg.le (by omega)⟩
  · obtain rfl | rfl : s = 0 ∨ s = 1 := by omega
    · cases wo with
      | none =>
        simp
        refine HT.C (k := 7) (pick_pool pool2) ?_
        rintro _ ⟨o, rfl, ho⟩
        simp
        exact HT.p0 ⟨⟨o, wa, ⟨a, b⟩, ⟨c, e⟩⟩, rfl, ho, w2, hd.le (by omega), ha.le (by omega)⟩ _
      | some z =>
        simp
        exact HT.p0 ⟨⟨none, wa, ⟨a, b⟩, ⟨c, e⟩⟩, rfl, nm_none, w2, hd.le (by omega), ha.le (by omega)⟩ _
    · cases wa with
      | none =>
        simp
        refine HT.C (k := 7) (pick_pool pool2) ?_
        rintro _ ⟨o, rfl, ho⟩
        simp
        exact HT.p0 ⟨⟨wo, o, ⟨a, b⟩, ⟨c, e⟩⟩, rfl, w1, ho, hd.le (by omega), ha.le (by omega)⟩ _
      | some z =>
        simp
        exact HT.p0 ⟨⟨wo, none, ⟨a, b⟩, ⟨c, e⟩⟩, rfl, w1, nm_none, hd.le (by omega), ha.le (by omega)⟩ _
  · obtain rfl | rfl : s = 0 ∨ s = 1 := by omega
    · by_cases q : 0 < a
      · simp [q]
        exact HT.p0 ⟨⟨wo, wa, ⟨a - 1, b⟩, ⟨c, e⟩⟩, rfl, w1, w2, ex _ _ (by omega) (by omega) fun z ez => by have := hd.up z ez; simp at this; omega, ha.le (by omega)⟩ _
      · simp [q]
        exact HT.p0 ⟨⟨wo, wa, ⟨0, b⟩, ⟨c, e⟩⟩, rfl, w1, w2, ex _ _ (by omega) (by omega) fun z ez => by have := hd.up z ez; simp at this; omega, ha.le (by omega)⟩ _
    · by_cases q : 0 < c
      · simp [q]
        exact HT.p0 ⟨⟨wo, wa, ⟨a, b⟩, ⟨c - 1, e⟩⟩, rfl, w1, w2, hd.le (by omega), ex _ _ (by omega) (by omega) fun z ez => by have := ha.up z ez; simp at this; omega⟩ _
      · simp [q]
        exact HT.p0 ⟨⟨wo, wa, ⟨a, b⟩, ⟨0, e⟩⟩, rfl, w1, w2, hd.le (by omega), ex _ _ (by omega) (by omega) fun z ez => by have := ha.up z ez; simp at this; omega⟩ _
  · obtain rfl | rfl : s = 0 ∨ s = 1 := by omega
    · cases b with
      | none =>
        simp
        exact HT.p0 ⟨⟨wo, wa, ⟨a, none⟩, ⟨c, e⟩⟩, rfl, w1, w2, hd.le (by omega), ha.le (by omega)⟩ _
      | some b =>
        have hb := hd.up b rfl
        simp at hb
        simp
        exact HT.p0 ⟨⟨wo, wa, ⟨a, some (b + 1)⟩, ⟨c, e⟩⟩, rfl, w1, w2, ex _ _ (by omega) (by omega) fun z ez => by cases ez; omega, ha.le (by omega)⟩ _
    · cases e with
      | none =>
        simp
        exact HT.p0 ⟨⟨wo, wa, ⟨a, b⟩, ⟨c, none⟩⟩, rfl, w1, w2, hd.le (by omega), ha.le (by omega)⟩ _
      | some e =>
        have hb := ha.up e rfl
        simp at hb
        simp
        exact HT.p0 ⟨⟨wo, wa, ⟨a, b⟩, ⟨c, some (e + 1)⟩⟩, rfl, w1, w2, hd.le (by omega), ex _ _ (by omega) (by omega) fun z ez => by cases ez; omega⟩ _
  · obtain rfl | rfl : s = 0 ∨ s = 1 := by omega
    · cases b with
      | none =>
        simp
        exact HT.p0 ⟨⟨wo, wa, ⟨a + 1, none⟩, ⟨c, e⟩⟩, rfl, w1, w2, ex _ _ (by omega) (by omega) (no _), ha.le (by omega)⟩ _
      | some b =>
        have hb := hd.up b rfl
        simp at hb
        by_cases q : a < b
        · simp [q]
          exact HT.p0 ⟨⟨wo, wa, ⟨a + 1, some b⟩, ⟨c, e⟩⟩, rfl, w1, w2, ex _ _ (by omega) (by omega) fun z ez => by cases ez; omega, ha.le (by omega)⟩ _
        · simp [q]
          exact HT.p0 ⟨⟨wo, wa, ⟨a, none⟩, ⟨c, e⟩⟩, rfl, w1, w2, ex _ _ (by omega) (by omega) (no _), ha.le (by omega)⟩ _
    · cases e with
      | none =>
        simp
        exact HT.p0 ⟨⟨wo, wa, ⟨a, b⟩, ⟨c + 1, none⟩⟩, rfl, w1, w2, hd.le (by omega), ex _ _ (by omega) (by omega) (no _)⟩ _
      | some e =>
        have hb := ha.up e rfl
        simp at hb
        by_cases q : c < e
        · simp [q]
          exact HT.p0 ⟨⟨wo, wa, ⟨a, b⟩, ⟨c + 1, some e⟩⟩, rfl, w1, w2, hd.le (by omega), ex _ _ (by omega) (by omega) fun z ez => by cases ez; omega⟩ _
        · simp [q]
          exact HT.p0 ⟨⟨wo, wa, ⟨a, b⟩, ⟨c, none⟩⟩, rfl, w1, w2, hd.le (by omega), ex _ _ (by omega) (by omega) (no _)⟩ _
theorem cards_step {t m : Int} {cs : List Card} {d : D} (h0 : 0 ≤ t) (h1 : t ≤ m) (h2 : m ≤ 8000000000) (hl : cs.length ≤ 1000) (hc : ∀ c ∈ cs, c.ok m) : HT 24 (f_law_cards_b1 (.mref Pre.ix) (.int t) d (crs cs)) fun l => ∃ c : Card, l = crs (cs ++ [c]) ∧ c.ok (m + 1) := by
  have fl : (crs cs).all (flatN 3) = true := by
    rw [List.all_eq_true]
    intro z hz
    obtain ⟨c, hc1, rfl⟩ := List.mem_map.mp hz
    exact card_flat (hc c hc1)
  have len := crs_len cs
  unfold f_law_cards_b1
  simp
  refine HT.C (k := 16) (frame_ok h0 (by omega)) ?_
  rintro _ ⟨f, rfl, hf0⟩
  have hf1 : f.ok (m + 1) := hf0.le (by omega)
  by_cases q : cs = []
  · subst q
    simp [crs, nil_eq (ds := []) (n := 2) rfl (by omega)]
    refine HT.draw (k := 15) (by decide) fun p p0 p1 => ?_
    simp
    refine HT.draw (k := 14) (by decide) fun r r0 r1 => ?_
    simp
    exact HT.p0 ⟨⟨f, p, r⟩, rfl, hf1, p0, r0, by show r ≤ 9; omega⟩ _
  · have q2 : crs cs ≠ [] := by unfold crs; simpa using q
    have pos : 0 < (crs cs).length := List.length_pos_iff.mpr q2
    simp [(nil_eq fl (by omega)).2, q2]
    refine HT.draw (k := 15) (by decide) fun w w0 w1 => ?_
    by_cases qw : 0 < w
    · simp [qw]
      refine HT.C (k := 14) (HT.lend (P := fun d => ∃ c : Card, d = c.d ∧ c.ok m) (HT.imp (pick_lst pos (by omega)) fun z hz => ?_) fun z ⟨c, e, _⟩ => by rw [e]; exact card_noLst c) ?_
      · obtain ⟨c, hc1, rfl⟩ := List.mem_map.mp hz
        exact ⟨c, rfl, hc c hc1⟩
      rintro _ ⟨c2, rfl, hc2⟩
      simp
      refine HT.C (k := 2) (HT.le (near_frame_ok hc2.f h0 h1 (by omega)) (by omega : 10 ≤ 12)) ?_
      rintro _ ⟨f3, rfl, hf3⟩
      simp
      refine HT.draw (k := 1) (by decide) fun p p0 p1 => ?_
      simp
      refine HT.draw (k := 0) (by decide) fun r r0 r1 => ?_
      simp [show (crs cs).length < 16777216 by omega]
      exact HT.p0 ⟨⟨f3, p, r⟩, by unfold crs; simp, hf3, p0, r0, by show r ≤ 9; omega⟩ _
    · simp [qw]
      refine HT.draw (k := 14) (by decide) fun p p0 p1 => ?_
      simp
      refine HT.draw (k := 13) (by decide) fun r r0 r1 => ?_
      simp [show (crs cs).length < 16777216 by omega]
      exact HT.p0 ⟨⟨f, p, r⟩, by unfold crs; simp, hf1, p0, r0, by show r ≤ 9; omega⟩ _
theorem cards_ok {n : Nat} {t : Int} (hn : n ≤ 8) (h0 : 0 ≤ t) (h1 : t ≤ 1000000000) : HT (n * 24) (f_law_cards (.mref Pre.ix) (.int n) (.int t)) fun d => ∃ cs : List Card, d = .lst (crs cs) ∧ cs.length = n ∧ ∀ c ∈ cs, c.ok (t + 10) := by
  unfold f_law_cards
  simp [rangeD_one (show (0 : Int) ≤ n by omega) (by omega)]
  refine HT.le (HT.C (k := 0) (ht_loop0 (n := 24) (fun i l => ∃ cs : List Card, l = crs cs ∧ cs.length = i ∧ ∀ c ∈ cs, c.ok (t + i)) (rangeL 0 n) [] ⟨[], rfl, rfl, fun f hf => by cases hf⟩ fun d _ i x hi => ?_) ?_) (by rw [rangeL_length]; simp)
  · rintro ⟨cs, rfl, hl, hc⟩
    rw [rangeL_length] at hi
    refine HT.imp (cards_step h0 (by omega) (by omega) (by omega) hc) ?_
    rintro _ ⟨c, rfl, hc1⟩
    refine ⟨cs ++ [c], rfl, by simp [hl], fun g hg => ?_⟩
    rcases List.mem_append.mp hg with z | z
    · exact (hc g z).le (by omega)
    · simp at z
      subst z
      exact hc1.le (by omega)
  · rintro _ ⟨cs, rfl, hl, hc⟩
    rw [rangeL_length] at hl hc
    exact HT.p0 ⟨cs, rfl, by omega, fun c hc1 => (hc c hc1).le (by omega)⟩ _
theorem pick_two {a b : Str} : HT 1 (f_law_pick (.mref Pre.ix) (.lst [.str a, .str b])) fun d => d = .str a ∨ d = .str b := HT.imp (pick_lst (by simp) (by simp)) fun d hd => by
  simpa only [List.mem_cons, List.not_mem_nil, or_false] using hd
theorem law_row_eq {c : Card} {m : Int} (h : c.ok m) : f_law_row c.d = pure c.row := by
  have b := box_eq h.f
  have r := row_eq (f := c.f) h.p0 h.r0 h.r9
  have e0 : idxD c.f.d (.int 0) = pure (optS c.f.who) := by show idxD (.tup [_, _, _, _]) _ = _; simp
  have e1 : idxD c.f.d (.int 1) = pure (optS c.f.what) := by show idxD (.tup [_, _, _, _]) _ = _; simp
  have e2 : idxD c.f.d (.int 2) = pure c.f.days.d := by show idxD (.tup [_, _, _, _]) _ = _; simp
  have e3 : idxD c.f.d (.int 3) = pure c.f.amts.d := by show idxD (.tup [_, _, _, _]) _ = _; simp
  unfold f_law_row
  simp [e0, e1, e2, e3, b, r]
theorem law_book_eq {cs : List Card} {m : Int} (hc : cs.length ≤ 6) (ok : ∀ c ∈ cs, c.ok m) : f_law_book (.lst (crs cs)) = pure (bookD cs) := by
  have l : lc (fun _ => pure true) (fun card => f_law_row card) (crs cs) = pure (rws cs) := lc_all Card.d Card.row cs (fun c hc => law_row_eq (ok c hc)) (by rw [PySem.sizeLine_eq]; omega)
  have b := book_init (cs := cs) hc
  unfold f_law_book
  simp [l, b]
theorem isi_bookT (cs : List Card) : isiD clsL [.o "Book"] (bookD cs) = pure (.bl true) := isi_o_ins (o := "Book") (c := "Book") (by decide +kernel) (by decide +kernel) _ _
theorem need_book_ok (cs : List Card) : f_need_book (bookD cs) = pure .non := by
  unfold f_need_book
  simp [isi_bookT]
theorem fld_rowsT (cs : List Card) : fldD tab "book_rows" (bookD cs) = pure (.tup (rws cs)) := by funext S; rfl
theorem lenX_bookT {cs : List Card} (hl : cs.length ≤ 6) : lenX [("Book", f_Book_len)] [bookD cs] = pure (.int cs.length) := by
  have e : f_Book_len (bookD cs) = pure (.int cs.length) := by
    unfold f_Book_len
    simp [fld_rowsT, rws_len, show cs.length ≤ 16777216 by omega]
  show B (noE (f_Book_len (bookD cs))) lenI = _
  rw [e, noE_pure, B_pure]
  unfold lenI
  exact if_pos ⟨by omega, by omega⟩
theorem need_ix_ok {cs : List Card} (hl : cs.length ≤ 6) {n : Nat} (hn : n < cs.length) : f_need_index (bookD cs) (.int n) = pure .non := by
  have l := lenX_bookT hl
  have d : f_is_day (.int n) = pure (.bl true) := by
    rw [day_eq (fine_int _)]
    show pure (D.bl (decide ((0 : Int) ≤ n))) = _
    rw [decide_eq_true (by omega)]
  unfold f_need_index
  simp [d, l, show ¬ (cs.length : Int) ≤ n by omega]
section
variable {cs : List Card} {m : Int}
theorem range_mem {n : Nat} {d : D} (h : d ∈ rangeL 0 n) : ∃ i : Nat, d = .int i ∧ i < n := by
  unfold rangeL at h
  obtain ⟨i, hi, rfl⟩ := List.mem_map.mp h
  have := List.mem_range.mp hi
  exact ⟨i, by show D.int (0 + (i : Int)) = _; rw [Int.zero_add], by omega⟩
end
theorem live_step {w : Str} {f u : List Str} (h : w ∈ every) (hf : f.length ≤ 1000) (hu : u.length ≤ 1000) : f_live_of_b1 (.str w) (wds f, wds u) = pure (if kindW w ∉ u ∧ ent ∉ u then (wds (f ++ [w]), wds (u ++ [kindW w])) else (wds f, wds u)) := by
  have lf := wds_len f
  have lu := wds_len u
  have i2 : inD true (.str (Str.ofString "entry")) (.lst (wds u)) = pure (.bl (!decide (ent ∈ u))) := in_lst true ent u
  unfold f_live_of_b1
  simp [kind_ix h, in_lst, i2]
  by_cases q1 : kindW w ∈ u
  · simp [q1]
  · by_cases q2 : ent ∈ u
    · simp [q1, q2]
    · simp [q1, q2, show (wds f).length < 16777216 by omega, show (wds u).length < 16777216 by omega, kind_ix h]
      unfold wds; simp
theorem live_loop : ∀ (ws f u : List Str), (∀ w ∈ ws, w ∈ every) → f.length + ws.length ≤ 900 → u.length + ws.length ≤ 900 → loopN f_live_of_b1 (wds ws) (wds f, wds u) = pure (wds (liveGo ws f u).1, wds (liveGo ws f u).2)
  | [], f, u, _, _, _ => rfl
  | w :: ws, f, u, h, hf, hu => by
    rw [List.length_cons] at hf hu
    show B (f_live_of_b1 (.str w) (wds f, wds u)) (fun y => loopN f_live_of_b1 (wds ws) y) = _
    rw [live_step (h w (by simp)) (by omega) (by omega), B_pure]
    unfold liveGo
    have h' := fun z hz => h z (List.mem_cons_of_mem w hz)
    by_cases q : kindW w ∉ u ∧ ent ∉ u
    · rw [if_pos q, if_pos q]
      exact live_loop ws _ _ h' (by simp; omega) (by simp; omega)
    · rw [if_neg q, if_neg q]
      exact live_loop ws _ _ h' (by omega) (by omega)
theorem live_eq {ws : List Str} (h : Ws ws) : f_live_of (.lst (wds ws)) = pure (.tup (wds (live ws))) ∧ f_live_of (.tup (wds ws)) = pure (.tup (wds (live ws))) := by
  have l := live_loop ws [] [] h.mem (by have := nodup_len h; simp; omega) (by have := nodup_len h; simp; omega)
  have l' : loopN f_live_of_b1 (wds ws) ([], []) = pure (wds (liveGo ws [] []).1, wds (liveGo ws [] []).2) := l
  constructor <;> (unfold f_live_of; simp [l']; rfl)
theorem rule_eq {ws : List Str} (h : Ws ws) : f_Rule_init (.lst (wds ws)) = pure (ruleD ws) ∧ f_Rule_init (.tup (wds ws)) = pure (ruleD ws) := by
  have l1 := lc_words h
  have l2 := all_words ws
  have l3 := lenSet_ws h
  have l4 := live_eq h
  have len := wds_len ws
  have sz : (wds ws).length ≤ 16777216 := by have := nodup_len h; omega
  constructor
  · unfold f_Rule_init f_are_words f_is_list
    simp [l1, l2, l3.1, l4.1, len, -List.map_const_fun]
  · unfold f_Rule_init f_are_words f_is_list
    simp [l1, l2, l3.2, l4.2, len, -List.map_const_fun]
theorem isi_rule (ws : List Str) : isiD clsL [.o "Rule"] (ruleD ws) = pure (.bl true) := isi_o_ins (o := "Rule") (c := "Rule") (by decide +kernel) (by decide +kernel) _ _
theorem fld_words (ws : List Str) : fldD tab "rule_words" (ruleD ws) = pure (.tup (wds ws)) := by funext S; rfl

theorem mixed_go {n : Nat} : ∀ (k fuel : Nat) (left found : List D), left.length = k → k < fuel → left.length + found.length ≤ 1000 → left.all (flatN n) = true → n < 64 →
    HT k (whileN f_law_mixed_w1c (f_law_mixed_w2b (.mref Pre.ix)) fuel (left, found)) fun r => r.2.Perm (found ++ left)
  | k, 0, _, _, _, h, _, _, _ => by omega
  | 0, fuel + 1, left, found, hk, _, _, hf, hn => by
    have : left = [] := List.length_eq_zero_iff.mp hk
    subst this
    have c : f_law_mixed_w1c ([], found) = pure false := by
      unfold f_law_mixed_w1c
      simp
    unfold whileN
    rw [c]
    exact HT.p0 (by simp)
  | k + 1, fuel + 1, left, found, hk, hf1, hl, hf, hn => by
    have c : f_law_mixed_w1c (left, found) = pure true := by
      have : left ≠ [] := fun e => by rw [e] at hk; cases hk
      unfold f_law_mixed_w1c
      simp [(nil_eq hf hn).2, show left.isEmpty = false by cases left with | nil => exact absurd rfl this | cons _ _ => rfl]
    unfold whileN
    rw [c]
    show HT (k + 1) (B (f_law_mixed_w2b (.mref Pre.ix) (left, found)) fun y => whileN _ _ fuel y) _
    have b : f_law_mixed_w2b (.mref Pre.ix) (left, found) = B (drawM [.mref Pre.ix, .int left.length]) fun x => B (appPop found left x) fun both => pure (both.2, both.1) := by
      unfold f_law_mixed_w2b
      simp
    rw [b]
    simp only [B_Bs]
    refine HT.draw (k := k) (by omega) fun i i0 i1 => ?_
    obtain ⟨d, e1, e2⟩ := pop_at i0 i1 (by omega)
    unfold appPop
    simp [e2, show found.length < 16777216 by omega]
    have hi : i.toNat < left.length := by omega
    refine HT.imp (mixed_go k fuel (left.eraseIdx i.toNat) (found ++ [d]) ?_ (by omega) ?_ ?_ hn) fun r hr => ?_
    · rw [List.length_eraseIdx, if_pos hi]; omega
    · rw [List.length_eraseIdx, if_pos hi, List.length_append, List.length_singleton]; omega
    · rw [List.all_eq_true] at hf ⊢
      exact fun x hx => hf x (List.mem_of_mem_eraseIdx hx)
    · refine hr.trans ?_
      rw [List.append_assoc]
      refine List.Perm.append_left _ ?_
      have hd : d = left[i.toNat] := by
        rw [List.getElem?_eq_getElem hi] at e1
        exact (Option.some.inj e1).symm
      rw [hd]
      exact erase_perm left i.toNat hi
theorem mixed_ok {n : Nat} {xs : List D} (hl : xs.length ≤ 500) (hf : xs.all (flatN n) = true) (hn : n < 64) : HT xs.length (f_law_mixed (.mref Pre.ix) (.lst xs)) fun d => ∃ ys, d = .lst ys ∧ ys.Perm xs := by
  unfold f_law_mixed
  simp
  refine HT.le (HT.C (k := 0) (mixed_go xs.length 1100 xs [] rfl (by omega) (by simp; omega) hf hn) ?_) (by omega)
  intro r hr
  exact HT.p0 ⟨r.2, rfl, by simpa using hr⟩
theorem wording_ok : HT 14 (f_law_wording (.mref Pre.ix) (.int 8)) fun d => ∃ ws, d = .lst (wds ws) ∧ Ws ws := by
  have ev : f_law_every = pure (.lst (wds every)) := by unfold f_law_every; simp; rfl
  unfold f_law_wording
  simp [ev]
  refine HT.C (k := 6) (HT.le (mixed_ok (by decide) every_flat (by omega)) (by decide : (wds every).length ≤ 8)) ?_
  rintro _ ⟨ys, rfl, hp⟩
  obtain ⟨vs, rfl, pv⟩ := perm_strs (ws := every) hp
  have wv : Ws vs := ⟨pv.nodup_iff.mpr every_nd, fun w hw => pv.mem_iff.mp hw⟩
  simp
  refine HT.draw (k := 5) (by decide) fun k k0 k1 => ?_
  have w2 : Ws (vs.take k.toNat) := wv.sub (List.take_sublist _ _)
  simp [cut_take _ k0, ← List.map_take]
  generalize vs.take k.toNat = us at *
  refine HT.draw (k := 4) (by decide) fun w w0 w1 => ?_
  by_cases q : w = 0
  · subst q
    simp
    refine HT.C (k := 3) pick_two ?_
    intro a ha
    obtain ⟨a, rfl, ma⟩ : ∃ x, a = .str x ∧ (x = "narrowest" ∨ x = "widest") := by
      rcases ha with rfl | rfl
      · exact ⟨_, rfl, .inl rfl⟩
      · exact ⟨_, rfl, .inr rfl⟩
    simp
    refine HT.C (k := 2) pick_two ?_
    intro b hb
    obtain ⟨b, rfl, mb⟩ : ∃ x, b = .str x ∧ (x = "newest" ∨ x = "oldest") := by
      rcases hb with rfl | rfl
      · exact ⟨_, rfl, .inl rfl⟩
      · exact ⟨_, rfl, .inr rfl⟩
    simp
    have l1 : ∀ mt : D → M Bool, (∀ x : Str, mt (.str x) = pure ((!decide (x = a) && !decide (x = b)))) → lc mt (fun single => pure single) (us.map D.str) = pure (wds (us.filter fun x => (!decide (x = a) && !decide (x = b)))) := fun mt hm => by
      rw [lc_pureF (fun d => match d with | .str x => (!decide (x = a) && !decide (x = b)) | _ => false) (fun d => d) (fun d hd => ?_) (by rw [List.length_map]; exact size_big _ (by have := nodup_len w2; omega))]
      · unfold wds
        rw [List.map_id', List.filter_map]
        rfl
      · obtain ⟨x, _, rfl⟩ := List.mem_map.mp hd
        exact ⟨hm x, fun _ => rfl⟩
    refine HT.Bp (l1 _ fun x => ?_) ?_
    · have := in_tup true x [a, b]
      unfold wds at this
      simp only [List.map_cons, List.map_nil] at this
      simp [this]
    simp
    refine HT.draw (k := 1) (by decide) fun j j0 j1 => ?_
    have sub : ((us.filter fun x => (!decide (x = a) && !decide (x = b))).take j.toNat).Sublist us := (List.take_sublist _ _).trans List.filter_sublist
    have l3 : ((us.filter fun x => (!decide (x = a) && !decide (x = b))).take j.toNat).length ≤ 8 := Nat.le_trans sub.length_le (nodup_len w2)
    have nm : ∀ x ∈ (us.filter fun x => (!decide (x = a) && !decide (x = b))).take j.toNat, x ≠ a ∧ x ≠ b := fun x hx => by
      have := (List.mem_filter.mp ((List.take_sublist _ _).subset hx)).2
      simp at this
      exact this
    have w3 := w2.sub sub
    rw [show (wds (us.filter fun x => (!decide (x = a) && !decide (x = b)))) = (us.filter fun x => (!decide (x = a) && !decide (x = b))).map D.str from rfl]
    simp [cut_take _ j0, ← List.map_take]
    generalize (us.filter fun x => (!decide (x = a) && !decide (x = b))).take j.toNat = ts at *
    rw [if_pos (by omega), if_pos (by omega)]
    have ne : a ≠ b := by rcases ma with rfl | rfl <;> rcases mb with rfl | rfl <;> decide +kernel
    refine HT.p0 ⟨a :: (ts ++ [b]), by unfold wds; simp, ?_, ?_⟩ _
    · rw [List.nodup_cons, List.nodup_append]
      refine ⟨?_, w3.nd, by simp, ?_⟩
      · rw [List.mem_append, List.mem_singleton]
        rintro (z | z)
        · exact (nm a z).1 rfl
        · exact ne z
      · intro x hx y hy
        rw [List.mem_singleton.mp hy]
        exact (nm x hx).2
    · intro x hx
      rcases List.mem_cons.mp hx with rfl | hx
      · rcases ma with rfl | rfl <;> decide +kernel
      rcases List.mem_append.mp hx with hx | hx
      · exact w3.mem x hx
      · rw [List.mem_singleton.mp hx]
        rcases mb with rfl | rfl <;> decide +kernel
  · simp [q]
    exact HT.p0 ⟨us, rfl, w2⟩ _


def Card.py (c : Card) : PyData := .tuple [c.f.py, .int c.p, .int c.r]
def mxI (a c : Int) : Int := if c > a then c else a
def mnI (a c : Int) : Int := if c < a then c else a
def cbS (s t : Span) : Option Span := match s.b, t.b with
  | none, none => some ⟨mxI s.a t.a, none⟩
  | some x, none => if mxI s.a t.a ≤ x then some ⟨mxI s.a t.a, some x⟩ else none
  | none, some y => if mxI s.a t.a ≤ y then some ⟨mxI s.a t.a, some y⟩ else none
  | some x, some y => if mxI s.a t.a ≤ mnI x y then some ⟨mxI s.a t.a, some (mnI x y)⟩ else none
def cbN (o p : Option Str) : Option (Option Str) := match o, p with
  | none, p => some p
  | some x, none => some (some x)
  | some x, some y => if x = y then some (some x) else none
def cb (f g : Frame) : Option Frame := match cbS f.days g.days, cbS f.amts g.amts, cbN f.who g.who, cbN f.what g.what with
  | some d, some a, some x, some y => some ⟨x, y, d, a⟩
  | _, _, _, _ => none
def mt (o : Option Frame) (fs : List Frame) : Option Frame := fs.foldl (fun o g => o.bind (cb · g)) o



section
variable {ws : List Str} {cs : List Card} {c e : Card} {i j : Nat} {m : Int}
theorem parting_eq (hw : ∀ w ∈ ws, w ∈ every) (h1 : cs[i]? = some c) (h2 : cs[j]? = some e) (hc : c.ok m) (he : e.ok m) : f_parting_word (.tup (wds ws)) (.tup (rws cs)) (.int i) (.int j) = pure (optS (partW ws c e i j)) := by
  have l := loopS_find (f := f_parting_word_b1 (.tup (rws cs)) (.int i) (.int j)) (p := partP [] c e i j) (ws := ws) fun w h => by
    unfold f_parting_word_b1 partP
    simp [puts_eq (hw w h) h1 h2 hc he, puts_eq (hw w h) h2 h1 he hc]
    cases aheadB w c e i j <;> cases aheadB w e c j i <;> simp
  unfold f_parting_word partW
  simp [l]
  cases ws.find? (partP [] c e i j) <;> simp
theorem beat_eq (hw : ∀ w ∈ ws, w ∈ every) (h1 : cs[i]? = some c) (h2 : cs[j]? = some e) (hc : c.ok m) (he : e.ok m) : f_does_beat (.tup (wds ws)) (.tup (rws cs)) (.int i) (.int j) = pure (.bl (beatB ws c e i j)) := by
  unfold f_does_beat beatB
  simp [parting_eq hw h1 h2 hc he]
  cases q : partW ws c e i j with
  | none => simp
  | some w => simp [puts_eq (hw w (find_mem q)) h1 h2 hc he]
end









def fr33 (a b : Int) : Frame := ⟨none, none, ⟨a, some b⟩, ⟨0, none⟩⟩
def fr0 : Frame := ⟨none, none, ⟨0, none⟩, ⟨0, none⟩⟩
theorem needR_ok (ws : List Str) : f_need_rule (ruleD ws) = pure .non := by
  unfold f_need_rule
  simp [isi_rule]
instance (x y : Str) : Decidable (Apart x y) := inferInstanceAs (Decidable (_ ∧ _))









def secW (a b : Str) : Option Str := if kindW a = kindW b then none else some b
def ldr (w : Str) (p : Option Str) : Nat := if kindW w = ent then (if w = "newest" then 1 else 0) else match p with
  | some q => if kindW q = ent then (if q = "newest" then 0 else 1) else 0
  | none => 0
def put1 (b : Nat) (w : Str) (st : List Frame × List Int × List Int) : List Frame × List Int × List Int :=
  (if w = "narrowest" ∨ w = "widest" then st.1.set (if w = "narrowest" then b else 1 - b) (fr33 1 2) else st.1,
   if w = "cheapest" ∨ w = "dearest" then st.2.1.set (if w = "dearest" then b else 1 - b) 2 else st.2.1,
   if w = "highest" ∨ w = "lowest" then st.2.2.set (if w = "highest" then b else 1 - b) 1 else st.2.2)
def bookC (a : Str) (s : Option Str) : List Card :=
  let b := ldr a s
  let st := put1 b a ([fr0, fr0], [1, 1], [0, 0])
  let st := match s with
    | some q => put1 (1 - b) q st
    | none => st
  (st.1.zip (st.2.1.zip st.2.2)).map fun t => ⟨t.1, t.2.1, t.2.2⟩
def prtC (cs : List Card) (w : Str) : Bool := match cs[0]?, cs[1]? with
  | some c, some e => partP [] c e 0 1 w
  | _, _ => false
def tops (cs : List Card) (R : List Str) : List Nat := [0, 1].filter (topP R cs [0, 1])
theorem d1 : ∀ a ∈ every, ∀ b ∈ every, a ≠ b → tops (bookC a (secW a b)) [a] ≠ tops (bookC a (secW a b)) [b] ∧ prtC (bookC a (secW a b)) a = true ∧ prtC (bookC a (secW a b)) b = true := by decide +kernel
theorem d2 : ∀ a ∈ every, tops (bookC a none) [a] ≠ tops (bookC a none) [] ∧ prtC (bookC a none) a = true := by decide +kernel
theorem d3 : ∀ a ∈ every, ∀ b ∈ every, ∀ p ∈ every, kindW p ≠ kindW a → kindW p ≠ kindW b → kindW p ≠ ent → prtC (bookC a (secW a b)) p = false := by decide +kernel
section
variable {ws : List Str} {cs : List Card} {m : Int}
theorem two_ok (hl : cs.length ≤ 6) {i j : Nat} (hi : i < cs.length) (hj : j < cs.length) : f_need_two (bookD cs) (.int i) (.int j) = pure .non := by
  unfold f_need_two
  simp [need_book_ok, need_ix_ok hl hi, need_ix_ok hl hj]
theorem parts_eq (hw : Ws ws) (hl : cs.length ≤ 6) {i j : Nat} (hi : i < cs.length) (hj : j < cs.length) (ok : ∀ c ∈ cs, c.ok m) : f_parts (ruleD ws) (bookD cs) (.int i) (.int j) = pure (optS (partW ws cs[i] cs[j] i j)) := by
  have p := parting_eq hw.mem (List.getElem?_eq_getElem hi) (List.getElem?_eq_getElem hj) (ok _ (List.getElem_mem hi)) (ok _ (List.getElem_mem hj))
  have ic : isC "Book" (bookD cs) = pure () := by funext S; rfl
  have fr : f_Book_rows (bookD cs) = pure (.tup (rws cs)) := by
    unfold f_Book_rows
    rw [B_pure, fld_rowsT]
  have t := two_ok hl hi hj
  unfold f_parts
  simp [needR_ok, t, ic, fr, isC_rule, f_Rule_words, fld_words, p]
theorem beats_eq (hw : Ws ws) (hl : cs.length ≤ 6) {i j : Nat} (hi : i < cs.length) (hj : j < cs.length) (ok : ∀ c ∈ cs, c.ok m) : f_beats (ruleD ws) (bookD cs) (.int i) (.int j) = pure (.bl (beatB ws cs[i] cs[j] i j)) := by
  have p := beat_eq hw.mem (List.getElem?_eq_getElem hi) (List.getElem?_eq_getElem hj) (ok _ (List.getElem_mem hi)) (ok _ (List.getElem_mem hj))
  have ic : isC "Book" (bookD cs) = pure () := by funext S; rfl
  have fr : f_Book_rows (bookD cs) = pure (.tup (rws cs)) := by
    unfold f_Book_rows
    rw [B_pure, fld_rowsT]
  have t := two_ok hl hi hj
  unfold f_beats
  simp [needR_ok, t, ic, fr, isC_rule, f_Rule_words, fld_words, p]
end

end LW

namespace LW
open PySem PySem.Spec PyProof.Rows L2 RM
variable [PgW]
def conL : List (Str × Str) := [("narrowest", "widest"), ("widest", "narrowest"), ("newest", "oldest"), ("oldest", "newest"), ("cheapest", "dearest"), ("dearest", "cheapest"), ("highest", "lowest"), ("lowest", "highest")]
def con (w : Str) : Str := (conL.lookup w).getD w
def turnW (w : Str) : Str := if w == "newest" || w == "oldest" then con w else w
theorem con_mem : ∀ w ∈ every, con w ∈ every := by decide +kernel
theorem con_con : ∀ w ∈ every, con (con w) = w := by decide +kernel
theorem turn_mem : ∀ w ∈ every, turnW w ∈ every := by decide +kernel
theorem turn_turn : ∀ w ∈ every, turnW (turnW w) = w := by decide +kernel
theorem con_ahead {w : Str} (hw : w ∈ every) (c e : Card) (i j : Int) : aheadB (con w) c e i j = aheadB w e c j i := by
  rcases every_or hw with rfl | rfl | rfl | rfl | rfl | rfl | rfl | rfl
  · rw [show con "narrowest" = "widest" by decide +kernel]; simp [aheadB]
  · rw [show con "widest" = "narrowest" by decide +kernel]; simp [aheadB]
  · rw [show con "newest" = "oldest" by decide +kernel]; simp [aheadB]
  · rw [show con "oldest" = "newest" by decide +kernel]; simp [aheadB]
  · rw [show con "cheapest" = "dearest" by decide +kernel]; simp [aheadB]
  · rw [show con "dearest" = "cheapest" by decide +kernel]; simp [aheadB]
  · rw [show con "highest" = "lowest" by decide +kernel]; simp [aheadB]
  · rw [show con "lowest" = "highest" by decide +kernel]; simp [aheadB]
theorem turn_ahead {w : Str} (hw : w ∈ every) (c e : Card) (i j i' j' : Int) (h1 : i < j ↔ j' < i') (h2 : j < i ↔ i' < j') : aheadB (turnW w) c e i' j' = aheadB w c e i j := by
  rcases every_or hw with rfl | rfl | rfl | rfl | rfl | rfl | rfl | rfl
  · rw [show turnW "narrowest" = "narrowest" by decide +kernel]; simp [aheadB]
  · rw [show turnW "widest" = "widest" by decide +kernel]; simp [aheadB]
  · rw [show turnW "newest" = "oldest" by decide +kernel]; simp [aheadB, h1, h2]
  · rw [show turnW "oldest" = "newest" by decide +kernel]; simp [aheadB, h1, h2]
  · rw [show turnW "cheapest" = "cheapest" by decide +kernel]; simp [aheadB]
  · rw [show turnW "dearest" = "dearest" by decide +kernel]; simp [aheadB]
  · rw [show turnW "highest" = "highest" by decide +kernel]; simp [aheadB]
  · rw [show turnW "lowest" = "lowest" by decide +kernel]; simp [aheadB]
theorem con_eq {w : Str} (hw : w ∈ every) : f_law_contrary (.str w) = pure (.str (con w)) := by
  rcases every_or hw with rfl | rfl | rfl | rfl | rfl | rfl | rfl | rfl <;> rfl
theorem turned_eq {w : Str} (hw : w ∈ every) : f_law_turned (.str w) = pure (.str (turnW w)) := by
  rcases every_or hw with rfl | rfl | rfl | rfl | rfl | rfl | rfl | rfl <;> rfl
theorem ws_map {ws : List Str} (h : Ws ws) {f : Str → Str} (h1 : ∀ w ∈ every, f w ∈ every) (h2 : ∀ w ∈ every, f (f w) = w) : Ws (ws.map f) := by
  refine ⟨?_, fun w hw => ?_⟩
  · have nd := List.nodup_iff_pairwise_ne.mp h.nd
    refine List.nodup_iff_pairwise_ne.mpr (List.pairwise_map.mpr (nd.imp_of_mem fun {a b} ha hb ne e => ne ?_))
    rw [← h2 a (h.mem a ha), ← h2 b (h.mem b hb), e]
  · obtain ⟨v, hv, rfl⟩ := List.mem_map.mp hw
    exact h1 v (h.mem v hv)
theorem find_map {f : Str → Str} {P Q : Str → Bool} : ∀ {ws : List Str}, (∀ w ∈ ws, P (f w) = Q w) → (ws.map f).find? P = (ws.find? Q).map f
  | [], _ => rfl
  | w :: ws, h => by
    have ih := find_map (f := f) (P := P) (Q := Q) (ws := ws) fun z hz => h z (List.mem_cons_of_mem _ hz)
    rw [List.map_cons, List.find?_cons, List.find?_cons, h w (List.mem_cons_self ..), ih]
    cases Q w <;> rfl
section
variable {ws : List Str} {c e : Card} {i j : Nat}
theorem part_swap : partW ws e c j i = partW ws c e i j := by
  unfold partW
  congr 1
  funext w
  unfold partP
  exact Bool.or_comm ..
theorem part_con (hw : Ws ws) : partW (ws.map con) c e i j = (partW ws c e i j).map con := find_map fun w m => by
  unfold partP
  rw [con_ahead (hw.mem w m), con_ahead (hw.mem w m)]
  exact Bool.or_comm ..
theorem part_mem {w : Str} (h : partW ws c e i j = some w) : w ∈ ws ∧ (aheadB w c e i j || aheadB w e c j i) = true := by
  unfold partW at h
  exact ⟨List.mem_of_find?_eq_some h, (show partP [] c e i j w = true from List.find?_some h)⟩
theorem beat_con (hw : Ws ws) : beatB (ws.map con) e c j i = beatB ws c e i j := by
  unfold beatB
  rw [part_con hw, part_swap]
  cases q : partW ws c e i j with
  | none => rfl
  | some w => exact con_ahead (hw.mem w (part_mem q).1) e c j i
theorem beat_turn (hw : Ws ws) {i' j' : Nat} (h1 : i < j ↔ j' < i') (h2 : j < i ↔ i' < j') : beatB (ws.map turnW) c e i' j' = beatB ws c e i j := by
  have pe : partW (ws.map turnW) c e i' j' = (partW ws c e i j).map turnW := find_map fun w m => by
    unfold partP
    rw [turn_ahead (hw.mem w m) c e i j i' j' (by omega) (by omega), turn_ahead (hw.mem w m) e c j i j' i' (by omega) (by omega)]
  unfold beatB
  rw [pe]
  cases q : partW ws c e i j with
  | none => rfl
  | some w => exact turn_ahead (hw.mem w (part_mem q).1) c e i j i' j' (by omega) (by omega)
end
end LW

namespace LW
open PySem PySem.Spec PyProof.Rows L2 RM
variable [PgW]
section
variable {ws : List Str} {cs : List Card} {m : Int}
theorem ahead_eq {w : Str} (hw : w ∈ every) (hl : cs.length ≤ 6) {i j : Nat} (hi : i < cs.length) (hj : j < cs.length) (ok : ∀ c ∈ cs, c.ok m) : f_ahead (.str w) (bookD cs) (.int i) (.int j) = pure (.bl (aheadB w cs[i] cs[j] i j)) := by
  have p := puts_eq hw (List.getElem?_eq_getElem hi) (List.getElem?_eq_getElem hj) (ok _ (List.getElem_mem hi)) (ok _ (List.getElem_mem hj))
  have br : f_Book_rows (bookD cs) = pure (.tup (rws cs)) := by unfold f_Book_rows; rw [B_pure, fld_rows]
  unfold f_ahead
  simp [is_word_eq hw, two_ok hl hi hj, isC_book, br, p]
theorem beat_none {c e : Card} {i j : Nat} (q : partW ws c e i j = none) : beatB ws c e i j = false := by unfold beatB; rw [q]
theorem beat_some {c e : Card} {i j : Nat} {w : Str} (q : partW ws c e i j = some w) : beatB ws c e i j = aheadB w c e i j := by unfold beatB; rw [q]
theorem neBl (a b : Bool) : neD (.bl a) (.bl b) = (pure (.bl (!(a == b))) : M D) := rfl
theorem neStr (a b : Str) : neD (.str a) (.str b) = (pure (.bl (!(a == b))) : M D) := rfl
theorem rev_at {i : Nat} (hi : i < cs.length) : ∃ h : cs.length - 1 - i < cs.reverse.length, cs.reverse[cs.length - 1 - i] = cs[i] := by
  refine ⟨by rw [List.length_reverse]; omega, ?_⟩
  rw [List.getElem_reverse]
  congr 1
  omega
theorem pair_ok (hw : Ws ws) (hl : cs.length ≤ 6) (ok : ∀ c ∈ cs, c.ok m) {i j : Nat} (hi : i < cs.length) (hj : j < cs.length) :
    f_law_b1 (ruleD ws) (bookD cs) (.int cs.length) (ruleD (ws.map con)) (ruleD (ws.map turnW)) (bookD cs.reverse) (.int i) (.int j) () = pure (.inr ()) := by
  have wc := ws_map hw con_mem con_con
  have wt := ws_map hw turn_mem turn_turn
  have p1 := parts_eq hw hl hi hj ok
  have b1 := beats_eq hw hl hi hj ok
  have b2 := beats_eq hw hl hj hi ok
  have p3 := parts_eq wc hl hi hj ok
  have b3 := beats_eq wc hl hj hi ok
  obtain ⟨ri, ei⟩ := rev_at hi
  obtain ⟨rj, ej⟩ := rev_at hj
  have b4 := beats_eq wt (by rw [List.length_reverse]; exact hl) ri rj (fun c hc => ok c (List.mem_reverse.mp hc))
  rw [ei, ej, beat_turn hw (i := i) (j := j) (by omega) (by omega)] at b4
  rw [part_con hw] at p3
  rw [beat_con hw] at b3
  have ni : (cs.length : Int) - 1 - i = ((cs.length - 1 - i : Nat) : Int) := by omega
  have nj : (cs.length : Int) - 1 - j = ((cs.length - 1 - j : Nat) : Int) := by omega
  have nn : notNonD .non .non = (pure (.bl false) : M D) := rfl
  have ns : ∀ w : Str, notNonD (.str w) .non = (pure (.bl true) : M D) := fun w => rfl
  have eo : ∀ a b : Bool, eOr (pure (D.bl a)) (pure (D.bl b)) = (pure (.bl (a || b)) : M D) := fun a b => by cases a <;> rfl
  have to : ∀ a b : Bool, (RM.tOr (pure a) (pure b) : RM.M Bool) = pure (a || b) := fun a b => by cases a <;> cases b <;> rfl
  have ta : ∀ a b : Bool, (RM.tAnd (pure a) (pure b) : RM.M Bool) = pure (a && b) := fun a b => by cases a <;> cases b <;> rfl
  unfold f_law_b1
  cases q : partW ws cs[i] cs[j] i j with
  | none =>
    rw [q] at p1 p3
    rw [beat_none q] at b1 b3 b4
    rw [beat_none (part_swap.trans q)] at b2
    simp only [callB, argsB_cons, argsB_nil, B_pure, List.append_nil, List.cons_append, List.nil_append, l1_at, l4_at, p1, b1, b2, b3, optS, nn, eo, neBl, tst_pure, ifM_pure, to, ta, eqD_int, subD_int, ni, nj, b4, Bool.false_and, Bool.and_false, Bool.or_false]
    rfl
  | some w =>
    obtain ⟨mw, pw⟩ := part_mem q
    have hwe := hw.mem w mw
    have a1 := ahead_eq hwe hl hi hj ok
    have ce := con_eq hwe
    rw [q] at p1 p3
    rw [beat_some q] at b1 b3 b4
    rw [beat_some (part_swap.trans q)] at b2
    have irr : i = j → False := fun e => by
      subst e
      rw [aheadB_irr hwe] at pw
      cases pw
    have eij : ((i : Int) == (j : Int)) = false := beq_eq_false_iff_ne.mpr fun e => irr (by omega)
    have as1 := @aheadB_asym _ w hwe cs[i] cs[j] i j
    simp only [callB, argsB_cons, argsB_nil, B_pure, List.append_nil, List.cons_append, List.nil_append, l1_at, l3_at, l4_at, p1, b1, b2, b3, p3, optS, ns, eo, neBl, neStr, tst_pure, ifM_pure, to, ta, eqD_int, subD_int, ni, nj, b4, a1, ce, Option.map_some, eij]
    have cw : (con w == con w) = true := beq_self_eq_true _
    generalize aheadB w cs[i] cs[j] i j = x at *
    generalize aheadB w cs[j] cs[i] j i = y at *
    cases x with
    | false => cases y with
      | false => exact absurd pw (by decide)
      | true => rw [cw]; rfl
    | true => cases y with
      | false => rw [cw]; rfl
      | true => exact absurd (as1 rfl) (by decide)
theorem loopS_nat {f : D → Unit → M (D ⊕ Unit)} {n : Nat} (h : ∀ i : Nat, i < n → f (.int i) () = pure (.inr ())) : loopS f (rangeL 0 n) () = pure (.inr ()) := by
  have all : ∀ xs : List D, (∀ x ∈ xs, f x () = pure (.inr ())) → loopS f xs () = pure (.inr ()) := by
    intro xs
    induction xs with
    | nil => intro _; rfl
    | cons x xs ih =>
      intro h
      show B (f x ()) _ = _
      rw [h x (List.mem_cons_self ..), B_pure]
      exact ih fun y hy => h y (List.mem_cons_of_mem _ hy)
  refine all _ fun x hx => ?_
  obtain ⟨i, rfl, hi⟩ := range_mem hx
  exact h i hi
theorem first_ok (hw : Ws ws) (hl : cs.length ≤ 6) (ok : ∀ c ∈ cs, c.ok m) {i : Nat} (hi : i < cs.length) :
    f_law_b2 (ruleD ws) (bookD cs) (.int cs.length) (ruleD (ws.map con)) (ruleD (ws.map turnW)) (bookD cs.reverse) (.int i) () = pure (.inr ()) := by
  have rg := rangeD_one (show (0 : Int) ≤ cs.length by omega) (by omega)
  unfold f_law_b2
  rw [B_pure, rg, B_pure, loopS_nat fun j hj => pair_ok hw hl ok hi hj, B_pure]
  rfl
theorem round_ok {d : D} : HT 200 (f_law_b3 (.mref Pre.ix) d ()) fun r => r = .inr () := by
  unfold f_law_b3
  simp
  refine HT.C (k := 180) (HT.le wording_ok (by omega : 14 ≤ 20)) ?_
  rintro _ ⟨ws, rfl, hw⟩
  simp
  refine HT.draw (k := 179) (by decide) fun i i0 i1 => ?_
  obtain ⟨n, hn, n5⟩ : ∃ n : Nat, 2 + i = n ∧ n ≤ 5 := ⟨(2 + i).toNat, by omega, by omega⟩
  simp [hn]
  have co : HT (n * 24) (f_law_cards (.mref Pre.ix) (.int n) (.int 5)) fun d => ∃ cs : List Card, d = .lst (crs cs) ∧ cs.length = n ∧ ∀ c ∈ cs, c.ok (5 + 10) := cards_ok (n := n) (t := 5) (by omega) (by omega) (by omega)
  have co : HT 179 (f_law_cards (.mref Pre.ix) (.int n) (.int 5)) fun d => ∃ cs : List Card, d = .lst (crs cs) ∧ cs.length = n ∧ ∀ c ∈ cs, c.ok (5 + 10) := HT.le co (by omega)
  refine HT.C (k := 0) co ?_
  rintro _ ⟨cs, rfl, hl, ok⟩
  have hc : cs.length ≤ 6 := by omega
  have okr : ∀ c ∈ cs.reverse, c.ok (5 + 10) := fun c hc => ok c (List.mem_reverse.mp hc)
  have bk := law_book_eq hc ok
  have bk2 := law_book_eq (cs := cs.reverse) (by rw [List.length_reverse]; exact hc) okr
  have rl := (rule_eq hw).1
  have rlc := (rule_eq (ws_map hw con_mem con_con)).1
  have rlt := (rule_eq (ws_map hw turn_mem turn_turn)).1
  have cl := crs_len cs
  have rg := rangeD_one (show (0 : Int) ≤ cs.length by omega) (by omega)
  have wl : ws.length ≤ 8 := nodup_sub hw.nd hw.mem
  have lc1 : lc (fun single => (pure true)) (fun single => f_law_contrary single) (wds ws) = pure (wds (ws.map con)) := by
    have := lc_all (me := fun single => f_law_contrary single) D.str (fun w => .str (con w)) ws (fun w hm => con_eq (hw.mem w hm)) (size_big _ (by omega))
    unfold wds
    rw [this, List.map_map]
    rfl
  have lc2 : lc (fun single => (pure true)) (fun single => f_law_turned single) (wds ws) = pure (wds (ws.map turnW)) := by
    have := lc_all (me := fun single => f_law_turned single) D.str (fun w => .str (turnW w)) ws (fun w hm => turned_eq (hw.mem w hm)) (size_big _ (by omega))
    unfold wds
    rw [this, List.map_map]
    rfl
  have rv : revF (.lst (crs cs)) = pure (crs cs.reverse) := by
    show pure (crs cs).reverse = _
    unfold crs
    rw [List.map_reverse]
  have lp := loopS_nat fun i hi => first_ok hw hc ok (i := i) hi
  simp [rl, bk, cl, lc1, lc2, rlc, rlt, rv, bk2, rg, lp]
  exact HT.e0
end
theorem law_ok (ns : List Int) (h : ns.length ≤ 63) : ∃ S', l1 f_law [.scr ns] (tabS tfL) = .ok (.bl true) S' := by
  rw [l1_at]
  unfold f_law
  simp only [callB, argsB_cons, argsB_nil, B_pure, List.append_nil, List.cons_append, List.nil_append]
  refine law_run h (n := 100000) (by omega) ?_
  simp
  obtain ⟨w, ew, w0, w1⟩ : ∃ w : Int, (if (12 : Int) < ns.length then 12 else (ns.length : Int)) = w ∧ 0 ≤ w ∧ w ≤ 12 := by
    refine ⟨_, rfl, ?_, ?_⟩ <;> split <;> omega
  rw [ew, rangeD_one (show 0 ≤ 4 + w by omega) (by omega)]
  simp
  refine HT.le (HT.C (k := 0) (ht_loopU (n := 200) fun d _ => round_ok) ?_) (by rw [rangeL_length]; omega)
  rintro _ rfl
  simp
  exact HT.e0
end LW

open PySem PySem.W PySem.Calls PyProof.Rows
def LW.w0 : PySem.World := { draws := fun _ _ => 0, params := { strHash := fun _ => 0, shareClass := fun _ => 0, mergeTok := fun t => t, idOf := fun _ => 0, idOfShared := fun _ _ => 0, followText := fun _ => false, idOfImm := fun _ => 0 } }
theorem PySem.Challenge.cw_rowsmeet_k17_whole_rules_turned_about_holds : PySem.Challenge.rw_rowsmeet_k17_whole_rules_turned_about.Holds := by
  w_on; o_law
  letI : RM.PgW := ⟨LW.R.prog, LW.w0⟩
  refine HandSHeadRun.head_any (r := LW.R) (q := view LW.R.prog [63]) (H := LW.hk) (ob := LW.ob) (M := 12000) (loose := LW.loose) (d := HandSHeadRun.topDef LW.R.prog 63) (kwd := []) LW.ob_eq (by kernel_rfl) (fun s => by kernel_rfl) LW.run
    (by kernel_rfl) (by kernel_rfl) (by kernel_rfl) (by rfl) (by first | assumption | decide +kernel) (by decide +kernel) ⟨rfl, rfl, rfl, rfl, rfl, by decide +kernel⟩ ?hw ?hc
  case hw => w_witness2
  case hc =>
    refine RM.walk_GT (l := PySem.Challenge.rw_rowsmeet_k17_whole_rules_turned_about) (n := 63) (k := 8) (x := "_law_script") (g := RM.l1 LW.f_law) (tf := LW.tfL) rfl (by decide) (by kernel_rfl) ⟨rfl, by decide, by decide⟩ ?_ (fun w ns h _ => by letI : RM.PgW := ⟨(PySem.Challenge.rw_rowsmeet_k17_whole_rules_turned_about).prog, w⟩; exact LW.law_ok ns h)
    intro w mg fa h Y G hmg0
    letI : RM.PgW := ⟨(PySem.Challenge.rw_rowsmeet_k17_whole_rules_turned_about).prog, w⟩
    obtain ⟨K, KX, c⟩ := Y
    have nm : (HandSHeadRun.topDef LW.R.prog 63).name = ("law" : PySem.Str) := by kernel_rfl
    have hmg : mg ("law" : PySem.Str) = some (.ref fa) := by rw [← nm]; exact hmg0
    have T : LW.TextF (PySem.Challenge.rw_rowsmeet_k17_whole_rules_turned_about).prog w K mg := LW.txt KX G c rfl (by kernel_rfl)
    have ef : fa = He.ga K "law" := by
      have e := hmg.symm.trans T.g_law
      cases e
      rfl
    subst ef
    have F0 : ∃ fd, LW.FP_law K fd := T.says.d.def_ LW.lawIx rfl
    obtain ⟨fd, F⟩ := F0
    have b := L2.FunD.bindsA (ps := ["_law_script"]) F fun _ _ _ _ _ _ us hl => match us, hl with | [_], _ => rfl
    refine ⟨K, fd, KX, c.sm, c.empty, c.out, fun t ht => PySem.W.codeHd_of_K KX (c.hd t ht), c.nd, fun s u => b s [u] rfl, fun base _ _ TB => ?_⟩
    obtain ⟨fd2, F2, O2⟩ := LW.ok_law (P := (PySem.Challenge.rw_rowsmeet_k17_whole_rules_turned_about).prog) (w := w) (base := base) T TB
    have e2 : fd2 = fd := RM.funSame F F2
    rw [← e2]
    exact O2.fn
