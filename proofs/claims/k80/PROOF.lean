import PyProof.Rows.All
import Wide.All
import OpenK.AllK
import Wide.FinOn
import HandS.ForMost
import HandS.Exc
import HandS.Defaults
import HandS.HeadHook1
import HandS.HeadHook2
import HandS.Lambda
import HandS.HeadHook4
import HandS.IsInst
import HandS.Wide
import HandS.TupAny
import HandS.WordsExc
import HandS.Style
import KE.KStateDown
import HandS.Ends
import HandS.EndBits
import HandS.HeadEnd
import HandS.Head0
import HandS.Head1
import HandS.Head2
import HandS.Property
import KE.KExcSuper
import HandS.ExcInit
import HandS.ExcOwn
import KE.GoesMore
import HandS.HeadHook3
import HandS.SetKeys
import HandS.Strs
import HandS.Zip
import HandS.SetFor
import HandS.SortInts
import KE.SortData
import HandS.SetBool
import HandS.ExcValue
import KE.KExcIs
import HandS.ExcField
import HandS.ExcIs
import HandS.EndTab
import HandS.NoneIn
import HandS.OwnEq
import HandS.MapJoin
import PySem.Challenge.RW_rowsmeet_k80_texts_of_rules
set_option Elab.async false
set_option linter.all false
set_option autoImplicit false
set_option maxRecDepth 100000
set_option maxHeartbeats 4000000
/-! RM: data, a monad, what a value denotes. -/
namespace RM
open PySem PySem.Spec PyProof.Rows L2

/-- plain data -/
inductive D where
  | non | bl (b : Bool) | int (i : Int) | str (x : Str)
  | tup (xs : List D) | lst (xs : List D)
  | ins (c : Str) (ns : List Str) (fs : List D)
  | mref (i : Nat)
  | dic (ks : List Key) (vs : List D)
  | scr (ns : List Int)
  | xcp (c : Str) (ns : List Str) (fs : List D)

structure Tape where
  large : List Int
  cells : List Int
  rest : Int
  turn : Int

/-- a mutable thing -/
inductive MO where
  | tape (t : Tape)
  | inst (c : Str) (ns : List Str) (fs : List D)
  | tab (n q : Str)
abbrev Sto := List MO
structure Exc where
  cls : Str
  ns : List Str
  fs : List D
inductive Res (a : Type) where
  | ok (x : a) (s : Sto)
  | exc (e : Exc) (s : Sto)
  | stuck
def M (a : Type) := Sto → Res a
@[reducible] def M.pure {a : Type} (x : a) : M a := fun s => .ok x s
def Res.andThen {a b : Type} (r : Res a) (f : a → M b) : Res b := match r with
  | .ok x s => f x s
  | .exc e s => .exc e s
  | .stuck => .stuck
def M.bind {a b : Type} (m : M a) (f : a → M b) : M b := fun s => (m s).andThen f
instance : Monad M where
  pure := M.pure
  bind := M.bind
def stuck {a : Type} : M a := fun _ => .stuck
def raise {a : Type} (e : Exc) : M a := fun s => .exc e s
theorem bind_def {a b : Type} (m : M a) (f : a → M b) (s : Sto) : (m >>= f) s = (m s).andThen f := rfl
theorem pure_def {a : Type} (x : a) (s : Sto) : (pure x : M a) s = .ok x s := rfl
@[simp] theorem andThen_ok {a b : Type} (x : a) (s : Sto) (f : a → M b) : (Res.ok x s).andThen f = f x s := rfl
@[simp] theorem andThen_exc {a b : Type} (e : Exc) (s : Sto) (f : a → M b) : (Res.exc e s : Res a).andThen f = .exc e s := rfl
@[simp] theorem andThen_stuck {a b : Type} (f : a → M b) : (Res.stuck : Res a).andThen f = .stuck := rfl
instance : LawfulMonad M := LawfulMonad.mk'
  (id_map := fun x => by funext s; show (x s).andThen _ = x s; cases x s <;> rfl)
  (pure_bind := fun _ _ => rfl)
  (bind_assoc := fun x f g => by funext s; show ((x s).andThen f).andThen g = (x s).andThen _; cases x s <;> rfl)

/-! ### what a value denotes -/
/-- an exception object that was caught -/
def XcO (cls : Value) (d : Option Addr) (a : Addr) : HO := .ext fun h => ∃ (oe : Obj) (vs : Array Value), h.get? a = some oe ∧ Zc cls d oe ∧ oe.data = .fields vs
mutual
def Den (K : PySem.W.Frag) (p : List (List Addr)) (G : Hp) : D → V → Prop
  | .non, v => v = .non
  | .bl b, v => v = .bl b
  | .int i, v => v = .int i
  | .str x, v => v = .str x
  | .tup xs, v => ∃ a vs, v = .ref a ∧ SqT K G a vs ∧ DenL K p G xs vs
  | .lst xs, v => ∃ a vs, v = .ref a ∧ G a = some (.lst vs) ∧ DenL K p G xs vs
  | .ins c ns fs, v => ∃ a dx vs, v = .ref a ∧ G a = some (.ins (He.ga K c) dx (ns.zip vs)) ∧ vs.length = ns.length ∧ DenL K p G fs vs
  | .mref i, v => ∃ a r, p[i]? = some (a :: r) ∧ v = .ref a
  | .dic ks xs, v => ∃ a vs, v = .ref a ∧ G a = some (.dK (ks.zip vs)) ∧ vs.length = ks.length ∧ DenL K p G xs vs
  | .scr ns, v => ∃ a, v = .ref a ∧ SqL K G a (ns.map .int)
  | .xcp c ns fs, v => ∃ a dd vs, v = .ref a ∧ G a = some (XcO (.ref (He.ga K c)) dd a) ∧ ((ns = [] ∧ dd = none) ∨ ∃ d, dd = some d ∧ G d = some (.xd (ns.zip vs))) ∧ vs.length = ns.length ∧ DenL K p G fs vs
def DenL (K : PySem.W.Frag) (p : List (List Addr)) (G : Hp) : List D → List V → Prop
  | [], vs => vs = []
  | d :: ds, vs => ∃ v r, vs = v :: r ∧ Den K p G d v ∧ DenL K p G ds r
end
theorem SqT.mono {K : PySem.W.Frag} {H H' : Hp} {a : Addr} {xs : List V} (e : Same H H') (h : SqT K H a xs) : SqT K H' a xs := by
  rcases h with (h | ⟨o, h⟩) | h
  · exact .inl (.inl (e _ _ h))
  · exact .inl (.inr ⟨o, e _ _ h⟩)
  · exact .inr h
section
variable {K : PySem.W.Frag} {p q : List (List Addr)} {G G' : Hp}
theorem idx_ext (hp : ∃ r, q = p ++ r) {i : Nat} {x : List Addr} (h : p[i]? = some x) : q[i]? = some x := by
  obtain ⟨r, rfl⟩ := hp
  rw [List.getElem?_append_left (List.getElem?_eq_some_iff.mp h).1]
  exact h
mutual
theorem Den.mono (hp : ∃ r, q = p ++ r) (e : Same G G') : ∀ {d : D} {v : V}, Den K p G d v → Den K q G' d v
  | .non, _, h => h
  | .bl _, _, h => h
  | .int _, _, h => h
  | .str _, _, h => h
  | .tup _, _, ⟨a, vs, h1, h2, h3⟩ => ⟨a, vs, h1, SqT.mono e h2, DenL.mono hp e h3⟩
  | .lst _, _, ⟨a, vs, h1, h2, h3⟩ => ⟨a, vs, h1, e _ _ h2, DenL.mono hp e h3⟩
  | .ins _ _ _, _, ⟨a, dx, vs, h1, h2, h4, h3⟩ => ⟨a, dx, vs, h1, e _ _ h2, h4, DenL.mono hp e h3⟩
  | .mref _, _, ⟨a, r, h1, h2⟩ => ⟨a, r, idx_ext hp h1, h2⟩
  | .dic _ _, _, ⟨a, vs, h1, h2, h4, h3⟩ => ⟨a, vs, h1, e _ _ h2, h4, DenL.mono hp e h3⟩
  | .scr _, _, ⟨a, h1, h2⟩ => ⟨a, h1, e.seq h2⟩
  | .xcp _ _ _, _, ⟨a, dd, vs, h1, h2, h3, h4, h5⟩ => ⟨a, dd, vs, h1, e _ _ h2, h3.imp id fun ⟨d, q1, q2⟩ => ⟨d, q1, e _ _ q2⟩, h4, DenL.mono hp e h5⟩
theorem DenL.mono (hp : ∃ r, q = p ++ r) (e : Same G G') : ∀ {ds : List D} {vs : List V}, DenL K p G ds vs → DenL K q G' ds vs
  | [], _, h => h
  | _ :: _, _, ⟨v, r, h1, h2, h3⟩ => ⟨v, r, h1, Den.mono hp e h2, DenL.mono hp e h3⟩
end
theorem DenL.length : ∀ {ds : List D} {vs : List V}, DenL K p G ds vs → vs.length = ds.length
  | [], _, h => by
    have e : _ = [] := h
    rw [e]; rfl
  | _ :: _, _, ⟨v, r, h1, _, h3⟩ => by
    rw [h1, List.length_cons, List.length_cons, DenL.length h3]
theorem DenL.get : ∀ {ds : List D} {vs : List V} {i : Nat} {d : D}, DenL K p G ds vs → ds[i]? = some d → ∃ v, vs[i]? = some v ∧ Den K p G d v
  | [], _, _, _, _, e => by simp at e
  | x :: _, _, 0, d, ⟨v, r, h1, h2, _⟩, e => by
    simp at e; subst e
    exact ⟨v, by rw [h1]; rfl, h2⟩
  | _ :: ds, _, i + 1, d, ⟨v, r, h1, _, h3⟩, e => by
    obtain ⟨u, a, b⟩ := DenL.get (i := i) h3 (by simpa using e)
    exact ⟨u, by rw [h1]; simpa using a, b⟩
theorem DenL.append : ∀ {ds es : List D} {vs us : List V}, DenL K p G ds vs → DenL K p G es us → DenL K p G (ds ++ es) (vs ++ us)
  | [], _, _, _, h, h' => by
    have e : _ = [] := h
    rw [e]; exact h'
  | _ :: _, _, _, _, ⟨v, r, h1, h2, h3⟩, h' => ⟨v, r ++ _, by rw [h1]; rfl, h2, DenL.append h3 h'⟩
theorem DenL.one {d : D} {v : V} (h : Den K p G d v) : DenL K p G [d] [v] := ⟨v, [], rfl, h, rfl⟩
theorem DenL.nil : DenL K p G [] [] := rfl
theorem DenL.cons {d : D} {v : V} {ds : List D} {vs : List V} (h : Den K p G d v) (r : DenL K p G ds vs) : DenL K p G (d :: ds) (v :: vs) := ⟨v, vs, rfl, h, r⟩
theorem DenL.take : ∀ {ds : List D} {vs : List V} (n : Nat), DenL K p G ds vs → DenL K p G (ds.take n) (vs.take n)
  | _, _, 0, _ => by simp; exact rfl
  | [], _, n + 1, h => by
    have e : _ = [] := h
    rw [e]; exact rfl
  | _ :: _, _, n + 1, ⟨v, r, h1, h2, h3⟩ => by
    rw [h1]; exact ⟨v, _, rfl, h2, DenL.take n h3⟩
theorem DenL.drop : ∀ {ds : List D} {vs : List V} (n : Nat), DenL K p G ds vs → DenL K p G (ds.drop n) (vs.drop n)
  | _, _, 0, h => by simpa using h
  | [], _, n + 1, h => by
    have e : _ = [] := h
    rw [e]; exact rfl
  | _ :: _, _, n + 1, ⟨v, r, h1, h2, h3⟩ => by
    rw [h1]; exact DenL.drop n h3
theorem DenL.set {e : D} {u : V} (h' : Den K p G e u) : ∀ {ds : List D} {vs : List V} (i : Nat), DenL K p G ds vs → DenL K p G (ds.set i e) (vs.set i u)
  | [], _, _, h => by
    have e : _ = [] := h
    rw [e]; exact rfl
  | _ :: _, _, 0, ⟨v, r, h1, h2, h3⟩ => by
    rw [h1]; exact ⟨u, r, rfl, h', h3⟩
  | _ :: _, _, i + 1, ⟨v, r, h1, h2, h3⟩ => by
    rw [h1]; exact ⟨v, _, rfl, h2, DenL.set h' i h3⟩
end

/-! ### the mutable things in the heap -/
mutual
def noLst : D → Bool
  | .lst _ => false
  | .scr _ => false
  | .tup xs => noLstL xs
  | .ins _ _ fs => noLstL fs
  | .dic _ vs => noLstL vs
  | .xcp _ _ fs => noLstL fs
  | _ => true
def noLstL : List D → Bool
  | [] => true
  | d :: ds => noLst d && noLstL ds
end
def MoAt (K : PySem.W.Frag) (p : List (List Addr)) (G H : Hp) : List Addr → MO → Prop
  | [a, l, c], .tape t => H a = some (.dK [(.inr "large", .ref l), (.inr "cells", .ref c), (.inr "rest", .int t.rest), (.inr "turn", .int t.turn)]) ∧ H l = some (.lst (t.large.map .int)) ∧ H c = some (.lst (t.cells.map .int))
  | [x], .inst c ns fs => noLstL fs = true ∧ ∃ dx vs, H x = some (.ins (He.ga K c) dx (ns.zip vs)) ∧ vs.length = ns.length ∧ DenL K p G fs vs
  | [x], .tab n q => x = (He.cT K (n, none)).2 ∧ ∃ ps, H x = some (.tbl ps) ∧ TriplesOk ps.toList ∧ ∀ (pos : Pos) (cv : Value), codeAmong pos ps.toList = some cv → ∃ c, cv = .ref c ∧ G c = some (LamX.CodeO c q)
  | _, _ => False
theorem MoAt.dom {K : PySem.W.Frag} {p : List (List Addr)} {G H : Hp} : ∀ {as : List Addr} {o : MO}, MoAt K p G H as o → ∀ a ∈ as, H a ≠ none
  | [a, l, c], .tape t, ⟨h1, h2, h3⟩, b, hb => by
    simp only [List.mem_cons, List.not_mem_nil, or_false] at hb
    rcases hb with rfl | rfl | rfl
    · rw [h1]; simp
    · rw [h2]; simp
    · rw [h3]; simp
  | [x], .inst c ns fs, ⟨_, dx, vs, h1, _⟩, b, hb => by
    simp only [List.mem_cons, List.not_mem_nil, or_false] at hb
    subst hb
    rw [h1]; simp
  | [x], .tab n q, ⟨_, ps, h1, _⟩, b, hb => by
    simp only [List.mem_cons, List.not_mem_nil, or_false] at hb
    subst hb
    rw [h1]; simp
theorem MoAt.mono {K : PySem.W.Frag} {p p' : List (List Addr)} {G G' H H' : Hp} (hp : ∃ r, p' = p ++ r) (e : Same G G') : ∀ {as : List Addr} {o : MO}, MoAt K p G H as o → (∀ a ∈ as, H' a = H a) → MoAt K p' G' H' as o
  | [a, l, c], .tape t, ⟨h1, h2, h3⟩, k => ⟨(k a (by simp)).trans h1, (k l (by simp)).trans h2, (k c (by simp)).trans h3⟩
  | [x], .inst c ns fs, ⟨nl, dx, vs, h1, h2, h3⟩, k => ⟨nl, dx, vs, (k x (by simp)).trans h1, h2, h3.mono hp e⟩
  | [x], .tab n q, ⟨h0, ps, h1, h2, h3⟩, k => ⟨h0, ps, (k x (by simp)).trans h1, h2, fun pos cv z => let ⟨c, e1, e2⟩ := h3 pos cv z; ⟨c, e1, e _ _ e2⟩⟩
theorem MoAt.ice {K : PySem.W.Frag} {p : List (List Addr)} {G G' H : Hp} (e : Same G G') {as : List Addr} {o : MO} (h : MoAt K p G H as o) : MoAt K p G' H as o := h.mono ⟨[], by simp⟩ e fun _ _ => rfl

/-- the state stands in the heap; G: what is frozen -/
structure Rel0 (K : PySem.W.Frag) (p : List (List Addr)) (S : Sto) (G H : Hp) : Prop where
  sub : Same G H
  len : p.length = S.length
  mo : ∀ (i : Nat) (as : List Addr) (o : MO), p[i]? = some as → S[i]? = some o → MoAt K p G H as o
  nd : p.flatten.Nodup
  gn : ∀ a ∈ p.flatten, G a = none
/-- from one state to a later one -/
structure Ext (p : List (List Addr)) (G H : Hp) (p' : List (List Addr)) (G' H' : Hp) : Prop where
  g : Same G G'
  gn : ∀ a, G a = none → H a ≠ none → G' a = none
  h : ∀ a o, H a = some o → a ∉ p.flatten → H' a = some o
  d : ∀ a, H a ≠ none → H' a ≠ none
  p : ∃ r, p' = p ++ r ∧ ∀ a ∈ r.flatten, H a = none
theorem Ext.pp {p p' : List (List Addr)} {G H G' H' : Hp} (e : Ext p G H p' G' H') : ∃ r, p' = p ++ r := let ⟨r, h, _⟩ := e.p; ⟨r, h⟩
theorem Ext.refl (p : List (List Addr)) (G H : Hp) : Ext p G H p G H := ⟨Same.refl _, fun _ h _ => h, fun _ _ h _ => h, fun _ h => h, [], by simp, by simp⟩
theorem Ext.trans {p p1 p2 : List (List Addr)} {G H G1 H1 G2 H2 : Hp} (a : Ext p G H p1 G1 H1) (b : Ext p1 G1 H1 p2 G2 H2) : Ext p G H p2 G2 H2 := by
  obtain ⟨r, e1, f1⟩ := a.p
  obtain ⟨r2, e2, f2⟩ := b.p
  refine ⟨a.g.trans b.g, fun x h1 h2 => b.gn x (a.gn x h1 h2) (a.d x h2), fun x o h1 h2 => b.h x o (a.h x o h1 h2) ?_, fun x h => b.d x (a.d x h), r ++ r2, by rw [e2, e1, List.append_assoc], fun x hx => ?_⟩
  · rw [e1, List.flatten_append, List.mem_append]
    rintro (z | z)
    · exact h2 z
    · rw [f1 x z] at h1; cases h1
  · rw [List.flatten_append, List.mem_append] at hx
    rcases hx with z | z
    · exact f1 x z
    · cases q : H x with
      | none => rfl
      | some o => exact absurd (f2 x z) (a.d x (by rw [q]; simp))
theorem Rel0.dom {K : PySem.W.Frag} {p : List (List Addr)} {S : Sto} {G H : Hp} (r : Rel0 K p S G H) {a : Addr} (h : a ∈ p.flatten) : H a ≠ none := by
  obtain ⟨as, h1, h2⟩ := List.mem_flatten.mp h
  obtain ⟨i, hi, e⟩ := List.getElem_of_mem h1
  have e1 : p[i]? = some as := by rw [List.getElem?_eq_getElem hi, e]
  have hs : i < S.length := by rw [← r.len]; exact hi
  exact (r.mo i as _ e1 (List.getElem?_eq_getElem hs)).dom a h2
/-- a new frozen thing -/
theorem Rel0.new {K : PySem.W.Frag} {p : List (List Addr)} {S : Sto} {G H : Hp} (r : Rel0 K p S G H) {a : Addr} (o : HO) (h : H a = none) : Rel0 K p S (upd G a o) (upd H a o) ∧ Ext p G H p (upd G a o) (upd H a o) := by
  have ga : G a = none := Same.free r.sub h
  have np : a ∉ p.flatten := fun z => r.dom z h
  refine ⟨⟨fun b u e => ?_, r.len, fun i as x e1 e2 => (r.mo i as x e1 e2).mono ⟨[], by simp⟩ (fun b u e => by rw [upd_ne (ne_of_none e ga)]; exact e) fun b hb => ?_, r.nd, fun b hb => ?_⟩, ⟨fun b u e => ?_, fun b h1 h2 => ?_, fun b u e _ => ?_, fun b e => ?_, [], by simp, by simp⟩⟩
  · by_cases q : b = a
    · subst q; rw [upd_same] at e ⊢; exact e
    · rw [upd_ne q] at e ⊢; exact r.sub b u e
  · have : b ≠ a := by
      rintro rfl
      exact np (List.mem_flatten.mpr ⟨as, List.mem_of_getElem? e1, hb⟩)
    exact upd_ne this
  · have : b ≠ a := by rintro rfl; exact np hb
    rw [upd_ne this]; exact r.gn b hb
  · rw [upd_ne (ne_of_none e ga)]; exact e
  · have : b ≠ a := by rintro rfl; exact h2 h
    rw [upd_ne this]; exact h1
  · rw [upd_ne (ne_of_none e h)]; exact e
  · by_cases q : b = a
    · subst q; rw [upd_same]; simp
    · rw [upd_ne q]; exact e
/-- a new thing that is not (yet) frozen -/
theorem Rel0.own {K : PySem.W.Frag} {p : List (List Addr)} {S : Sto} {G H : Hp} (r : Rel0 K p S G H) {a : Addr} (o : HO) (ha : a ∉ p.flatten) (hg : G a = none) : Rel0 K p S G (upd H a o) := by
  refine ⟨fun b u e => ?_, r.len, fun i as x e1 e2 => (r.mo i as x e1 e2).mono ⟨[], by simp⟩ (Same.refl _) fun b hb => ?_, r.nd, r.gn⟩
  · rw [upd_ne (ne_of_none e hg)]; exact r.sub b u e
  · have : b ≠ a := by
      rintro rfl
      exact ha (List.mem_flatten.mpr ⟨as, List.mem_of_getElem? e1, hb⟩)
    exact upd_ne this

/-! ### slots -/
inductive DV where
  | val (d : D)
  | own (xs : List D)
  | slf (x : Addr) (c : Str) (ns : List Str) (fs : List D)
  | lam (v : V) (R : List (List Addr) → Hp → Prop)
abbrev DSt := List (Option DV)
def SlotR (K : PySem.W.Frag) (p : List (List Addr)) (G H : Hp) : Option DV → Option V → List Addr → Prop
  | none, _, l => l = []
  | some (.val d), ov, l => l = [] ∧ ∃ v, ov = some v ∧ Den K p G d v
  | some (.own xs), ov, l => ∃ a vs, l = [a] ∧ ov = some (.ref a) ∧ H a = some (.lst vs) ∧ DenL K p G xs vs
  | some (.slf a c ns fs), ov, l => ∃ dx vs, l = [a] ∧ ov = some (.ref a) ∧ H a = some (.ins (He.ga K c) dx (ns.zip vs)) ∧ vs.length = ns.length ∧ DenL K p G fs vs
  | some (.lam v R), ov, l => l = [] ∧ ov = some v ∧ ∀ p' G', (∃ r, p' = p ++ r) → Same G G' → R p' G'
def SlotsR (K : PySem.W.Frag) (p : List (List Addr)) (G H : Hp) : DSt → L2.St → List Addr → Prop
  | [], vs, ow => vs = [] ∧ ow = []
  | s :: ss, vs, ow => ∃ v r l k, vs = v :: r ∧ ow = l ++ k ∧ SlotR K p G H s v l ∧ SlotsR K p G H ss r k
structure RelS (K : PySem.W.Frag) (p : List (List Addr)) (G : Hp) (S : Sto) (H : Hp) (t : DSt) (σ : L2.St) (ow : List Addr) : Prop where
  rel : Rel0 K p S G H
  sl : SlotsR K p G H t σ ow
  nd : (p.flatten ++ ow).Nodup
  gn : ∀ a ∈ ow, G a = none
section
variable {K : PySem.W.Frag} {p p' : List (List Addr)} {G G' H H' : Hp} {S S' : Sto} {t : DSt} {σ : L2.St} {ow : List Addr}
theorem SlotR.mono (hp : ∃ r, p' = p ++ r) (e : Same G G') : ∀ {s : Option DV} {v : Option V} {l : List Addr}, (∀ a ∈ l, H' a = H a) → SlotR K p G H s v l → SlotR K p' G' H' s v l
  | none, _, _, _, h => h
  | some (.val _), _, _, _, ⟨h1, v, h2, h3⟩ => ⟨h1, v, h2, h3.mono hp e⟩
  | some (.own _), _, _, k, ⟨a, vs, h1, h2, h3, h4⟩ => ⟨a, vs, h1, h2, (k a (by rw [h1]; simp)).trans h3, h4.mono hp e⟩
  | some (.slf a _ _ _), _, _, k, ⟨dx, vs, h1, h2, h3, h4, h5⟩ => ⟨dx, vs, h1, h2, (k a (by rw [h1]; simp)).trans h3, h4, h5.mono hp e⟩
  | some (.lam _ _), _, _, _, ⟨h1, h2, h3⟩ => ⟨h1, h2, fun p2 G2 q1 q2 => h3 p2 G2 (by obtain ⟨r, e1⟩ := hp; obtain ⟨r2, e2⟩ := q1; exact ⟨r ++ r2, by rw [e2, e1, List.append_assoc]⟩) (e.trans q2)⟩
theorem SlotsR.mono (hp : ∃ r, p' = p ++ r) (e : Same G G') : ∀ {t : DSt} {σ : L2.St} {ow : List Addr}, (∀ a ∈ ow, H' a = H a) → SlotsR K p G H t σ ow → SlotsR K p' G' H' t σ ow
  | [], _, _, _, h => h
  | _ :: _, _, _, k, ⟨v, r, l, m, h1, h2, h3, h4⟩ => ⟨v, r, l, m, h1, h2, SlotR.mono hp e (fun a ha => k a (by rw [h2]; exact List.mem_append_left _ ha)) h3,
      SlotsR.mono hp e (fun a ha => k a (by rw [h2]; exact List.mem_append_right _ ha)) h4⟩
theorem SlotR.dom : ∀ {s : Option DV} {v : Option V} {l : List Addr}, SlotR K p G H s v l → ∀ a ∈ l, H a ≠ none
  | none, _, _, h, _, ha => by rw [show _ = [] from h] at ha; cases ha
  | some (.val _), _, _, h, _, ha => by rw [h.1] at ha; cases ha
  | some (.own _), _, _, ⟨a, vs, h1, _, h3, _⟩, b, hb => by
    rw [h1] at hb; simp at hb; subst hb; rw [h3]; simp
  | some (.slf a _ _ _), _, _, ⟨dx, vs, h1, _, h3, _⟩, b, hb => by
    rw [h1] at hb; simp at hb; subst hb; rw [h3]; simp
  | some (.lam _ _), _, _, ⟨h1, _⟩, b, hb => by rw [h1] at hb; cases hb
theorem SlotsR.dom : ∀ {t : DSt} {σ : L2.St} {ow : List Addr}, SlotsR K p G H t σ ow → ∀ a ∈ ow, H a ≠ none
  | [], _, _, h, _, ha => by rw [h.2] at ha; cases ha
  | _ :: _, _, _, ⟨v, r, l, m, h1, h2, h3, h4⟩, a, ha => by
    rw [h2] at ha
    rcases List.mem_append.mp ha with z | z
    · exact h3.dom a z
    · exact SlotsR.dom h4 a z
theorem RelS.ext (r : RelS K p G S H t σ ow) (e : Ext p G H p' G' H') (r' : Rel0 K p' S' G' H') : RelS K p' G' S' H' t σ ow := by
  obtain ⟨q, e1, f1⟩ := e.p
  have dj : ∀ a ∈ ow, a ∉ p.flatten := fun a ha hp => (List.nodup_append.mp r.nd).2.2 a hp a ha rfl
  refine ⟨r', SlotsR.mono e.pp e.g (fun a ha => ?_) r.sl, ?_, fun a ha => e.gn a (r.gn a ha) (r.sl.dom a ha)⟩
  · cases h : H a with
    | none => exact absurd h (r.sl.dom a ha)
    | some o => exact e.h a o h (dj a ha)
  · rw [List.nodup_append]
    refine ⟨r'.nd, (List.nodup_append.mp r.nd).2.1, fun a ha b hb hab => ?_⟩
    subst hab
    rw [e1, List.flatten_append, List.mem_append] at ha
    rcases ha with z | z
    · exact dj a hb z
    · exact r.sl.dom a hb (f1 a z)
theorem SlotsR.get : ∀ {t : DSt} {σ : L2.St} {ow : List Addr} {i : Nat} {d : D}, SlotsR K p G H t σ ow → t[i]? = some (some (.val d)) → ∃ v, σ[i]? = some (some v) ∧ Den K p G d v
  | [], _, _, _, _, _, e => by simp at e
  | _ :: _, _, _, 0, d, ⟨v, r, l, m, h1, h2, h3, h4⟩, e => by
    simp at e; subst e
    obtain ⟨_, u, e1, e2⟩ := h3
    exact ⟨u, by rw [h1, e1]; rfl, e2⟩
  | _ :: _, _, _, i + 1, d, ⟨v, r, l, m, h1, h2, h3, h4⟩, e => by
    obtain ⟨u, a, b⟩ := SlotsR.get (i := i) h4 (by simpa using e)
    exact ⟨u, by rw [h1]; simpa using a, b⟩
end
end RM

/-! RM: judgements, expressions. -/
namespace RM
open PySem PySem.Spec PyProof.Rows L2

/-- an own exception as it lies in the heap -/
def ExcAt (K : PySem.W.Frag) (p : List (List Addr)) (G : Hp) (e : Exc) (cls : Value) : Option Addr → Prop
  | none => cls = .ref (He.ga K e.cls) ∧ e.ns = [] ∧ e.fs = []
  | some d => cls = .ref (He.ga K e.cls) ∧ ∃ vs, G d = some (.xd (e.ns.zip vs)) ∧ vs.length = e.ns.length ∧ DenL K p G e.fs vs
/-- what is wanted of a result -/
def okR {α β : Type} (R : List (List Addr) → Hp → α → β → Prop) (K : PySem.W.Frag) (p : List (List Addr)) (G H : Hp) (W : Value → Option Addr → Hp → Prop) (r : Res α) (Q : β → Hp → Prop) : Prop :=
  match r with
  | .ok d S' => ∀ v p' G' H', R p' G' d v → Rel0 K p' S' G' H' → Ext p G H p' G' H' → Q v H'
  | .exc e S' => ∀ cls dd p' G' H', ExcAt K p' G' e cls dd → Rel0 K p' S' G' H' → Ext p G H p' G' H' → W cls dd H'
  | .stuck => False
section
variable {α β γ δ : Type} {R : List (List Addr) → Hp → α → β → Prop} {R1 : List (List Addr) → Hp → γ → δ → Prop} {K : PySem.W.Frag} {p p1 : List (List Addr)} {G H G1 H1 : Hp} {W : Value → Option Addr → Hp → Prop} {r : Res α} {Q : β → Hp → Prop} {S : Sto}
theorem okR.ext (h : okR R K p G H W r Q) (e : Ext p G H p1 G1 H1) : okR R K p1 G1 H1 W r Q := by
  cases r with
  | ok d S' => exact fun v p' G' H' a b c => h v p' G' H' a b (e.trans c)
  | exc x S' => exact fun cls dd p' G' H' a b c => h cls dd p' G' H' a b (e.trans c)
  | stuck => exact h
theorem okR.seq {m : M γ} {f : γ → M α} {Q1 : δ → Hp → Prop} (h : okR R K p G H W ((m >>= f) S) Q)
    (k : ∀ d S1 v p1 G1 H1, m S = .ok d S1 → R1 p1 G1 d v → Rel0 K p1 S1 G1 H1 → Ext p G H p1 G1 H1 → okR R K p1 G1 H1 W (f d S1) Q → Q1 v H1) : okR R1 K p G H W (m S) Q1 := by
  have h' : okR R K p G H W ((m S).andThen f) Q := h
  cases e : m S with
  | ok d S1 =>
    rw [e] at h'
    exact fun v p1 G1 H1 a b c => k d S1 v p1 G1 H1 e a b c (okR.ext h' c)
  | exc x S1 =>
    rw [e] at h'
    exact h'
  | stuck =>
    rw [e] at h'
    exact h'
theorem okR.fin {d : α} {v : β} (h : okR R K p G H W (.ok d S) Q) (a : R p G d v) (b : Rel0 K p S G H) : Q v H := h v p G H a b (Ext.refl _ _ _)
theorem okR.imp {r : Res γ} {Q Q' : δ → Hp → Prop} (h : okR R1 K p G H W r Q) (k : ∀ v H', Q v H' → Q' v H') : okR R1 K p G H W r Q' := by
  cases r with
  | ok d S' => exact fun v p' G' H' a b c => k _ _ (h v p' G' H' a b c)
  | exc x S' => exact h
  | stuck => exact h
end
abbrev rB : List (List Addr) → Hp → Bool → Bool → Prop := fun _ _ a b => a = b
/-- readings -/
def tD (K : PySem.W.Frag) (W : WX) (m : DSt → M D) : TE := fun σ H Q => ∃ t p G S ow, RelS K p G S H t σ ow ∧ okR (Den K) K p G H (fun c d H' => W c d σ H') (m t S) Q
def tDA (K : PySem.W.Frag) (W : WX) (m : DSt → M (List D)) : TA := fun σ H Q => ∃ t p G S ow, RelS K p G S H t σ ow ∧ okR (DenL K) K p G H (fun c d H' => W c d σ H') (m t S) Q
def tDT (K : PySem.W.Frag) (W : WX) (m : DSt → M Bool) : TT := fun σ H Q => ∃ t p G S ow, RelS K p G S H t σ ow ∧ okR rB K p G H (fun c d H' => W c d σ H') (m t S) Q
abbrev DE (X : Cx) (W : WX) (e : Expr) (m : DSt → M D) : Prop := PE X e (tD X.K W m)
abbrev DA (X : Cx) (W : WX) (es : List Expr) (m : DSt → M (List D)) : Prop := PA X es (tDA X.K W m)
abbrev DT (X : Cx) (W : WX) (e : Expr) (m : DSt → M Bool) : Prop := PT X e (tDT X.K W m)
theorem PE.imp {X : Cx} {e : Expr} {t t' : TE} (h : PE X e t) (k : ∀ σ H Q, t' σ H Q → t σ H Q) : PE X e t' := ⟨fun pins s σ H Q I q => h.run pins s σ H Q I (k _ _ _ q)⟩
theorem PT.imp {X : Cx} {e : Expr} {t t' : TT} (h : PT X e t) (k : ∀ σ H Q, t' σ H Q → t σ H Q) : PT X e t' := ⟨fun pins s σ H Q I q => h.run pins s σ H Q I (k _ _ _ q)⟩
theorem PW.imp {X : Cx} {e : Expr} {t t' : TT} (h : PW X e t) (k : ∀ σ H Q, t' σ H Q → t σ H Q) : PW X e t' := ⟨fun wh pins s σ H Q I q => h.run wh pins s σ H Q I (k _ _ _ q)⟩
theorem PA.imp {X : Cx} {es : List Expr} {t t' : TA} (h : PA X es t) (k : ∀ σ H Q, t' σ H Q → t σ H Q) : PA X es t' := ⟨fun pos pins s σ H Q I q => h.run pos pins s σ H Q I (k _ _ _ q)⟩

/-- the next part's reading, behind a first one -/
theorem tD.next {K : PySem.W.Frag} {W : WX} {m : DSt → M D} {σ : L2.St} {t : DSt} {p p1 : List (List Addr)} {G H G1 H1 : Hp} {S S1 : Sto} {ow : List Addr} {Q : VK} (r : RelS K p G S H t σ ow) (e : Ext p G H p1 G1 H1) (r1 : Rel0 K p1 S1 G1 H1)
    (h : okR (Den K) K p1 G1 H1 (fun c d H' => W c d σ H') (m t S1) Q) : tD K W m σ H1 Q := ⟨t, p1, G1, S1, ow, r.ext e r1, h⟩
theorem tDT.next {K : PySem.W.Frag} {W : WX} {m : DSt → M Bool} {σ : L2.St} {t : DSt} {p p1 : List (List Addr)} {G H G1 H1 : Hp} {S S1 : Sto} {ow : List Addr} {Q : Bool → Hp → Prop} (r : RelS K p G S H t σ ow) (e : Ext p G H p1 G1 H1) (r1 : Rel0 K p1 S1 G1 H1)
    (h : okR rB K p1 G1 H1 (fun c d H' => W c d σ H') (m t S1) Q) : tDT K W m σ H1 Q := ⟨t, p1, G1, S1, ow, r.ext e r1, h⟩
theorem tDA.next {K : PySem.W.Frag} {W : WX} {m : DSt → M (List D)} {σ : L2.St} {t : DSt} {p p1 : List (List Addr)} {G H G1 H1 : Hp} {S S1 : Sto} {ow : List Addr} {Q : List V → Hp → Prop} (r : RelS K p G S H t σ ow) (e : Ext p G H p1 G1 H1) (r1 : Rel0 K p1 S1 G1 H1)
    (h : okR (DenL K) K p1 G1 H1 (fun c d H' => W c d σ H') (m t S1) Q) : tDA K W m σ H1 Q := ⟨t, p1, G1, S1, ow, r.ext e r1, h⟩

/-! ### names, constants -/
def getV (t : DSt) (i : Nat) : M D := match t[i]? with
  | some (some (.val d)) => pure d
  | _ => stuck
theorem getV_of (t : DSt) (i : Nat) : (∃ d, t[i]? = some (some (.val d)) ∧ getV t i = pure d) ∨ getV t i = stuck := by
  unfold getV
  split
  · rename_i d e
    exact .inl ⟨d, e, rfl⟩
  · exact .inr rfl
section
variable {X : Cx} {W : WX} {a b c : Expr} {es : List Expr} {ma mb mc : DSt → M D} {mt mu : DSt → M Bool} {pos : Pos}
theorem de_var (i : Nat) {x : Str} (hN : X.N[i]? = some x := by rfl) (hv : Vis X.env.scope x := by first | exact Or.inl rfl | exact Or.inr (Or.inl rfl) | exact Or.inr (Or.inr rfl)) (hd : (x == ("__debug__" : Str)) = false := by decide)
    (hcd : (x == ("__classdict__" : Str)) = false := by decide) : DE X W (.Name x pos) (fun t => getV t i) := by
  refine PE.imp (pe_var hN hv hd hcd) fun σ H Q ⟨t, p, G, S, ow, r, h⟩ => ?_
  have h : okR (Den X.K) X.K p G H (fun c d H' => W c d σ H') (getV t i S) Q := h
  rcases getV_of t i with ⟨d, e, q⟩ | q
  · rw [q] at h
    obtain ⟨v, e1, dn⟩ := r.sl.get e
    exact ⟨v, e1, okR.fin h dn r.rel⟩
  · rw [q] at h
    exact h.elim
theorem de_c {e : Expr} {v : V} (d : D) (h : PE X e (tC v)) (hd : ∀ p G, Den X.K p G d v) : DE X W e (fun _ => pure d) :=
  PE.imp h fun σ H Q ⟨t, p, G, S, ow, r, h⟩ => okR.fin h (hd p G) r.rel
theorem de_int {i j} : DE X W (.Constant (.int i) j pos) (fun _ => pure (.int i)) := de_c _ pe_int fun _ _ => rfl
theorem de_bl {i j} : DE X W (.Constant (.bool i) j pos) (fun _ => pure (.bl i)) := de_c _ pe_bl fun _ _ => rfl
theorem de_non {j} : DE X W (.Constant .none j pos) (fun _ => pure .non) := de_c _ pe_non fun _ _ => rfl
theorem de_str {x j} : DE X W (.Constant (.str x) j pos) (fun _ => pure (.str x)) := de_c _ pe_str fun _ _ => rfl
/-- a module's name that holds plain data -/
theorem de_glob {x : Str} {v : V} {u : Value} (d : D) (hg : Gl X x) (hm : X.mg x = some u) (r : RelV v u) (hd : ∀ p G, Den X.K p G d v) (hdb : (x == ("__debug__" : Str)) = false := by decide) : DE X W (.Name x pos) (fun _ => pure d) :=
  de_c d (pe_glob hg hm r hdb) hd

/-! ### operators by data -/
/-- a value-level reading r2 is served by the data-level f -/
def By2 (K : PySem.W.Frag) (r2 : R2) (f : D → D → M D) : Prop := ∀ (d e : D) (v u : V) (p : List (List Addr)) (G H : Hp) (S : Sto) (W : Value → Option Addr → Hp → Prop) (Q : VK), Den K p G d v → Den K p G e u → Rel0 K p S G H → okR (Den K) K p G H W (f d e S) Q → r2 v u H Q
def By1 (K : PySem.W.Frag) (r1 : V → Hp → VK → Prop) (f : D → M D) : Prop := ∀ (d : D) (v : V) (p : List (List Addr)) (G H : Hp) (S : Sto) (W : Value → Option Addr → Hp → Prop) (Q : VK), Den K p G d v → Rel0 K p S G H → okR (Den K) K p G H W (f d S) Q → r1 v H Q
def ByA (K : PySem.W.Frag) (r1 : List V → Hp → VK → Prop) (f : List D → M D) : Prop := ∀ (d : List D) (v : List V) (p : List (List Addr)) (G H : Hp) (S : Sto) (W : Value → Option Addr → Hp → Prop) (Q : VK), DenL K p G d v → Rel0 K p S G H → okR (Den K) K p G H W (f d S) Q → r1 v H Q
theorem tD2 {K : PySem.W.Frag} {r2 : R2} {f : D → D → M D} (hb : By2 K r2 f) {σ : L2.St} {H : Hp} {Q : VK} (h : tD K W (fun t => do let x ← ma t; let y ← mb t; f x y) σ H Q) : tOp r2 (tD K W ma) (tD K W mb) σ H Q := by
  obtain ⟨t, p, G, S, ow, r, h⟩ := h
  refine ⟨t, p, G, S, ow, r, okR.seq h fun d S1 v p1 G1 H1 e1 dn r1 x1 h1 => ?_⟩
  refine tD.next r x1 r1 (okR.seq h1 fun d2 S2 v2 p2 G2 H2 e2 dn2 r2 x2 h2 => ?_)
  exact hb d d2 v v2 p2 G2 H2 S2 _ Q (dn.mono x2.pp x2.g) dn2 r2 h2
theorem de_op {op : Operator} {r2 : R2} {f : D → D → M D} (ho : OpR X (binaryOp op) r2) (hb : By2 X.K r2 f) (ha : DE X W a ma) (hb' : DE X W b mb) : DE X W (.BinOp a op b pos) (fun t => do let x ← ma t; let y ← mb t; f x y) :=
  PE.imp (pe_op ho ha hb') fun _ _ _ h => tD2 hb h
theorem de_cmp {op : CmpOp} {r2 : R2} {f : D → D → M D} (ho : OpR X (compareOp op) r2) (hb : By2 X.K r2 f) (ha : DE X W a ma) (hb' : DE X W b mb) (hm : behindInMarks op b = false) : DE X W (.Compare a [op] [b] pos) (fun t => do let x ← ma t; let y ← mb t; f x y) :=
  PE.imp (pe_cmpR ho ha hb' hm) fun _ _ _ h => tD2 hb h
theorem de_un {op : UnaryOp} {r1 : V → Hp → VK → Prop} {f : D → M D} (ho : UnR X (unaryOp op) r1) (hb : By1 X.K r1 f) (ha : DE X W a ma) : DE X W (.UnaryOp op a pos) (fun t => do let x ← ma t; f x) := by
  refine PE.imp (pe_un ho ha) fun σ H Q ⟨t, p, G, S, ow, r, h⟩ => ?_
  exact ⟨t, p, G, S, ow, r, okR.seq h fun d S1 v p1 G1 H1 e1 dn r1 x1 h1 => hb d v p1 G1 H1 S1 _ Q dn r1 h1⟩

/-! ### tests -/
def asB : D → M Bool
  | .bl b => pure b
  | _ => stuck
theorem dt_val (ha : DE X W a ma) (he : ∀ whole, isTrue a X.env whole = (do let v ← whole; standAt a.pos; holding [v] (truthy v)) := by intro _; rfl) : DT X W a (fun t => do let x ← ma t; asB x) := by
  refine PT.imp (pt_val ha he) fun σ H Q ⟨t, p, G, S, ow, r, h⟩ => ?_
  refine ⟨t, p, G, S, ow, r, okR.seq h fun d S1 v p1 G1 H1 e1 dn r1 x1 h1 => ?_⟩
  cases d with
  | bl b => exact ⟨b, dn, okR.fin (d := b) h1 rfl r1⟩
  | _ => exact h1.elim
theorem dt_cmp {op : CmpOp} {r2 : R2} {f : D → D → M D} (ho : OpR X (compareOp op) r2) (hb : By2 X.K r2 f) (ha : DE X W a ma) (hb' : DE X W b mb) (hm : behindInMarks op b = false) : DT X W (.Compare a [op] [b] pos) (fun t => do let x ← (do let x ← ma t; let y ← mb t; f x y); asB x) := by
  refine PT.imp (pt_cmpR ho ha hb' hm) fun σ H Q ⟨t, p, G, S, ow, r, h⟩ => ?_
  refine tD2 (ma := ma) (mb := mb) hb ⟨t, p, G, S, ow, r, okR.seq h fun d S1 v p1 G1 H1 e1 dn r1 x1 h1 => ?_⟩
  cases d with
  | bl b => exact ⟨b, dn, okR.fin (d := b) h1 rfl r1⟩
  | _ => exact h1.elim
theorem dt_not (ha : DT X W a mt) : DT X W (.UnaryOp .Not a pos) (fun t => do let x ← mt t; pure (!x)) := by
  refine PT.imp (pt_not ha) fun σ H Q ⟨t, p, G, S, ow, r, h⟩ => ?_
  refine ⟨t, p, G, S, ow, r, okR.seq h fun d S1 v p1 G1 H1 e1 dn r1 x1 h1 => ?_⟩
  cases dn
  exact okR.fin (d := !d) h1 rfl r1
abbrev DW (X : Cx) (W : WX) (e : Expr) (m : DSt → M Bool) : Prop := PW X e (tDT X.K W m)
theorem dw_and1 (ha : DT X W a mt) : DW X W (.BoolOp .And [a] pos) mt := pw_and1 ha
theorem dw_or1 (ha : DT X W a mt) : DW X W (.BoolOp .Or [a] pos) mt := pw_or1 ha
theorem dw_and {rest : List Expr} (ha : DT X W a mt) (hb : DW X W (.BoolOp .And (b :: rest) pos) mu) : DW X W (.BoolOp .And (a :: b :: rest) pos) (fun t => do if ← mt t then mu t else pure false) := by
  refine PW.imp (pw_and ha hb) fun σ H Q ⟨t, p, G, S, ow, r, h⟩ => ?_
  refine ⟨t, p, G, S, ow, r, okR.seq h fun d S1 v p1 G1 H1 e1 dn r1 x1 h1 => ?_⟩
  cases dn
  cases d with
  | true => exact iteT (tDT.next r x1 r1 h1)
  | false => exact iteF (okR.fin (d := false) h1 rfl r1)
theorem dw_or {rest : List Expr} (ha : DT X W a mt) (hb : DW X W (.BoolOp .Or (b :: rest) pos) mu) : DW X W (.BoolOp .Or (a :: b :: rest) pos) (fun t => do if ← mt t then pure true else mu t) := by
  refine PW.imp (pw_or ha hb) fun σ H Q ⟨t, p, G, S, ow, r, h⟩ => ?_
  refine ⟨t, p, G, S, ow, r, okR.seq h fun d S1 v p1 G1 H1 e1 dn r1 x1 h1 => ?_⟩
  cases dn
  cases d with
  | false => exact iteF (tDT.next r x1 r1 h1)
  | true => exact iteT (okR.fin (d := true) h1 rfl r1)
theorem DW.dt (h : DW X W a mt) : DT X W a mt := h.pt
/-! ### and, or, not as values (bools but the last) -/
theorem de_one {op} (h : DE X W a ma) : DE X W (.BoolOp op [a] pos) ma := pe_one h
theorem de_and {rest : List Expr} (ha : DE X W a ma) (hb : DE X W (.BoolOp .And (b :: rest) pos) mb) : DE X W (.BoolOp .And (a :: b :: rest) pos) (fun t => do let x ← ma t; if ← asB x then mb t else pure (.bl false)) := by
  refine PE.imp (pe_and ha hb) fun σ H Q ⟨t, p, G, S, ow, r, h⟩ => ?_
  refine ⟨t, p, G, S, ow, r, okR.seq h fun d S1 v p1 G1 H1 e1 dn r1 x1 h1 => ?_⟩
  cases d with
  | bl b =>
    refine ⟨b, dn, ?_⟩
    cases b with
    | true => exact iteT (tD.next r x1 r1 h1)
    | false => exact iteF (okR.fin (d := D.bl false) h1 rfl r1)
  | _ => exact h1.elim
theorem de_or {rest : List Expr} (ha : DE X W a ma) (hb : DE X W (.BoolOp .Or (b :: rest) pos) mb) : DE X W (.BoolOp .Or (a :: b :: rest) pos) (fun t => do let x ← ma t; if ← asB x then pure (.bl true) else mb t) := by
  refine PE.imp (pe_or ha hb) fun σ H Q ⟨t, p, G, S, ow, r, h⟩ => ?_
  refine ⟨t, p, G, S, ow, r, okR.seq h fun d S1 v p1 G1 H1 e1 dn r1 x1 h1 => ?_⟩
  cases d with
  | bl b =>
    refine ⟨b, dn, ?_⟩
    cases b with
    | false => exact iteF (tD.next r x1 r1 h1)
    | true => exact iteT (okR.fin (d := D.bl true) h1 rfl r1)
  | _ => exact h1.elim
theorem de_not (ha : DE X W a ma) : DE X W (.UnaryOp .Not a pos) (fun t => do let x ← ma t; let b ← asB x; pure (.bl (!b))) := by
  refine PE.imp (pe_not ha) fun σ H Q ⟨t, p, G, S, ow, r, h⟩ => ?_
  refine ⟨t, p, G, S, ow, r, okR.seq h fun d S1 v p1 G1 H1 e1 dn r1 x1 h1 => ?_⟩
  cases d with
  | bl b => exact ⟨b, dn, okR.fin (d := D.bl (!b)) h1 rfl r1⟩
  | _ => exact h1.elim
theorem de_if (hc : DT X W c mt) (ha : DE X W a ma) (hb : DE X W b mb) : DE X W (.IfExp c a b pos) (fun t => do if ← mt t then ma t else mb t) := by
  refine PE.imp (pe_ifExp hc ha hb) fun σ H Q ⟨t, p, G, S, ow, r, h⟩ => ?_
  refine ⟨t, p, G, S, ow, r, okR.seq h fun d S1 v p1 G1 H1 e1 dn r1 x1 h1 => ?_⟩
  cases dn
  cases d with
  | true => exact iteT (tD.next r x1 r1 h1)
  | false => exact iteF (tD.next r x1 r1 h1)

/-! ### arguments, displays -/
variable {ms : DSt → M (List D)}
theorem da_nil : DA X W [] (fun _ => pure []) := PA.imp pa_nil fun σ H Q ⟨t, p, G, S, ow, r, h⟩ => okR.fin (d := []) h DenL.nil r.rel
theorem da_cons (ha : DE X W a ma) (hr : DA X W es ms) (hs : starEach (a :: es) X.env = (false, eval a X.env) :: starEach es X.env := by rfl) : DA X W (a :: es) (fun t => do let x ← ma t; let xs ← ms t; pure (x :: xs)) := by
  refine PA.imp (pa_cons ha hr hs) fun σ H Q ⟨t, p, G, S, ow, r, h⟩ => ?_
  refine ⟨t, p, G, S, ow, r, okR.seq h fun d S1 v p1 G1 H1 e1 dn r1 x1 h1 => ?_⟩
  refine tDA.next r x1 r1 (okR.seq h1 fun d2 S2 v2 p2 G2 H2 e2 dn2 r2 x2 h2 => ?_)
  exact okR.fin (d := d :: d2) h2 (DenL.cons (dn.mono x2.pp x2.g) dn2) r2
/-- a new frozen object as the end -/
theorem okR.new {K : PySem.W.Frag} {p : List (List Addr)} {G H : Hp} {W : Value → Option Addr → Hp → Prop} {d : D} {S : Sto} {Q : VK} {l : Addr} {o : HO} (h : okR (Den K) K p G H W (.ok d S) Q) (r : Rel0 K p S G H) (hl : H l = none) (dn : Den K p (upd G l o) d (.ref l)) : Q (.ref l) (upd H l o) :=
  h _ p _ _ dn (r.new o hl).1 (r.new o hl).2
theorem Same.upd_of {G : Hp} {l : Addr} {o : HO} (h : G l = none) : Same G (upd G l o) := fun b u e => by rw [upd_ne (ne_of_none e h)]; exact e
theorem Rel0.gfree {K : PySem.W.Frag} {p : List (List Addr)} {S : Sto} {G H : Hp} (r : Rel0 K p S G H) {a : Addr} (h : H a = none) : G a = none := Same.free r.sub h
theorem DenL.upd {K : PySem.W.Frag} {p : List (List Addr)} {G : Hp} {l : Addr} {o : HO} {ds : List D} {vs : List V} (h : DenL K p G ds vs) (hl : G l = none) : DenL K p (L2.upd G l o) ds vs := h.mono ⟨[], by simp⟩ (Same.upd_of hl)
theorem Den.upd {K : PySem.W.Frag} {p : List (List Addr)} {G : Hp} {l : Addr} {o : HO} {d : D} {v : V} (h : Den K p G d v) (hl : G l = none) : Den K p (L2.upd G l o) d v := h.mono ⟨[], by simp⟩ (Same.upd_of hl)
def tupD (ds : List D) : M D := if ds.length ≤ sizeLine then pure (.tup ds) else stuck
def lstD (ds : List D) : M D := if ds.length ≤ sizeLine then pure (.lst ds) else stuck
theorem okR.tup {K : PySem.W.Frag} {p : List (List Addr)} {G H : Hp} {W : Value → Option Addr → Hp → Prop} {ds : List D} {vs : List V} {S : Sto} {Q : VK} {l : Addr} (h : okR (Den K) K p G H W (.ok (.tup ds) S) Q) (r : Rel0 K p S G H) (hl : H l = none) (dn : DenL K p G ds vs) : Q (.ref l) (L2.upd H l (.tup vs)) :=
  okR.new h r hl ⟨l, vs, rfl, SqT.of upd_same, dn.upd (r.gfree hl)⟩
theorem okR.lst {K : PySem.W.Frag} {p : List (List Addr)} {G H : Hp} {W : Value → Option Addr → Hp → Prop} {ds : List D} {vs : List V} {S : Sto} {Q : VK} {l : Addr} (h : okR (Den K) K p G H W (.ok (.lst ds) S) Q) (r : Rel0 K p S G H) (hl : H l = none) (dn : DenL K p G ds vs) : Q (.ref l) (L2.upd H l (.lst vs)) :=
  okR.new h r hl ⟨l, vs, rfl, upd_same, dn.upd (r.gfree hl)⟩
theorem de_tup {x1} (h : DA X W es ms) : DE X W (.Tuple es x1 pos) (fun t => do let xs ← ms t; tupD xs) := by
  refine PE.imp (pe_tup h) fun σ H Q ⟨t, p, G, S, ow, r, h⟩ => ?_
  refine ⟨t, p, G, S, ow, r, okR.seq h fun d S1 v p1 G1 H1 e1 dn r1 x1 h1 => ?_⟩
  unfold tupD at h1
  split at h1
  · exact ⟨by rw [dn.length]; assumption, fun l hl => okR.tup h1 r1 hl dn⟩
  · exact h1.elim
theorem de_lst (h : DA X W es ms) : DE X W (.List es pos) (fun t => do let xs ← ms t; lstD xs) := by
  refine PE.imp (pe_lst h) fun σ H Q ⟨t, p, G, S, ow, r, h⟩ => ?_
  refine ⟨t, p, G, S, ow, r, okR.seq h fun d S1 v p1 G1 H1 e1 dn r1 x1 h1 => ?_⟩
  unfold lstD at h1
  split at h1
  · exact ⟨by rw [dn.length]; assumption, fun l hl => okR.lst h1 r1 hl dn⟩
  · exact h1.elim
/-! ### calls of built-ins -/
theorem de_callB {x : Str} {id : String} {r1 : List V → Hp → VK → Prop} {f : List D → M D} {p : Pos} (hc : CallR X (.builtin id) r1) (hb : ByA X.K r1 f) (hg : Gl X x) (hm : X.mg x = none) (hv : bootBuiltins x = some (.builtin id)) (ha : DA X W (a :: es) ms) (hn : x ≠ "__name__" := by decide) (hdb : (x == ("__debug__" : Str)) = false := by decide)
    (he : starEach (a :: es) X.env = (false, eval a X.env) :: starEach es X.env := by rfl) (hpl : (backTo pos (starEach es X.env)).any (·.1) = false := by rfl) : DE X W (.Call (.Name x p) (a :: es) [] pos) (fun t => do let xs ← ms t; f xs) := by
  refine PE.imp (pe_callB hc hg hm hv ha hn hdb he hpl) fun σ H Q ⟨t, p, G, S, ow, r, h⟩ => ?_
  exact ⟨t, p, G, S, ow, r, okR.seq h fun d S1 v p1 G1 H1 e1 dn r1 x1 h1 => hb d v p1 G1 H1 S1 _ Q dn r1 h1⟩
theorem de_callTy {x : Str} {T : String} {r1 : List V → Hp → VK → Prop} {f : List D → M D} {p : Pos} (hc : CallR X (.type T) r1) (hb : ByA X.K r1 f) (hg : Gl X x) (hm : X.mg x = none) (hv : bootBuiltins x = some (.type T)) (ha : DA X W (a :: es) ms) (hn : x ≠ "__name__" := by decide) (hdb : (x == ("__debug__" : Str)) = false := by decide)
    (he : starEach (a :: es) X.env = (false, eval a X.env) :: starEach es X.env := by rfl) (hpl : (backTo pos (starEach es X.env)).any (·.1) = false := by rfl) : DE X W (.Call (.Name x p) (a :: es) [] pos) (fun t => do let xs ← ms t; f xs) := by
  refine PE.imp (pe_callTy hc hg hm hv ha hn hdb he hpl) fun σ H Q ⟨t, p, G, S, ow, r, h⟩ => ?_
  exact ⟨t, p, G, S, ow, r, okR.seq h fun d S1 v p1 G1 H1 e1 dn r1 x1 h1 => hb d v p1 G1 H1 S1 _ Q dn r1 h1⟩
end
end RM

/-! RM: operators by data. -/
namespace RM
open PySem PySem.Spec PyProof.Rows L2

/-! ### arithmetic -/
def addD : D → D → M D
  | .int i, .int j => pure (.int (i + j))
  | .str x, .str y => if x.length + y.length ≤ sizeLine then pure (.str (x ++ y)) else stuck
  | .lst xs, .lst ys => if xs.length + ys.length ≤ sizeLine then pure (.lst (xs ++ ys)) else stuck
  | .tup xs, .tup ys => if xs.length + ys.length ≤ sizeLine then pure (.tup (xs ++ ys)) else stuck
  | _, _ => stuck
def subD : D → D → M D
  | .int i, .int j => pure (.int (i - j))
  | _, _ => stuck
def mulD : D → D → M D
  | .int i, .int j => if (-(2 ^ 64) < i ∧ i < 2 ^ 64) ∨ (-(2 ^ 64) < j ∧ j < 2 ^ 64) then pure (.int (i * j)) else stuck
  | .lst xs, .int k => if -(2 ^ 63) ≤ k ∧ k < 2 ^ 63 ∧ xs.length * k.toNat ≤ sizeLine then pure (.lst (List.replicate k.toNat xs).flatten) else stuck
  | _, _ => stuck
def modD : D → D → M D
  | .int i, .int j => if 0 < j then pure (.int (i % j)) else stuck
  | _, _ => stuck
def fdivD : D → D → M D
  | .int i, .int j => if 0 < j ∧ j.natAbs.log2 < 9000 then pure (.int (i / j)) else stuck
  | _, _ => stuck
def powD : D → D → M D
  | .int i, .int j => if 0 ≤ j ∧ j ≤ 1000000 ∧ i.natAbs < 2 ^ 64 then pure (.int (i ^ j.toNat)) else stuck
  | _, _ => stuck
def negD : D → M D
  | .int i => pure (.int (-i))
  | _ => stuck
section
variable {K : PySem.W.Frag}
theorem DenL.nil_iff {p : List (List Addr)} {G : Hp} {ds : List D} {vs : List V} (h : DenL K p G ds vs) : vs = [] ↔ ds = [] := by
  have e := h.length
  constructor
  · intro z
    rw [z] at e
    exact List.length_eq_zero_iff.mp e.symm
  · intro z
    rw [z] at e
    exact List.length_eq_zero_iff.mp e
theorem by_add : By2 K (fun x y H Q => rI0 (fun i j => .int (i + j)) x y H Q ∨ (∃ i j, x = .str i ∧ y = .str j ∧ i.length + j.length ≤ sizeLine ∧ Q (.str (i ++ j)) H) ∨ rCat x y H Q ∨ rCatA K x y H Q) addD := by
  intro d e v u p G H S W Q hd he r h
  cases d <;> cases e <;> try exact h.elim
  · exact .inl ⟨_, _, hd, he, okR.fin (v := V.int _) h rfl r⟩
  · unfold addD at h
    dsimp only at h
    split at h
    · rename_i hz
      exact .inr (.inl ⟨_, _, hd, he, hz, okR.fin (v := V.str _) h rfl r⟩)
    · exact h.elim
  · unfold addD at h
    dsimp only at h
    split at h
    · rename_i hz
      obtain ⟨a, vs, rfl, ha, hv⟩ := hd
      obtain ⟨b, us, rfl, hb, hu⟩ := he
      refine .inr (.inr (.inr ⟨a, b, vs, us, rfl, rfl, SqT.mono r.sub ha, SqT.mono r.sub hb, by rw [hv.length, hu.length]; exact hz, fun z => ?_, fun _ z => ?_, fun _ z l hl => okR.tup h r hl (hv.append hu)⟩))
      · subst z
        rw [(hv.nil_iff.mp rfl), List.nil_append] at h
        exact okR.fin h ⟨b, us, rfl, hb, hu⟩ r
      · subst z
        rw [(hu.nil_iff.mp rfl), List.append_nil] at h
        exact okR.fin h ⟨a, vs, rfl, ha, hv⟩ r
    · exact h.elim
  · unfold addD at h
    dsimp only at h
    split at h
    · rename_i hz
      obtain ⟨a, vs, rfl, ha, hv⟩ := hd
      obtain ⟨b, us, rfl, hb, hu⟩ := he
      exact .inr (.inr (.inl ⟨a, b, vs, us, rfl, rfl, r.sub _ _ ha, r.sub _ _ hb, by rw [hv.length, hu.length]; exact hz, fun l hl => okR.lst h r hl (hv.append hu)⟩))
    · exact h.elim
theorem by_sub : By2 K (rI0 fun i j => .int (i - j)) subD := by
  intro d e v u p G H S W Q hd he r h
  cases d <;> cases e <;> try exact h.elim
  exact ⟨_, _, hd, he, okR.fin (v := V.int _) h rfl r⟩
theorem DenL.replicate {p : List (List Addr)} {G : Hp} {ds : List D} {vs : List V} (h : DenL K p G ds vs) : ∀ k : Nat, DenL K p G (List.replicate k ds).flatten (List.replicate k vs).flatten
  | 0 => rfl
  | k + 1 => by
    rw [List.replicate_succ, List.replicate_succ, List.flatten_cons, List.flatten_cons]
    exact h.append (DenL.replicate h k)
theorem by_mul : By2 K (fun x y H Q => rI CMul (fun i j => .int (i * j)) x y H Q ∨ rRep x y H Q) mulD := by
  intro d e v u p G H S W Q hd he r h
  cases d <;> cases e <;> try exact h.elim
  · unfold mulD at h
    dsimp only at h
    split at h
    · rename_i hz
      exact .inl ⟨_, _, hd, he, hz, okR.fin (v := V.int _) h rfl r⟩
    · exact h.elim
  · unfold mulD at h
    dsimp only at h
    split at h
    · rename_i hz
      obtain ⟨a, vs, rfl, ha, hv⟩ := hd
      exact .inr ⟨a, _, vs, rfl, he, r.sub _ _ ha, hz.1, hz.2.1, by rw [hv.length]; exact hz.2.2, fun l hl => okR.lst h r hl (hv.replicate _)⟩
    · exact h.elim
theorem by_mod : By2 K (rI (fun _ j => 0 < j) fun i j => .int (i % j)) modD := by
  intro d e v u p G H S W Q hd he r h
  cases d <;> cases e <;> try exact h.elim
  unfold modD at h
  dsimp only at h
  split at h
  · rename_i hz
    exact ⟨_, _, hd, he, hz, okR.fin (v := V.int _) h rfl r⟩
  · exact h.elim
theorem by_fdiv : By2 K (rI CDivW fun i j => .int (i / j)) fdivD := by
  intro d e v u p G H S W Q hd he r h
  cases d <;> cases e <;> try exact h.elim
  unfold fdivD at h
  dsimp only at h
  split at h
  · rename_i hz
    exact ⟨_, _, hd, he, hz, okR.fin (v := V.int _) h rfl r⟩
  · exact h.elim
theorem by_pow : By2 K (rI CPow fun i j => .int (i ^ j.toNat)) powD := by
  intro d e v u p G H S W Q hd he r h
  cases d <;> cases e <;> try exact h.elim
  unfold powD at h
  dsimp only at h
  split at h
  · rename_i hz
    exact ⟨_, _, hd, he, hz, okR.fin (v := V.int _) h rfl r⟩
  · exact h.elim
theorem by_neg : By1 K (rU fun i => .int (-i)) negD := by
  intro d v p G H S W Q hd r h
  cases d <;> try exact h.elim
  exact ⟨_, hd, okR.fin (v := V.int _) h rfl r⟩
end
section
variable {X : Cx} {W : WX} {a b c : Expr} {es : List Expr} {ma mb mc : DSt → M D} {pos : Pos}
theorem de_add (ha : DE X W a ma) (hb : DE X W b mb) : DE X W (.BinOp a .Add b pos) (fun t => do let x ← ma t; let y ← mb t; addD x y) := de_op (op_add.or (op_add_str.or (op_cat.or op_catA))) by_add ha hb
theorem de_sub (ha : DE X W a ma) (hb : DE X W b mb) : DE X W (.BinOp a .Sub b pos) (fun t => do let x ← ma t; let y ← mb t; subD x y) := de_op op_sub by_sub ha hb
theorem de_mul (ha : DE X W a ma) (hb : DE X W b mb) : DE X W (.BinOp a .Mult b pos) (fun t => do let x ← ma t; let y ← mb t; mulD x y) := de_op (op_mul.or op_rep) by_mul ha hb
theorem de_mod (ha : DE X W a ma) (hb : DE X W b mb) : DE X W (.BinOp a .Mod b pos) (fun t => do let x ← ma t; let y ← mb t; modD x y) := de_op op_mod by_mod ha hb
theorem de_fdiv (ha : DE X W a ma) (hb : DE X W b mb) : DE X W (.BinOp a .FloorDiv b pos) (fun t => do let x ← ma t; let y ← mb t; fdivD x y) := de_op op_fdivW by_fdiv ha hb
theorem de_pow (ha : DE X W a ma) (hb : DE X W b mb) : DE X W (.BinOp a .Pow b pos) (fun t => do let x ← ma t; let y ← mb t; powD x y) := de_op op_pow by_pow ha hb
theorem de_neg (ha : DE X W a ma) : DE X W (.UnaryOp .USub a pos) (fun t => do let x ← ma t; negD x) := de_un un_neg by_neg ha
end
/-! ### comparisons -/
def isNonD : D → D → M D
  | d, .non => pure (.bl (match d with | .non => true | _ => false))
  | _, _ => stuck
def notNonD : D → D → M D
  | d, .non => pure (.bl (match d with | .non => false | _ => true))
  | _, _ => stuck
def strLt (x y : Str) : Bool := decide (x.cps.toList < y.cps.toList)
def ltD : D → D → M D
  | .int i, .int j => pure (.bl (decide (i < j)))
  | .str i, .str j => pure (.bl (strLt i j))
  | _, _ => stuck
def leD : D → D → M D
  | .int i, .int j => pure (.bl (decide (i ≤ j)))
  | _, _ => stuck
def gtD : D → D → M D
  | .int i, .int j => pure (.bl (decide (j < i)))
  | _, _ => stuck
def geD : D → D → M D
  | .int i, .int j => pure (.bl (decide (j ≤ i)))
  | _, _ => stuck
mutual
def toPy : D → Option PyData
  | .non => some .none
  | .bl b => some (.bool b)
  | .int i => some (.int i)
  | .str x => some (.str x)
  | .tup xs => (toPyL xs).map .tuple
  | .lst xs => (toPyL xs).map .list
  | .ins _ _ _ => none
  | .mref _ => none
  | .dic _ _ => none
  | .scr _ => none
  | .xcp _ _ _ => none
def toPyL : List D → Option (List PyData)
  | [] => some []
  | x :: xs => match toPy x, toPyL xs with
    | some y, some ys => some (y :: ys)
    | _, _ => none
end
def eqDeep (neg : Bool) (d e : D) : M D := match toPy d, toPy e with
  | some x, some y => if SeqAt.shaped x = true ∧ SeqAt.shaped y = true then pure (.bl (if neg then !PyData.eqv x y else PyData.eqv x y)) else stuck
  | _, _ => stuck
def eqD : D → D → M D
  | .int i, .int j => pure (.bl (i == j))
  | .str i, .str j => pure (.bl (i == j))
  | .bl i, .bl j => pure (.bl (i == j))
  | d, e => eqDeep false d e
def neD : D → D → M D
  | .int i, .int j => pure (.bl (!(i == j)))
  | .str i, .str j => pure (.bl (!(i == j)))
  | .bl i, .bl j => pure (.bl (!(i == j)))
  | d, e => eqDeep true d e
section
variable {K : PySem.W.Frag}
mutual
theorem toPy_dp {p : List (List Addr)} {G H : Hp} (sub : Same G H) : ∀ {d : D} {v : V} {x : PyData}, Den K p G d v → toPy d = some x → Dp K H v x
  | .non, _, _, h, e => by
    cases (show _ = _ from h); cases e; exact .non
  | .bl b, _, _, h, e => by
    cases (show _ = _ from h); cases e; exact .bl b
  | .int i, _, _, h, e => by
    cases (show _ = _ from h); cases e; exact .int i
  | .str i, _, _, h, e => by
    cases (show _ = _ from h); cases e; exact .str i
  | .tup xs, _, _, ⟨a, vs, h1, h2, h3⟩, e => by
    subst h1
    obtain ⟨ys, e1, e2⟩ := Option.map_eq_some_iff.mp (show (toPyL xs).map PyData.tuple = some _ from e)
    subst e2
    exact .tup (SqT.mono sub h2) (toPyL_dp sub h3 e1)
  | .lst xs, _, _, ⟨a, vs, h1, h2, h3⟩, e => by
    subst h1
    obtain ⟨ys, e1, e2⟩ := Option.map_eq_some_iff.mp (show (toPyL xs).map PyData.list = some _ from e)
    subst e2
    exact .lst (SqL.of (sub _ _ h2)) (toPyL_dp sub h3 e1)
  | .ins _ _ _, _, _, _, e => by cases e
  | .mref _, _, _, _, e => by cases e
  | .dic _ _, _, _, _, e => by cases e
  | .scr _, _, _, _, e => by cases e
  | .xcp _ _ _, _, _, _, e => by cases e
theorem toPyL_dp {p : List (List Addr)} {G H : Hp} (sub : Same G H) : ∀ {d : List D} {v : List V} {x : List PyData}, DenL K p G d v → toPyL d = some x → DpAll K H v x
  | [], _, _, h, e => by
    cases (show _ = [] from h); cases e; exact .nil
  | y :: ys, _, _, ⟨v, r, h1, h2, h3⟩, e => by
    subst h1
    have e' : (match toPy y, toPyL ys with
      | some y, some ys => some (y :: ys)
      | _, _ => none) = some _ := e
    cases q1 : toPy y with
    | none => rw [q1] at e'; cases e'
    | some z =>
      cases q2 : toPyL ys with
      | none => rw [q1, q2] at e'; cases e'
      | some zs =>
        rw [q1, q2] at e'
        cases e'
        exact .cons (toPy_dp sub h2 q1) (toPyL_dp sub h3 q2)
end
theorem deep_split {neg : Bool} {p : List (List Addr)} {G H : Hp} {S : Sto} {W : Value → Option Addr → Hp → Prop} {Q : VK} {d e : D} {v u : V} (hd : Den K p G d v) (he : Den K p G e u) (r : Rel0 K p S G H) (h : okR (Den K) K p G H W (eqDeep neg d e S) Q) :
    ∃ x y, Dp K H v x ∧ Dp K H u y ∧ SeqAt.shaped x = true ∧ SeqAt.shaped y = true ∧ Q (.bl (if neg then !PyData.eqv x y else PyData.eqv x y)) H := by
  unfold eqDeep at h
  cases q1 : toPy d with
  | none => rw [q1] at h; exact h.elim
  | some x =>
    cases q2 : toPy e with
    | none => rw [q1, q2] at h; exact h.elim
    | some y =>
      rw [q1, q2] at h
      dsimp only at h
      split at h
      · rename_i hz
        exact ⟨x, y, toPy_dp r.sub hd q1, toPy_dp r.sub he q2, hz.1, hz.2, okR.fin (v := V.bl _) h rfl r⟩
      · exact h.elim
theorem by_eq : By2 K (fun x y H Q => rEq x y H Q ∨ rEqD K x y H Q) eqD := by
  intro d e v u p G H S W Q hd he r h
  unfold eqD at h
  split at h
  · cases (show v = _ from hd); cases (show u = _ from he)
    refine .inl ⟨rfl, ?_⟩
    rw [dec_int]
    exact okR.fin (v := V.bl _) h rfl r
  · cases (show v = _ from hd); cases (show u = _ from he)
    refine .inl ⟨rfl, ?_⟩
    rw [dec_str]
    exact okR.fin (v := V.bl _) h rfl r
  · cases (show v = _ from hd); cases (show u = _ from he)
    refine .inl ⟨rfl, ?_⟩
    rw [dec_bl]
    exact okR.fin (v := V.bl _) h rfl r
  · obtain ⟨x, y, k1, k2, k3, k4, k5⟩ := deep_split hd he r h
    exact .inr ⟨x, y, k1, k2, k3, k4, k5⟩
theorem by_ne : By2 K (fun x y H Q => rNe x y H Q ∨ rNeD K x y H Q) neD := by
  intro d e v u p G H S W Q hd he r h
  unfold neD at h
  split at h
  · cases (show v = _ from hd); cases (show u = _ from he)
    refine .inl ⟨rfl, ?_⟩
    rw [dec_int]
    exact okR.fin (v := V.bl _) h rfl r
  · cases (show v = _ from hd); cases (show u = _ from he)
    refine .inl ⟨rfl, ?_⟩
    rw [dec_str]
    exact okR.fin (v := V.bl _) h rfl r
  · cases (show v = _ from hd); cases (show u = _ from he)
    refine .inl ⟨rfl, ?_⟩
    rw [dec_bl]
    exact okR.fin (v := V.bl _) h rfl r
  · obtain ⟨x, y, k1, k2, k3, k4, k5⟩ := deep_split hd he r h
    exact .inr ⟨x, y, k1, k2, k3, k4, k5⟩
theorem by_lt : By2 K (fun x y H Q => rI0 (fun i j => .bl (decide (i < j))) x y H Q ∨ ∃ i j, x = .str i ∧ y = .str j ∧ Q (.bl (decide (i.cps.toList < j.cps.toList))) H) ltD := by
  intro d e v u p G H S W Q hd he r h
  cases d <;> cases e <;> try exact h.elim
  · exact .inl ⟨_, _, hd, he, okR.fin (v := V.bl _) h rfl r⟩
  · exact .inr ⟨_, _, hd, he, okR.fin (v := V.bl _) h rfl r⟩
theorem by_le : By2 K (rI0 fun i j => .bl (decide (i ≤ j))) leD := by
  intro d e v u p G H S W Q hd he r h
  cases d <;> cases e <;> try exact h.elim
  exact ⟨_, _, hd, he, okR.fin (v := V.bl _) h rfl r⟩
theorem by_gt : By2 K (rI0 fun i j => .bl (decide (j < i))) gtD := by
  intro d e v u p G H S W Q hd he r h
  cases d <;> cases e <;> try exact h.elim
  exact ⟨_, _, hd, he, okR.fin (v := V.bl _) h rfl r⟩
theorem by_ge : By2 K (rI0 fun i j => .bl (decide (j ≤ i))) geD := by
  intro d e v u p G H S W Q hd he r h
  cases d <;> cases e <;> try exact h.elim
  exact ⟨_, _, hd, he, okR.fin (v := V.bl _) h rfl r⟩
theorem den_non {p : List (List Addr)} {G : Hp} {d : D} {v : V} (h : Den K p G d v) : decide (v = .non) = (match d with | .non => true | _ => false) := by
  cases d with
  | non => cases (show v = _ from h); rfl
  | bl b => cases (show v = _ from h); rfl
  | int b => cases (show v = _ from h); rfl
  | str b => cases (show v = _ from h); rfl
  | tup xs => obtain ⟨a, vs, rfl, _⟩ := h; rfl
  | lst xs => obtain ⟨a, vs, rfl, _⟩ := h; rfl
  | ins c ns fs => obtain ⟨a, dx, vs, rfl, _⟩ := h; rfl
  | mref i => obtain ⟨a, r, _, rfl⟩ := h; rfl
  | dic k xs => obtain ⟨a, vs, rfl, _⟩ := h; rfl
  | scr xs => obtain ⟨a, rfl, _⟩ := h; rfl
  | xcp c ns fs => obtain ⟨a, dd, vs, rfl, _⟩ := h; rfl
theorem by_isN : By2 K (fun x y H Q => y = .non ∧ Q (.bl (decide (x = .non))) H) isNonD := by
  intro d e v u p G H S W Q hd he r h
  cases e with
  | non =>
    refine ⟨he, ?_⟩
    rw [den_non hd]
    refine okR.fin (d := D.bl _) (v := V.bl _) h ?_ r
    cases d <;> rfl
  | _ => cases d <;> exact h.elim
theorem by_notN : By2 K (fun x y H Q => y = .non ∧ Q (.bl (!decide (x = .non))) H) notNonD := by
  intro d e v u p G H S W Q hd he r h
  cases e with
  | non =>
    refine ⟨he, ?_⟩
    rw [den_non hd]
    refine okR.fin (d := D.bl _) (v := V.bl _) h ?_ r
    cases d <;> rfl
  | _ => cases d <;> exact h.elim
end
section
variable {X : Cx} {W : WX} {a b c : Expr} {es : List Expr} {ma mb mc : DSt → M D} {pos : Pos}
theorem de_eq (hu : X.A.units + 64 < cLine) (ha : DE X W a ma) (hb : DE X W b mb) : DE X W (.Compare a [.Eq] [b] pos) (fun t => do let x ← ma t; let y ← mb t; eqD x y) := de_cmp (op_eq.or (op_eqD hu)) by_eq ha hb (nomark _)
theorem de_ne (hu : X.A.units + 64 < cLine) (ha : DE X W a ma) (hb : DE X W b mb) : DE X W (.Compare a [.NotEq] [b] pos) (fun t => do let x ← ma t; let y ← mb t; neD x y) := de_cmp (op_ne.or (op_neD hu)) by_ne ha hb (nomark _)
theorem de_lt (ha : DE X W a ma) (hb : DE X W b mb) : DE X W (.Compare a [.Lt] [b] pos) (fun t => do let x ← ma t; let y ← mb t; ltD x y) := de_cmp (op_lt.or op_lt_str) by_lt ha hb (nomark _)
theorem de_le (ha : DE X W a ma) (hb : DE X W b mb) : DE X W (.Compare a [.LtE] [b] pos) (fun t => do let x ← ma t; let y ← mb t; leD x y) := de_cmp op_le by_le ha hb (nomark _)
theorem de_gt (ha : DE X W a ma) (hb : DE X W b mb) : DE X W (.Compare a [.Gt] [b] pos) (fun t => do let x ← ma t; let y ← mb t; gtD x y) := de_cmp op_gt by_gt ha hb (nomark _)
theorem de_ge (ha : DE X W a ma) (hb : DE X W b mb) : DE X W (.Compare a [.GtE] [b] pos) (fun t => do let x ← ma t; let y ← mb t; geD x y) := de_cmp op_ge by_ge ha hb (nomark _)
theorem de_is (ha : DE X W a ma) (hb : DE X W b mb) : DE X W (.Compare a [.Is] [b] pos) (fun t => do let x ← ma t; let y ← mb t; isNonD x y) := de_cmp op_isN by_isN ha hb (nomark _)
theorem de_isnot (ha : DE X W a ma) (hb : DE X W b mb) : DE X W (.Compare a [.IsNot] [b] pos) (fun t => do let x ← ma t; let y ← mb t; notNonD x y) := de_cmp op_notN by_notN ha hb (nomark _)
theorem dt_eq (hu : X.A.units + 64 < cLine) (ha : DE X W a ma) (hb : DE X W b mb) : DT X W (.Compare a [.Eq] [b] pos) (fun t => do let x ← (do let x ← ma t; let y ← mb t; eqD x y); asB x) := dt_cmp (op_eq.or (op_eqD hu)) by_eq ha hb (nomark _)
theorem dt_ne (hu : X.A.units + 64 < cLine) (ha : DE X W a ma) (hb : DE X W b mb) : DT X W (.Compare a [.NotEq] [b] pos) (fun t => do let x ← (do let x ← ma t; let y ← mb t; neD x y); asB x) := dt_cmp (op_ne.or (op_neD hu)) by_ne ha hb (nomark _)
theorem dt_lt (ha : DE X W a ma) (hb : DE X W b mb) : DT X W (.Compare a [.Lt] [b] pos) (fun t => do let x ← (do let x ← ma t; let y ← mb t; ltD x y); asB x) := dt_cmp (op_lt.or op_lt_str) by_lt ha hb (nomark _)
theorem dt_le (ha : DE X W a ma) (hb : DE X W b mb) : DT X W (.Compare a [.LtE] [b] pos) (fun t => do let x ← (do let x ← ma t; let y ← mb t; leD x y); asB x) := dt_cmp op_le by_le ha hb (nomark _)
theorem dt_gt (ha : DE X W a ma) (hb : DE X W b mb) : DT X W (.Compare a [.Gt] [b] pos) (fun t => do let x ← (do let x ← ma t; let y ← mb t; gtD x y); asB x) := dt_cmp op_gt by_gt ha hb (nomark _)
theorem dt_ge (ha : DE X W a ma) (hb : DE X W b mb) : DT X W (.Compare a [.GtE] [b] pos) (fun t => do let x ← (do let x ← ma t; let y ← mb t; geD x y); asB x) := dt_cmp op_ge by_ge ha hb (nomark _)
theorem dt_is (ha : DE X W a ma) (hb : DE X W b mb) : DT X W (.Compare a [.Is] [b] pos) (fun t => do let x ← (do let x ← ma t; let y ← mb t; isNonD x y); asB x) := dt_cmp op_isN by_isN ha hb (nomark _)
theorem dt_isnot (ha : DE X W a ma) (hb : DE X W b mb) : DT X W (.Compare a [.IsNot] [b] pos) (fun t => do let x ← (do let x ← ma t; let y ← mb t; notNonD x y); asB x) := dt_cmp op_notN by_notN ha hb (nomark _)
end
end RM

/-! RM: statements, functions. -/
namespace RM
open PySem PySem.Spec PyProof.Rows L2

/-- how a statement ends -/
inductive Ctl where
  | nx (t : DSt) | rt (d : D) | bk (t : DSt) | ct (t : DSt) | rl (xs : List D)
/-- what a body looks back to: the state at the entry; what must stay frozen -/
structure Snap where
  p : List (List Addr)
  G : Hp
  H : Hp
  pF : List (List Addr)
  GF : Hp
structure RelF (K : PySem.W.Frag) (n : Snap) (p : List (List Addr)) (G : Hp) (S : Sto) (H : Hp) (t : DSt) (σ : L2.St) (ow : List Addr) : Prop where
  rs : RelS K p G S H t σ ow
  ext : Ext n.p n.G n.H p G H
  own : ∀ a ∈ ow, n.H a = none
  fp : ∃ r, p = n.pF ++ r
  fg : Same n.GF G
theorem RelF.step {K : PySem.W.Frag} {n : Snap} {p p1 : List (List Addr)} {G H G1 H1 : Hp} {S S1 : Sto} {t : DSt} {σ : L2.St} {ow : List Addr} (r : RelF K n p G S H t σ ow) (e : Ext p G H p1 G1 H1) (r1 : Rel0 K p1 S1 G1 H1) : RelF K n p1 G1 S1 H1 t σ ow := by
  obtain ⟨q, e1⟩ := r.fp
  obtain ⟨q2, e2⟩ := e.pp
  exact ⟨r.rs.ext e r1, r.ext.trans e, r.own, ⟨q ++ q2, by rw [e2, e1, List.append_assoc]⟩, r.fg.trans e.g⟩
abbrev Wf := Value → Option Addr → Hp → Prop
abbrev Wf.x (W : Wf) : WX := fun c d _ H => W c d H
def okS (K : PySem.W.Frag) (W : Wf) (n : Snap) (r : Res Ctl) (E : Ends) : Prop := match r with
  | .ok (.nx t') S' => ∀ p' G' H' σ' ow', RelF K n p' G' S' H' t' σ' ow' → E.nx σ' H'
  | .ok (.bk t') S' => ∀ p' G' H' σ' ow', RelF K n p' G' S' H' t' σ' ow' → E.bk σ' H'
  | .ok (.ct t') S' => ∀ p' G' H' σ' ow', RelF K n p' G' S' H' t' σ' ow' → E.ct σ' H'
  | .ok (.rt d) S' => ∀ v p' G' H', Den K p' G' d v → Rel0 K p' S' G' H' → Ext n.p n.G n.H p' G' H' → E.rt v H'
  | .ok (.rl xs) S' => ∀ a vs p' G' H', n.H a = none → H' a = some (.lst vs) → DenL K p' G' xs vs → G' a = none → a ∉ p'.flatten → Rel0 K p' S' G' H' → Ext n.p n.G n.H p' G' H' → E.rt (.ref a) H'
  | .exc e S' => ∀ cls dd p' G' H', ExcAt K p' G' e cls dd → Rel0 K p' S' G' H' → Ext n.p n.G n.H p' G' H' → W cls dd H'
  | .stuck => False
def tDS (K : PySem.W.Frag) (W : Wf) (m : DSt → M Ctl) : TS := fun E σ H => ∃ n t p G S ow, RelF K n p G S H t σ ow ∧ okS K W n (m t S) E
abbrev DS (X : Cx) (W : Wf) (st : Stmt) (m : DSt → M Ctl) : Prop := PS X st (tDS X.K W m)
abbrev DSs (X : Cx) (W : Wf) (st : List Stmt) (m : DSt → M Ctl) : Prop := PSs X st (tDS X.K W m)
theorem PS.imp {X : Cx} {st : Stmt} {t t' : TS} (h : PS X st t) (k : ∀ E σ H, t' E σ H → t E σ H) : PS X st t' := ⟨fun pins s σ H E I q => h.run pins s σ H E I (k _ _ _ q)⟩
theorem PSs.imp {X : Cx} {st : List Stmt} {t t' : TS} (h : PSs X st t) (k : ∀ E σ H, t' E σ H → t E σ H) : PSs X st t' := ⟨fun pins s σ H E I q => h.run pins s σ H E I (k _ _ _ q)⟩
/-- from a statement's part (an expression's result) on -/
theorem okS.seq {α β : Type} {R1 : List (List Addr) → Hp → α → β → Prop} {K : PySem.W.Frag} {W : Wf} {n : Snap} {E : Ends} {p : List (List Addr)} {G H : Hp} {S : Sto} {t : DSt} {σ : L2.St} {ow : List Addr} {m : M α} {f : α → M Ctl} {Q1 : β → Hp → Prop}
    (h : okS K W n ((m >>= f) S) E) (r : RelF K n p G S H t σ ow)
    (k : ∀ d S1 v p1 G1 H1, m S = .ok d S1 → R1 p1 G1 d v → RelF K n p1 G1 S1 H1 t σ ow → Ext p G H p1 G1 H1 → okS K W n (f d S1) E → Q1 v H1) : okR R1 K p G H (fun c d H' => W c d H') (m S) Q1 := by
  have h' : okS K W n ((m S).andThen f) E := h
  cases e : m S with
  | ok d S1 =>
    rw [e] at h'
    exact fun v p1 G1 H1 a b c => k d S1 v p1 G1 H1 e a (r.step c b) c h'
  | exc x S1 =>
    rw [e] at h'
    exact fun cls dd p1 G1 H1 a b c => h' cls dd p1 G1 H1 a b (r.ext.trans c)
  | stuck =>
    rw [e] at h'
    exact h'
/-- block ends -/
def seqC (u : DSt → M Ctl) : Ctl → M Ctl
  | .nx t => u t
  | c => pure c
section
variable {X : Cx} {W : Wf} {st : Stmt} {rest : List Stmt} {m u : DSt → M Ctl} {a b c e : Expr} {ma mb : DSt → M D} {mt : DSt → M Bool} {pos : Pos}
theorem ds_nil : DSs X W [] (fun t => pure (.nx t)) := PSs.imp pss_nil fun E σ H ⟨n, t, p, G, S, ow, r, h⟩ => h p G H σ ow r
theorem okS.imp {K : PySem.W.Frag} {W : Wf} {n : Snap} {E E' : Ends} {r : Res Ctl} (h : okS K W n r E) (k1 : ∀ σ H, E.nx σ H → E'.nx σ H) (k2 : ∀ σ H, E.bk σ H → E'.bk σ H) (k3 : ∀ σ H, E.ct σ H → E'.ct σ H) (k4 : ∀ v H, E.rt v H → E'.rt v H) : okS K W n r E' := by
  cases r with
  | ok c S' =>
    cases c with
    | nx t => exact fun p' G' H' σ' ow' r => k1 _ _ (h p' G' H' σ' ow' r)
    | bk t => exact fun p' G' H' σ' ow' r => k2 _ _ (h p' G' H' σ' ow' r)
    | ct t => exact fun p' G' H' σ' ow' r => k3 _ _ (h p' G' H' σ' ow' r)
    | rt d => exact fun v p' G' H' a b c => k4 _ _ (h v p' G' H' a b c)
    | rl xs => exact fun l vs p' G' H' a b c d e f g => k4 _ _ (h l vs p' G' H' a b c d e f g)
  | exc x S' => exact h
  | stuck => exact h
/-- a first part's ends, then the rest -/
theorem okS.then {K : PySem.W.Frag} {W : Wf} {n : Snap} {E E1 : Ends} {r : Res Ctl} (h : okS K W n (r.andThen (seqC u)) E) (kb : E.bk = E1.bk) (kc : E.ct = E1.ct) (kr : E.rt = E1.rt)
    (k : ∀ t' S' p' G' H' σ' ow', RelF K n p' G' S' H' t' σ' ow' → okS K W n (u t' S') E → E1.nx σ' H') : okS K W n r E1 := by
  cases r with
  | ok c S' =>
    cases c with
    | nx t => exact fun p' G' H' σ' ow' r => k t S' p' G' H' σ' ow' r h
    | bk t => intro p' G' H' σ' ow' r; rw [← kb]; exact h p' G' H' σ' ow' r
    | ct t => intro p' G' H' σ' ow' r; rw [← kc]; exact h p' G' H' σ' ow' r
    | rt d => intro v p' G' H' a b c; rw [← kr]; exact h v p' G' H' a b c
    | rl xs => intro l vs p' G' H' a b c d e f g; rw [← kr]; exact h l vs p' G' H' a b c d e f g
  | exc x S' => exact h
  | stuck => exact h
theorem ds_cons (h1 : DS X W st m) (h2 : DSs X W rest u) : DSs X W (st :: rest) (fun t => do let c ← m t; seqC u c) := by
  refine PSs.imp (pss_cons h1 h2) fun E σ H ⟨n, t, p, G, S, ow, r, h⟩ => ?_
  refine ⟨n, t, p, G, S, ow, r, okS.then (u := u) h rfl rfl rfl fun t' S' p' G' H' σ' ow' r' h' => ?_⟩
  exact ⟨n, t', p', G', S', ow', r', h'⟩
theorem ds_one (h1 : DS X W st m) : DSs X W [st] m := pss_one h1
theorem ds_pass : DS X W (.Pass pos) (fun t => pure (.nx t)) := PS.imp ps_pass fun E σ H ⟨n, t, p, G, S, ow, r, h⟩ => h p G H σ ow r
theorem ds_break : DS X W (.Break pos) (fun t => pure (.bk t)) := PS.imp ps_break fun E σ H ⟨n, t, p, G, S, ow, r, h⟩ => h p G H σ ow r
theorem ds_continue : DS X W (.Continue pos) (fun t => pure (.ct t)) := PS.imp ps_continue fun E σ H ⟨n, t, p, G, S, ow, r, h⟩ => h p G H σ ow r
theorem ds_ret (he : DE X W.x e ma) : DS X W (.Return (some e) pos) (fun t => do let x ← ma t; pure (.rt x)) := by
  refine PS.imp (ps_ret he) fun E σ H ⟨n, t, p, G, S, ow, r, h⟩ => ?_
  exact ⟨t, p, G, S, ow, r.rs, okS.seq h r fun d S1 v p1 G1 H1 e1 dn r1 x1 h1 => h1 v p1 G1 H1 dn r1.rs.rel r1.ext⟩
theorem ds_retN : DS X W (.Return none pos) (fun _ => pure (.rt .non)) := PS.imp ps_retN fun E σ H ⟨n, t, p, G, S, ow, r, h⟩ => h .non p G H rfl r.rs.rel r.ext
theorem ds_expr (he : DE X W.x e ma) (hs : swapsWith e none pos.line X.env = pure false := by rfl) : DS X W (.Expr e pos) (fun t => do let _ ← ma t; pure (.nx t)) := by
  refine PS.imp (ps_expr he hs) fun E σ H ⟨n, t, p, G, S, ow, r, h⟩ => ?_
  exact ⟨t, p, G, S, ow, r.rs, okS.seq h r fun d S1 v p1 G1 H1 e1 dn r1 x1 h1 => h1 p1 G1 H1 σ ow r1⟩
theorem ds_if {xs ys : List Stmt} (hc : DT X W.x c mt) (ha : DSs X W xs m) (hb : DSs X W ys u) : DS X W (.If c xs ys pos) (fun t => do if ← mt t then m t else u t) := by
  refine PS.imp (ps_if hc ha hb) fun E σ H ⟨n, t, p, G, S, ow, r, h⟩ => ?_
  refine ⟨t, p, G, S, ow, r.rs, okS.seq h r fun d S1 v p1 G1 H1 e1 dn r1 x1 h1 => ?_⟩
  cases dn
  cases d with
  | true => exact iteT ⟨n, t, p1, G1, S1, ow, r1, h1⟩
  | false => exact iteF ⟨n, t, p1, G1, S1, ow, r1, h1⟩
/-- code that is never reached -/
theorem ds_never : DS X W st (fun _ => stuck) := PS.imp ps_never fun E σ H ⟨n, t, p, G, S, ow, r, h⟩ => h.elim
theorem dss_never {sts : List Stmt} : DSs X W sts (fun _ => stuck) := PSs.imp pss_never fun E σ H ⟨n, t, p, G, S, ow, r, h⟩ => h.elim

/-! ### slots are set -/
theorem SlotsR.len {K : PySem.W.Frag} {p : List (List Addr)} {G H : Hp} : ∀ {t : DSt} {σ : L2.St} {ow : List Addr}, SlotsR K p G H t σ ow → σ.length = t.length
  | [], _, _, h => by rw [h.1]; rfl
  | _ :: _, _, _, ⟨v, r, l, k, h1, h2, h3, h4⟩ => by rw [h1, List.length_cons, List.length_cons, SlotsR.len h4]
/-- the i-th slot gets another content l' -/
theorem SlotsR.set {K : PySem.W.Frag} {p : List (List Addr)} {G H : Hp} {s : Option DV} {v : Option V} {l' : List Addr} (hs : SlotR K p G H s v l') : ∀ {t : DSt} {σ : L2.St} {ow : List Addr} (i : Nat), i < t.length → SlotsR K p G H t σ ow →
    ∃ a l b, ow = a ++ l ++ b ∧ SlotsR K p G H (t.set i s) (σ.set i v) (a ++ l' ++ b)
  | _ :: _, _, _, 0, _, ⟨v0, r, l, k, h1, h2, h3, h4⟩ => by
    refine ⟨[], l, k, by rw [h2]; rfl, ?_⟩
    rw [h1]
    exact ⟨v, r, l', k, rfl, rfl, hs, h4⟩
  | _ :: _, _, _, i + 1, hi, ⟨v0, r, l, k, h1, h2, h3, h4⟩ => by
    obtain ⟨a, x, b, e, q⟩ := SlotsR.set hs i (by simpa using hi) h4
    refine ⟨l ++ a, x, b, by rw [h2, e]; simp, ?_⟩
    rw [h1]
    refine ⟨v0, _, l, a ++ l' ++ b, rfl, by simp, h3, q⟩
theorem nodup_mid {α : Type} {P a l b : List α} (h : (P ++ (a ++ l ++ b)).Nodup) : (P ++ (a ++ [] ++ b)).Nodup := by
  have : (P ++ (a ++ [] ++ b)).Sublist (P ++ (a ++ l ++ b)) := by
    refine List.Sublist.append (List.Sublist.refl _) (List.Sublist.append (List.Sublist.append (List.Sublist.refl _) (List.nil_sublist _)) (List.Sublist.refl _))
  exact h.sublist this
/-- a slot gets plain data (or nothing) -/
theorem RelS.set0 {K : PySem.W.Frag} {p : List (List Addr)} {G H : Hp} {S : Sto} {t : DSt} {σ : L2.St} {ow : List Addr} {s : Option DV} {v : Option V} (r : RelS K p G S H t σ ow) {i : Nat} (hi : i < t.length) (hs : SlotR K p G H s v []) :
    ∃ ow', (∀ a ∈ ow', a ∈ ow) ∧ RelS K p G S H (t.set i s) (σ.set i v) ow' := by
  obtain ⟨a, l, b, e, q⟩ := SlotsR.set hs i hi r.sl
  subst e
  refine ⟨a ++ [] ++ b, fun x hx => ?_, r.rel, q, nodup_mid r.nd, fun x hx => r.gn x ?_⟩
  · simp at hx ⊢; rcases hx with z | z <;> simp [z]
  · simp at hx ⊢; rcases hx with z | z <;> simp [z]
theorem RelF.set0 {K : PySem.W.Frag} {n : Snap} {p : List (List Addr)} {G H : Hp} {S : Sto} {t : DSt} {σ : L2.St} {ow : List Addr} {s : Option DV} {v : Option V} (r : RelF K n p G S H t σ ow) {i : Nat} (hi : i < t.length) (hs : SlotR K p G H s v []) :
    ∃ ow', RelF K n p G S H (t.set i s) (σ.set i v) ow' := by
  obtain ⟨ow', k, q⟩ := r.rs.set0 hi hs
  exact ⟨ow', q, r.ext, fun a ha => r.own a (k a ha), r.fp, r.fg⟩
def setV (t : DSt) (i : Nat) (d : D) : Option DSt := if i < t.length then some (t.set i (some (.val d))) else none
def liftO {α : Type} : Option α → M α
  | some x => pure x
  | none => stuck
/-! ### targets -/
def gD (K : PySem.W.Frag) (W : Wf) (g : D → DSt → Option DSt) : TG := fun v σ H Q => ∃ n d t p G S ow, RelF K n p G S H t σ ow ∧ Den K p G d v ∧ ∃ t', g d t = some t' ∧ ∀ p' G' H' σ' ow', RelF K n p' G' S H' t' σ' ow' → Q σ' H'
abbrev DG (X : Cx) (W : Wf) (tg : Expr) (g : D → DSt → Option DSt) : Prop := PG X tg (gD X.K W g)
theorem PG.imp {X : Cx} {e : Expr} {t t' : TG} (h : PG X e t) (k : ∀ v σ H Q, t' v σ H Q → t v σ H Q) : PG X e t' := ⟨fun pins s σ H v u Q I r q => h.run pins s σ H v u Q I r (k _ _ _ _ q)⟩
theorem dg_name (i : Nat) {x : Str} (hN : X.N.Nodup) (hi : X.N[i]? = some x) (hx : Loc X.env.scope x) (hf : X.fn x = true ∨ X.env.scope.names.lookup x = some .local := by first | exact .inl rfl | exact .inr rfl | assumption) : DG X W (.Name x pos) (fun d t => setV t i d) := by
  refine PG.imp (pg_name hN hi hx hf) fun v σ H Q ⟨n, d, t, p, G, S, ow, r, dn, t', e, h⟩ => ?_
  have e : setV t i d = some t' := e
  unfold setV at e
  by_cases hi : i < t.length
  · rw [if_pos hi] at e
    cases e
    obtain ⟨ow', r'⟩ := r.set0 hi (s := some (.val d)) (v := some v) ⟨rfl, v, rfl, dn⟩
    exact h p G H _ ow' r'
  · rw [if_neg hi] at e
    cases e
/-- name = e -/
theorem ds_set (i : Nat) {x : Str} {pos' : Pos} (hN : X.N.Nodup) (hi : X.N[i]? = some x) (hx : Loc X.env.scope x) (he : DE X W.x e ma) (hs : swapsWith e (some (.Name x pos')) pos.line X.env = pure false := by rfl) (hf : X.fn x = true ∨ X.env.scope.names.lookup x = some .local := by first | exact .inl rfl | exact .inr rfl | assumption) :
    DS X W (.Assign [.Name x pos'] e pos) (fun t => do let d ← ma t; let t' ← liftO (setV t i d); pure (.nx t')) := by
  refine PS.imp (L2.ps_set hN hi hx he hs hf) fun E σ H ⟨n, t, p, G, S, ow, r, h⟩ => ?_
  refine ⟨t, p, G, S, ow, r.rs, okS.seq h r fun d S1 v p1 G1 H1 e1 dn r1 x1 h1 => ?_⟩
  unfold setV at h1
  by_cases hi : i < t.length
  · rw [if_pos hi] at h1
    obtain ⟨ow', r'⟩ := r1.set0 hi (s := some (.val d)) (v := some v) ⟨rfl, v, rfl, dn⟩
    exact h1 p1 G1 H1 _ ow' r'
  · rw [if_neg hi] at h1
    exact h1.elim
end
/-! ### functions -/
def startD (n : Nat) (ds : List D) : DSt := ds.map (fun d => some (.val d)) ++ List.replicate (n - ds.length) none
def endC : Ctl → M D
  | .nx _ => pure .non
  | .rt d => pure d
  | _ => stuck
def runB (n : Nat) (m : DSt → M Ctl) (ds : List D) : M D := do let c ← m (startD n ds); endC c
/-- the promise of a def by data: k parameters -/
def spD (K : PySem.W.Frag) (k : Nat) (f : List D → M D) : Sp := fun vs H Q E => ∃ ds p G S, ds.length = k ∧ DenL K p G ds vs ∧ Rel0 K p S G H ∧ okR (Den K) K p G H E (f ds S) Q
theorem spD.len {K : PySem.W.Frag} {k : Nat} {f : List D → M D} (vs : List V) (H : Hp) (Q : VK) (E : XK) (h : spD K k f vs H Q E) : vs.length = k := by
  obtain ⟨ds, p, G, S, e, dn, _⟩ := h
  rw [dn.length, e]
theorem slots_rep {K : PySem.W.Frag} {p : List (List Addr)} {G H : Hp} : ∀ k : Nat, SlotsR K p G H (List.replicate k none) (List.replicate k none) []
  | 0 => ⟨rfl, rfl⟩
  | k + 1 => ⟨none, List.replicate k none, [], [], rfl, rfl, rfl, slots_rep k⟩
theorem slots_start {K : PySem.W.Frag} {p : List (List Addr)} {G H : Hp} {k : Nat} : ∀ {ds : List D} {vs : List V}, DenL K p G ds vs → SlotsR K p G H (ds.map (fun d => some (.val d)) ++ List.replicate k none) (vs.map some ++ List.replicate k none) []
  | [], _, h => by
    cases (show _ = [] from h)
    exact slots_rep k
  | d :: ds, _, ⟨v, r, h1, h2, h3⟩ => by
    subst h1
    exact ⟨some v, _, [], [], rfl, rfl, ⟨rfl, v, rfl, h2⟩, slots_start h3⟩
section
variable {P : Program} {w : World} {K : PySem.W.Frag} {mg : Str → Option Value} {base : Heap} {x qual : Str} {params : Arguments} {body : List Stmt} {scope : Scope} {dvs : List V} {kws : List (Str × V)} {f : Addr} {fd : FuncData}
/-- the entry of a body -/
theorem tDS.enter {K : PySem.W.Frag} {N : List Str} {m : DSt → M Ctl} {ds : List D} {vs : List V} {p : List (List Addr)} {G H : Hp} {S : Sto} {Q : VK} {E : XK} (dn : DenL K p G ds vs) (r : Rel0 K p S G H) (h : okR (Den K) K p G H E (runB N.length m ds S) Q) :
    tDS K E m { nx := fun _ H' => Q .non H', rt := Q } (L2.start N vs) H := by
  refine ⟨⟨p, G, H, p, G⟩, startD N.length ds, p, G, S, [], ⟨⟨r, ?_, by simpa using r.nd, by simp⟩, Ext.refl _ _ _, by simp, ⟨[], by simp⟩, Same.refl _⟩, ?_⟩
  · unfold L2.start startD
    rw [← dn.length]
    exact slots_start dn
  · have h' : okR (Den K) K p G H E (((m (startD N.length ds)) S).andThen endC) Q := h
    cases e : m (startD N.length ds) S with
    | ok c S' =>
      rw [e] at h'
      cases c with
      | nx t => exact fun p' G' H' σ' ow' r' => h' .non p' G' H' rfl r'.rs.rel r'.ext
      | rt d => exact fun v p' G' H' a b c => h' v p' G' H' a b c
      | bk t => exact h'.elim
      | ct t => exact h'.elim
      | rl xs => exact h'.elim
    | exc z S' =>
      rw [e] at h'
      exact h'
    | stuck =>
      rw [e] at h'
      exact h'
end
end RM

/-! RM: calls of own defs, what is walked, loops, comprehensions. -/
namespace RM
open PySem PySem.Spec PyProof.Rows L2

abbrev W0 : WX := fun _ _ _ _ => False
abbrev F0 : Wf := fun _ _ _ => False
def noE {α : Type} (m : M α) : M α := fun s => match m s with
  | .exc _ _ => .stuck
  | r => r
def argsD (n : Nat) (g : List D → M D) (xs : List D) : M D := if xs.length = n then g xs else stuck
section
variable {X : Cx} {W : WX} {a b c : Expr} {es : List Expr} {ma mb mc : DSt → M D} {ms : DSt → M (List D)} {pos p : Pos} {k : Nat} {f : Addr} {fd : FuncData} {ps : List Str} {g : List D → M D} {x : Str} {dvs : List V} {ds : List Value} {dds : List D}
theorem okR.args {K : PySem.W.Frag} {q : List (List Addr)} {G H : Hp} {S : Sto} {Q : VK} {xs : List D} {n : Nat} {W : Value → Option Addr → Hp → Prop} (h : okR (Den K) K q G H W (argsD n g xs S) Q) : xs.length = n ∧ okR (Den K) K q G H W (g xs S) Q := by
  unfold argsD at h
  by_cases e : xs.length = n
  · rw [if_pos e] at h
    exact ⟨e, h⟩
  · rw [if_neg e] at h
    exact h.elim
end

/-! ### what is walked -/
structure ItOk (K : PySem.W.Frag) (p : List (List Addr)) (G : Hp) (ds : List D) (J : It) : Prop where
  go : ∀ i H, Same G H → i < ds.length → J.go i H
  stop : ∀ H, Same G H → J.stop ds.length H
  yld : ∀ (i : Nat) (d : D) (H : Hp) (x : V) (H' : Hp), ds[i]? = some d → Same G H → J.yld i H x H' → (H' = H ∧ Den K p G d x) ∨ (∃ T vs es, x = .ref T ∧ H T = none ∧ H' = upd H T (.tup vs) ∧ d = .tup es ∧ DenL K p G es vs)
def tDI (K : PySem.W.Frag) (W : WX) (m : DSt → M (List D)) : TI := fun σ H R => ∃ t p G S ow, RelS K p G S H t σ ow ∧ okR (ItOk K) K p G H (fun c d H' => W c d σ H') (m t S) R
abbrev DI (X : Cx) (W : WX) (tg e : Expr) (m : DSt → M (List D)) : Prop := PI X tg e (tDI X.K W m)
theorem PI.imp {X : Cx} {tg e : Expr} {t t' : TI} (h : PI X tg e t) (k : ∀ σ H Q, t' σ H Q → t σ H Q) : PI X tg e t' := ⟨fun pins s σ H Q I q => h.run pins s σ H Q I (k _ _ _ q)⟩
theorem PI.or {X : Cx} {tg e : Expr} {t t' : TI} (h : PI X tg e t) (h' : PI X tg e t') : PI X tg e (fun σ H Q => t σ H Q ∨ t' σ H Q) := ⟨fun pins s σ H Q I q => by
  rcases q with q | q
  · exact h.run pins s σ H Q I q
  · exact h'.run pins s σ H Q I q⟩
def signs (x : Str) : List D := x.cps.toList.map fun c => .str ⟨#[c]⟩
def iterD : D → M (List D)
  | .lst xs => pure xs
  | .tup xs => pure xs
  | .str x => pure (signs x)
  | .scr ns => pure (ns.map .int)
  | _ => stuck
section
variable {K : PySem.W.Frag} {p : List (List Addr)} {G : Hp}
theorem itok_list {a : Addr} {ds : List D} {vs : List V} (h : SqL K G a vs) (dn : DenL K p G ds vs) : ItOk K p G ds (Itl K a) where
  go := fun i H s hi => by
    have hl := dn.length
    exact ⟨vs, vs[i], s.seq h, by simp [hl, hi]⟩
  stop := fun H s => ⟨vs, s.seq h, by rw [dn.length]; exact Nat.le_refl _⟩
  yld := fun i d H x H' e s y => by
    obtain ⟨rfl, y⟩ := y
    obtain ⟨v, e1, e2⟩ := dn.get e
    have := y vs (s.seq h)
    rw [e1] at this
    cases this
    exact .inl ⟨rfl, e2⟩
theorem itok_tup {a : Addr} {ds : List D} {vs : List V} (h : SqT K G a vs) (dn : DenL K p G ds vs) : ItOk K p G ds (Itt K a) where
  go := fun i H s hi => by
    have hl := dn.length
    exact ⟨vs, vs[i], SqT.mono s h, by simp [hl, hi]⟩
  stop := fun H s => ⟨vs, SqT.mono s h, by rw [dn.length]; exact Nat.le_refl _⟩
  yld := fun i d H x H' e s y => by
    obtain ⟨rfl, y⟩ := y
    obtain ⟨v, e1, e2⟩ := dn.get e
    have := y vs (SqT.mono s h)
    rw [e1] at this
    cases this
    exact .inl ⟨rfl, e2⟩
theorem itok_str {x : Str} : ItOk K p G (signs x) (Its x) where
  go := fun i H s hi => by
    unfold signs at hi
    rw [List.length_map] at hi
    exact hi
  stop := fun H s => by
    show x.cps.size ≤ (signs x).length
    unfold signs
    rw [List.length_map]
    exact Nat.le_refl _
  yld := fun i d H v H' e s y => by
    obtain ⟨rfl, c, y1, y2⟩ := y
    refine .inl ⟨rfl, ?_⟩
    unfold signs at e
    rw [List.getElem?_map] at e
    have : x.cps.toList[i]? = some c := by rw [Array.getElem?_toList]; exact y1
    rw [this] at e
    cases e
    exact y2
theorem denL_ints : ∀ ns : List Int, DenL K p G (ns.map .int) (ns.map .int)
  | [] => rfl
  | n :: ns => ⟨_, _, rfl, rfl, denL_ints ns⟩
end
section
variable {X : Cx} {W : WX} {tg a b : Expr} {ma mb : DSt → M D} {ms : DSt → M (List D)} {pos pp : Pos}
/-- a list, a tuple, a text, the script -/
theorem di_any (ha : DE X W a ma) : DI X W tg a (fun t => do let x ← ma t; iterD x) := by
  refine PI.imp (PI.or (pi_list ha) (PI.or (pi_tup ha) (pi_str ha))) fun σ H R ⟨t, p, G, S, ow, r, h⟩ => ?_
  have h' : okR (ItOk X.K) X.K p G H (fun c d H' => W c d σ H') ((ma t S).andThen iterD) R := h
  cases e : ma t S with
  | stuck => rw [e] at h'; exact h'.elim
  | exc z S1 =>
    rw [e] at h'
    exact .inl ⟨t, p, G, S, ow, r, by rw [e]; exact h'⟩
  | ok d S1 =>
    rw [e] at h'
    cases d with
    | lst xs =>
      refine .inl ⟨t, p, G, S, ow, r, ?_⟩
      rw [e]
      intro v p1 G1 H1 dn r1 x1
      obtain ⟨l, vs, rfl, hl, hv⟩ := dn
      exact ⟨l, rfl, ⟨vs, SqL.of (r1.sub _ _ hl)⟩, h' _ p1 G1 H1 (itok_list (SqL.of hl) hv) r1 x1⟩
    | scr ns =>
      refine .inl ⟨t, p, G, S, ow, r, ?_⟩
      rw [e]
      intro v p1 G1 H1 dn r1 x1
      obtain ⟨l, rfl, hl⟩ := dn
      exact ⟨l, rfl, ⟨_, r1.sub.seq hl⟩, h' _ p1 G1 H1 (itok_list hl (denL_ints ns)) r1 x1⟩
    | tup xs =>
      refine .inr (.inl ⟨t, p, G, S, ow, r, ?_⟩)
      rw [e]
      intro v p1 G1 H1 dn r1 x1
      obtain ⟨l, vs, rfl, hl, hv⟩ := dn
      exact ⟨l, rfl, ⟨vs, SqT.mono r1.sub hl⟩, h' _ p1 G1 H1 (itok_tup hl hv) r1 x1⟩
    | str x =>
      refine .inr (.inr ⟨t, p, G, S, ow, r, ?_⟩)
      rw [e]
      intro v p1 G1 H1 dn r1 x1
      exact ⟨x, dn, h' _ p1 G1 H1 itok_str r1 x1⟩
    | _ => exact h'.elim
/-- range(n), range(a, b) -/
def rangeL (lo hi : Int) : List D := (List.range (hi - lo).toNat).map fun i => .int (lo + (i : Nat))
def rangeD : List D → M (List D)
  | [.int j] => if -(2 ^ 62) ≤ j ∧ j < 2 ^ 62 then pure (rangeL 0 j) else stuck
  | [.int i, .int j] => if -(2 ^ 62) ≤ i ∧ i < 2 ^ 62 ∧ -(2 ^ 62) ≤ j ∧ j < 2 ^ 62 then pure (rangeL i j) else stuck
  | _ => stuck
theorem itok_range {K : PySem.W.Frag} {p : List (List Addr)} {G : Hp} (lo hi : Int) : ItOk K p G (rangeL lo hi) (Itr lo (hi - lo).toNat) where
  go := fun i H s h => by
    unfold rangeL at h
    rw [List.length_map, List.length_range] at h
    exact h
  stop := fun H s => by
    unfold rangeL
    rw [List.length_map, List.length_range]
    exact Nat.le_refl _
  yld := fun i d H v H' e s y => by
    obtain ⟨rfl, y⟩ := y
    refine .inl ⟨rfl, ?_⟩
    unfold rangeL at e
    rw [List.getElem?_map] at e
    obtain ⟨j, e1, e2⟩ := Option.map_eq_some_iff.mp e
    obtain ⟨hl, hj⟩ := List.getElem?_eq_some_iff.mp e1
    rw [List.getElem_range] at hj
    subst e2
    subst y
    rw [← hj]
    rfl
theorem denL1 {K : PySem.W.Frag} {p : List (List Addr)} {G : Hp} {d : D} {vs : List V} (h : DenL K p G [d] vs) : ∃ v, vs = [v] ∧ Den K p G d v := by
  obtain ⟨v, r, h1, h2, h3⟩ := h
  cases (show r = [] from h3)
  exact ⟨v, h1, h2⟩
theorem denL2 {K : PySem.W.Frag} {p : List (List Addr)} {G : Hp} {d e : D} {vs : List V} (h : DenL K p G [d, e] vs) : ∃ v u, vs = [v, u] ∧ Den K p G d v ∧ Den K p G e u := by
  obtain ⟨v, r, h1, h2, h3⟩ := h
  obtain ⟨u, rfl, h4⟩ := denL1 h3
  exact ⟨v, u, h1, h2, h4⟩
theorem rangeD_ok {K : PySem.W.Frag} {p : List (List Addr)} {G H : Hp} {S : Sto} {W : Value → Option Addr → Hp → Prop} {R : It → Hp → Prop} {ds : List D} {vs : List V} (dn : DenL K p G ds vs) (r : Rel0 K p S G H) (h : okR (ItOk K) K p G H W (rangeD ds S) R) :
    (∃ j : Int, vs = [.int j] ∧ -(2 ^ 62) ≤ j ∧ j < 2 ^ 62 ∧ R (Itr 0 j.toNat) H) ∨ (∃ i j : Int, vs = [.int i, .int j] ∧ (-(2 ^ 62) ≤ i ∧ i < 2 ^ 62 ∧ -(2 ^ 62) ≤ j ∧ j < 2 ^ 62) ∧ R (Itr i (j - i).toNat) H) := by
  unfold rangeD at h
  split at h
  · rename_i j
    obtain ⟨v, rfl, e⟩ := denL1 dn
    cases (show v = _ from e)
    by_cases hz : -(2 ^ 62) ≤ j ∧ j < 2 ^ 62
    · rw [if_pos hz] at h
      have q := okR.fin (v := Itr 0 (j - 0).toNat) h (itok_range 0 j) r
      rw [Int.sub_zero] at q
      exact .inl ⟨j, rfl, hz.1, hz.2, q⟩
    · rw [if_neg hz] at h
      exact h.elim
  · rename_i i j
    obtain ⟨v, u, rfl, e1, e2⟩ := denL2 dn
    cases (show v = _ from e1)
    cases (show u = _ from e2)
    by_cases hz : -(2 ^ 62) ≤ i ∧ i < 2 ^ 62 ∧ -(2 ^ 62) ≤ j ∧ j < 2 ^ 62
    · rw [if_pos hz] at h
      exact .inr ⟨i, j, rfl, hz, okR.fin (v := Itr i (j - i).toNat) h (itok_range i j) r⟩
    · rw [if_neg hz] at h
      exact h.elim
  · exact h.elim
theorem di_range1 (hg : Gl X "range") (hm : X.mg "range" = none) (ha : DE X W a ma) (hs : starEach [a] X.env = [(false, eval a X.env)] := by rfl) : DI X W tg (.Call (.Name "range" pp) [a] [] pos) (fun t => do let x ← ma t; rangeD [x]) := by
  refine PI.imp (pi_range1 hg hm (pa_cons ha pa_nil hs) hs) fun σ H R ⟨t, p, G, S, ow, r, h⟩ => ?_
  refine ⟨t, p, G, S, ow, r, okR.seq h fun d S1 v p1 G1 H1 e1 dn r1 x1 h1 => ?_⟩
  rcases rangeD_ok (DenL.one dn) r1 h1 with q | ⟨i, j, e, _⟩
  · exact q
  · cases e
theorem di_range2 (hg : Gl X "range") (hm : X.mg "range" = none) (ha : DE X W a ma) (hb : DE X W b mb) (hs : starEach [a, b] X.env = [(false, eval a X.env), (false, eval b X.env)] := by rfl) (hs2 : starEach [b] X.env = [(false, eval b X.env)] := by rfl) :
    DI X W tg (.Call (.Name "range" pp) [a, b] [] pos) (fun t => do let x ← ma t; let y ← mb t; rangeD [x, y]) := by
  refine PI.imp (pi_range2 hg hm (pa_cons ha (pa_cons hb pa_nil hs2) (by rw [hs, hs2])) hs hs2) fun σ H R ⟨t, p, G, S, ow, r, h⟩ => ?_
  refine ⟨t, p, G, S, ow, r, okR.seq h fun d S1 v p1 G1 H1 e1 dn r1 x1 h1 => ?_⟩
  refine tD.next r x1 r1 (okR.seq h1 fun d2 S2 v2 p2 G2 H2 e2 dn2 r2 x2 h2 => ?_)
  rcases rangeD_ok (DenL.cons (dn.mono x2.pp x2.g) (DenL.one dn2)) r2 h2 with ⟨j, e, _⟩ | q
  · cases e
  · exact q
end

/-! ### for -/
def forD (step : D → DSt → M Ctl) : List D → DSt → M Ctl
  | [], t => pure (.nx t)
  | d :: ds, t => do
    let c ← step d t
    match c with
    | .nx t' => forD step ds t'
    | .ct t' => forD step ds t'
    | .bk t' => pure (.nx t')
    | .rt x => pure (.rt x)
    | .rl x => pure (.rl x)
def stepD (g : D → DSt → Option DSt) (b : DSt → M Ctl) (d : D) (t : DSt) : M Ctl := do let t' ← liftO (g d t); b t'
section
variable {X : Cx} {W : Wf} {tg it : Expr} {mi : DSt → M (List D)} {g : D → DSt → Option DSt} {mb : DSt → M Ctl} {body : List Stmt} {pos : Pos}
theorem RelF.frozen {K : PySem.W.Frag} {n : Snap} {p : List (List Addr)} {G H : Hp} {S : Sto} {t : DSt} {σ : L2.St} {ow : List Addr} (r : RelF K n p G S H t σ ow) : RelF K ⟨n.p, n.G, n.H, p, G⟩ p G S H t σ ow := ⟨r.rs, r.ext, r.own, ⟨[], by simp⟩, Same.refl _⟩
theorem RelF.thaw {K : PySem.W.Frag} {n : Snap} {p p' : List (List Addr)} {G H G' H' : Hp} {S S' : Sto} {t t' : DSt} {σ σ' : L2.St} {ow ow' : List Addr} (r : RelF K n p G S H t σ ow) (r' : RelF K ⟨n.p, n.G, n.H, p, G⟩ p' G' S' H' t' σ' ow') : RelF K n p' G' S' H' t' σ' ow' := by
  obtain ⟨q, e⟩ := r.fp
  obtain ⟨q', e'⟩ := r'.fp
  refine ⟨r'.rs, r'.ext, r'.own, ⟨q ++ q', ?_⟩, r.fg.trans r'.fg⟩
  have e2 : p' = p ++ q' := e'
  rw [e2, e, List.append_assoc]
/-- the new pair of a walk is frozen -/
theorem RelF.pair {K : PySem.W.Frag} {n : Snap} {p : List (List Addr)} {G H : Hp} {S : Sto} {t : DSt} {σ : L2.St} {ow : List Addr} (r : RelF K n p G S H t σ ow) {T : Addr} (vs : List V) (hT : H T = none) : RelF K n p (upd G T (.tup vs)) S (upd H T (.tup vs)) t σ ow :=
  r.step (r.rs.rel.new _ hT).2 (r.rs.rel.new _ hT).1
theorem ds_for (hp : PassesOwn (model X.prog X.w) X.A X.env X.xe) (hc : X.calm = true) (hi : DI X W.x tg it mi) (hg : DG X W tg g) (hb : DSs X W body mb)
    (hs : ∀ x, foldedSetIterable it X.env x = pure x := by intro _; rfl) : DS X W (.For tg it body [] pos) (fun t => do let ds ← mi t; forD (stepD g mb) ds t) := by
  refine PS.imp (ps_for hp hc hi hg hb hs) fun E σ H ⟨n, t, p, G, S, ow, r, h⟩ => ?_
  refine ⟨t, p, G, S, ow, r.rs, okS.seq h r fun ds S1 J p1 G1 H1 e1 dn r1 x1 h1 => ?_⟩
  refine ⟨fun i m σ' H' => i + m = ds.length ∧ ∃ t' p' G' S' ow', RelF X.K ⟨n.p, n.G, n.H, p1, G1⟩ p' G' S' H' t' σ' ow' ∧ okS X.K W n (forD (stepD g mb) (ds.drop i) t' S') E, ⟨ds.length, by simp, t, p1, G1, S1, ow, r1.frozen, by simpa using h1⟩, ?_⟩
  rintro i m σ' H' ⟨hi, t', p', G', S', ow', r', h'⟩
  have sm : Same G1 H' := r'.fg.trans r'.rs.rel.sub
  by_cases hlt : i < ds.length
  · refine .inr ⟨dn.go i H' sm hlt, fun σ2 H2 => ∃ t2 p2 G2 S2 ow2, RelF X.K ⟨n.p, n.G, n.H, p1, G1⟩ p2 G2 S2 H2 t2 σ2 ow2 ∧ okS X.K W n (forD (stepD g mb) (ds.drop (i + 1)) t2 S2) E, fun σ2 H2 q => ⟨m - 1, by omega, by omega, q⟩, fun x H2 y => ?_⟩
    have ed : ds[i]? = some ds[i] := by simp [hlt]
    rw [List.drop_eq_getElem_cons hlt] at h'
    have fin : ∀ G2 H3, RelF X.K ⟨n.p, n.G, n.H, p1, G1⟩ p' G2 S' H3 t' σ' ow' → Den X.K p' G2 ds[i] x → gD X.K W g x σ' H3 fun σ2 H2 => tDS X.K W mb { E with nx := fun σ2 H2 => ∃ t2 p2 G2 S2 ow2, RelF X.K ⟨n.p, n.G, n.H, p1, G1⟩ p2 G2 S2 H2 t2 σ2 ow2 ∧ okS X.K W n (forD (stepD g mb) (ds.drop (i + 1)) t2 S2) E, ct := fun σ2 H2 => ∃ t2 p2 G2 S2 ow2, RelF X.K ⟨n.p, n.G, n.H, p1, G1⟩ p2 G2 S2 H2 t2 σ2 ow2 ∧ okS X.K W n (forD (stepD g mb) (ds.drop (i + 1)) t2 S2) E, bk := E.nx } σ2 H2 := by
      intro G2 H3 r2 dx
      have h2 : okS X.K W n (((liftO (g ds[i] t') >>= mb) S').andThen _) E := h'
      cases eg : g ds[i] t' with
      | none =>
        rw [eg] at h2
        exact h2.elim
      | some t2 =>
        rw [eg] at h2
        have h3 : okS X.K W n ((mb t2 S').andThen _) E := h2
        refine ⟨_, _, t', p', G2, S', ow', r2, dx, t2, eg, fun p3 G3 H4 σ3 ow3 r3 => ⟨_, t2, p3, G3, S', ow3, r3, ?_⟩⟩
        cases em : mb t2 S' with
        | stuck =>
          rw [em] at h3
          exact h3
        | exc z S3 =>
          rw [em] at h3
          exact h3
        | ok c S3 =>
          rw [em] at h3
          cases c with
          | nx t3 => exact fun p4 G4 H5 σ4 ow4 r4 => ⟨t3, p4, G4, S3, ow4, r4, h3⟩
          | ct t3 => exact fun p4 G4 H5 σ4 ow4 r4 => ⟨t3, p4, G4, S3, ow4, r4, h3⟩
          | bk t3 => exact fun p4 G4 H5 σ4 ow4 r4 => h3 p4 G4 H5 σ4 ow4 (r1.thaw r4)
          | rt d => exact h3
          | rl d => exact h3
    rcases dn.yld i _ H' x H2 ed sm y with ⟨rfl, dx⟩ | ⟨T, vs, es, rfl, hT, rfl, ees, dl⟩
    · exact fin G' _ r' (dx.mono r'.fp r'.fg)
    · refine fin _ _ (r'.pair vs hT) ?_
      rw [ees]
      have hg := r'.rs.rel.gfree hT
      exact ⟨T, vs, rfl, SqT.of upd_same, (dl.mono r'.fp r'.fg).upd hg⟩
  · have e : i = ds.length := by omega
    subst e
    refine .inl ⟨dn.stop H' sm, ?_⟩
    rw [List.drop_length] at h'
    exact h' p' G' H' σ' ow' (r1.thaw r')
end
end RM

/-! RM: targets, comprehensions. -/
namespace RM
open PySem PySem.Spec PyProof.Rows L2

/-! ### targets: a name, a tuple of names -/
inductive Tgt where
  | nm (i : Nat) | tp (is : List Nat)
def Tgt.slots : Tgt → List Nat
  | .nm i => [i]
  | .tp is => is
def gNs : List Nat → TGs
  | [] => gNil
  | i :: is => gCons (gName i) (gNs is)
def Tgt.tg (K : PySem.W.Frag) : Tgt → TG
  | .nm i => gName i
  | .tp is => gTup K is.length (gNs is)
def setVs : DSt → List Nat → List D → Option DSt
  | t, [], [] => some t
  | t, i :: is, d :: ds => (setV t i d).bind fun t' => setVs t' is ds
  | _, _, _ => none
def Tgt.set : Tgt → D → DSt → Option DSt
  | .nm i, d, t => setV t i d
  | .tp is, .tup es, t => setVs t is es
  | .tp _, _, _ => none
theorem wipe_comm {σ : L2.St} {i : Nat} {x : Option V} : ∀ {vs : List Nat}, i ∉ vs → wipe (σ.set i x) vs = (wipe σ vs).set i x
  | [], _ => rfl
  | v :: vs, h => by
    simp only [List.mem_cons, not_or] at h
    unfold wipe
    rw [wipe_comm h.2, List.set_comm _ _ (by exact h.1)]
theorem wipe_set {σ : L2.St} {i : Nat} {x : Option V} : ∀ {vs : List Nat}, i ∈ vs → wipe (σ.set i x) vs = wipe σ vs
  | [], h => by cases h
  | v :: vs, h => by
    unfold wipe
    by_cases hv : i ∈ vs
    · rw [wipe_set hv]
    · have e : i = v := by
        rcases List.mem_cons.mp h with z | z
        · exact z
        · exact absurd z hv
      subst e
      rw [wipe_comm hv, List.set_set]
theorem wipe_idem {σ : L2.St} : ∀ {vs : List Nat}, wipe (wipe σ vs) vs = wipe σ vs := by
  have key : ∀ (ws vs : List Nat) (σ : L2.St), (∀ i ∈ ws, i ∈ vs) → wipe (wipe σ ws) vs = wipe σ vs := by
    intro ws
    induction ws with
    | nil => intro vs σ _; rfl
    | cons w ws ih =>
      intro vs σ h
      show wipe ((wipe σ ws).set w none) vs = _
      rw [wipe_set (h w (by simp)), ih vs σ fun i hi => h i (by simp [hi])]
  intro vs
  exact key vs vs σ fun _ h => h
def wipeD (t : DSt) : List Nat → DSt
  | [] => t
  | v :: vs => (wipeD t vs).set v none
section
variable {K : PySem.W.Frag} {p : List (List Addr)} {G H : Hp} {S : Sto}
theorem RelS.wipe {t : DSt} {σ : L2.St} {ow : List Addr} (r : RelS K p G S H t σ ow) : ∀ vs : List Nat, ∃ ow', (∀ a ∈ ow', a ∈ ow) ∧ RelS K p G S H (wipeD t vs) (L2.wipe σ vs) ow'
  | [] => ⟨ow, fun _ h => h, r⟩
  | v :: vs => by
    obtain ⟨ow1, k1, r1⟩ := RelS.wipe r vs
    show ∃ ow', _ ∧ RelS K p G S H ((wipeD t vs).set v none) ((L2.wipe σ vs).set v none) ow'
    by_cases hv : v < (wipeD t vs).length
    · obtain ⟨ow2, k2, r2⟩ := r1.set0 hv (s := none) (v := none) rfl
      exact ⟨ow2, fun a ha => k1 a (k2 a ha), r2⟩
    · have e1 : (wipeD t vs).set v none = wipeD t vs := List.set_eq_of_length_le (by omega)
      have e2 : (L2.wipe σ vs).set v none = L2.wipe σ vs := List.set_eq_of_length_le (by rw [r1.sl.len]; omega)
      rw [e1, e2]
      exact ⟨ow1, k1, r1⟩
theorem setV_ok {t t' : DSt} {σ : L2.St} {ow : List Addr} {i : Nat} {d : D} {v : V} (r : RelS K p G S H t σ ow) (dn : Den K p G d v) (e : setV t i d = some t') : ∃ ow', (∀ a ∈ ow', a ∈ ow) ∧ RelS K p G S H t' (σ.set i (some v)) ow' := by
  unfold setV at e
  by_cases hi : i < t.length
  · rw [if_pos hi] at e
    cases e
    exact r.set0 hi (s := some (.val d)) (v := some v) ⟨rfl, v, rfl, dn⟩
  · rw [if_neg hi] at e
    cases e
/-- a tuple of names is set -/
theorem gNs_ok {Q : L2.St → Hp → Prop} : ∀ {is : List Nat} {ds : List D} {vs : List V} {t t' : DSt} {σ : L2.St} {ow : List Addr}, RelS K p G S H t σ ow → DenL K p G ds vs → setVs t is ds = some t' →
    (∀ σ' ow', (∀ a ∈ ow', a ∈ ow) → RelS K p G S H t' σ' ow' → (∀ ws, (∀ i ∈ is, i ∈ ws) → L2.wipe σ' ws = L2.wipe σ ws) → Q σ' H) → gNs is vs σ H Q
  | [], [], vs, t, t', σ, ow, r, dn, e, k => by
    cases (show vs = [] from dn)
    cases e
    exact ⟨rfl, k σ ow (fun _ h => h) r fun _ _ => rfl⟩
  | [], _ :: _, _, _, _, _, _, _, _, e, _ => by cases e
  | _ :: _, [], _, _, _, _, _, _, _, e, _ => by cases e
  | i :: is, d :: ds, vs, t, t', σ, ow, r, dn, e, k => by
    obtain ⟨v, vr, rfl, h2, h3⟩ := dn
    obtain ⟨t1, e1, e2⟩ := Option.bind_eq_some_iff.mp (show (setV t i d).bind (fun t' => setVs t' is ds) = some t' from e)
    obtain ⟨ow1, k1, r1⟩ := setV_ok r h2 e1
    refine ⟨v, vr, rfl, ?_⟩
    show gNs is vr (σ.set i (some v)) H Q
    refine gNs_ok r1 h3 e2 fun σ' ow' k2 r2 hw => k σ' ow' (fun a ha => k1 a (k2 a ha)) r2 fun ws hs => ?_
    rw [hw ws fun j hj => hs j (by simp [hj]), wipe_set (hs i (by simp))]
theorem setVs_len : ∀ {is : List Nat} {ds : List D} {t t' : DSt}, setVs t is ds = some t' → ds.length = is.length
  | [], [], _, _, _ => rfl
  | [], _ :: _, _, _, e => by cases e
  | _ :: _, [], _, _, e => by cases e
  | i :: is, d :: ds, t, t', e => by
    obtain ⟨t1, e1, e2⟩ := Option.bind_eq_some_iff.mp (show (setV t i d).bind (fun t' => setVs t' is ds) = some t' from e)
    rw [List.length_cons, List.length_cons, setVs_len e2]
theorem Tgt.ok {Q : L2.St → Hp → Prop} {T : Tgt} {d : D} {v : V} {t t' : DSt} {σ : L2.St} {ow : List Addr} (r : RelS K p G S H t σ ow) (dn : Den K p G d v) (e : T.set d t = some t')
    (k : ∀ σ' ow', (∀ a ∈ ow', a ∈ ow) → RelS K p G S H t' σ' ow' → (∀ ws, (∀ i ∈ T.slots, i ∈ ws) → L2.wipe σ' ws = L2.wipe σ ws) → Q σ' H) : T.tg K v σ H Q := by
  cases T with
  | nm i =>
    obtain ⟨ow', k1, r1⟩ := setV_ok r dn e
    exact k _ ow' k1 r1 fun ws hs => wipe_set (hs i (by simp [Tgt.slots]))
  | tp is =>
    cases d with
    | tup es =>
      obtain ⟨a, vs, rfl, ha, hv⟩ := dn
      refine ⟨a, vs, rfl, SqT.mono r.rel.sub ha, by rw [hv.length]; exact setVs_len e, ?_⟩
      exact gNs_ok r hv e k
    | _ => cases e
end
section
variable {X : Cx} {W : Wf} {tg : Expr} {pos : Pos}
theorem dg_tgt {T : Tgt} (h : PG X tg (T.tg X.K)) : DG X W tg T.set := by
  refine PG.imp h fun v σ H Q ⟨n, d, t, p, G, S, ow, r, dn, t', e, h⟩ => ?_
  exact Tgt.ok r.rs dn e fun σ' ow' k r' _ => h p G H σ' ow' ⟨r', r.ext, fun a ha => r.own a (k a ha), r.fp, r.fg⟩
theorem okR.noE {α β : Type} {R : List (List Addr) → Hp → α → β → Prop} {K : PySem.W.Frag} {p : List (List Addr)} {G H : Hp} {W W' : Value → Option Addr → Hp → Prop} {m : M α} {S : Sto} {Q : β → Hp → Prop} (h : okR R K p G H W (RM.noE m S) Q) : okR R K p G H W' (m S) Q := by
  unfold RM.noE at h
  cases e : m S with
  | ok d S1 =>
    rw [e] at h
    exact h
  | exc z S1 =>
    rw [e] at h
    exact h.elim
  | stuck =>
    rw [e] at h
    exact h
/-! ### new lists, not frozen yet -/
def okF (K : PySem.W.Frag) (p : List (List Addr)) (G H : Hp) (W : Value → Option Addr → Hp → Prop) (r : Res (List D)) (Q : VK) : Prop := match r with
  | .ok xs S' => ∀ a vs p' G' H', H a = none → H' a = some (.lst vs) → DenL K p' G' xs vs → G' a = none → a ∉ p'.flatten → Rel0 K p' S' G' H' → Ext p G H p' G' H' → Q (.ref a) H'
  | .exc e S' => ∀ cls dd p' G' H', ExcAt K p' G' e cls dd → Rel0 K p' S' G' H' → Ext p G H p' G' H' → W cls dd H'
  | .stuck => False
theorem okF.ext {K : PySem.W.Frag} {p p1 : List (List Addr)} {G H G1 H1 : Hp} {W : Value → Option Addr → Hp → Prop} {r : Res (List D)} {Q : VK} (h : okF K p G H W r Q) (e : Ext p G H p1 G1 H1) : okF K p1 G1 H1 W r Q := by
  cases r with
  | ok d S' =>
    refine fun a vs p' G' H' h0 a1 a2 a3 a4 b c => h a vs p' G' H' ?_ a1 a2 a3 a4 b (e.trans c)
    cases q : H a with
    | none => rfl
    | some o => exact absurd h0 (e.d a (by rw [q]; simp))
  | exc x S' => exact fun cls dd p' G' H' a b c => h cls dd p' G' H' a b (e.trans c)
  | stuck => exact h
theorem okF.seq {α β : Type} {R1 : List (List Addr) → Hp → α → β → Prop} {K : PySem.W.Frag} {p : List (List Addr)} {G H : Hp} {W : Value → Option Addr → Hp → Prop} {Q : VK} {S : Sto} {m : M α} {f : α → M (List D)} {Q1 : β → Hp → Prop} (h : okF K p G H W ((m >>= f) S) Q)
    (k : ∀ d S1 v p1 G1 H1, m S = .ok d S1 → R1 p1 G1 d v → Rel0 K p1 S1 G1 H1 → Ext p G H p1 G1 H1 → okF K p1 G1 H1 W (f d S1) Q → Q1 v H1) : okR R1 K p G H W (m S) Q1 := by
  have h' : okF K p G H W ((m S).andThen f) Q := h
  cases e : m S with
  | ok d S1 =>
    rw [e] at h'
    exact fun v p1 G1 H1 a b c => k d S1 v p1 G1 H1 e a b c (okF.ext h' c)
  | exc x S1 =>
    rw [e] at h'
    exact h'
  | stuck =>
    rw [e] at h'
    exact h'
/-- it is frozen at once -/
theorem okR.toF {K : PySem.W.Frag} {p : List (List Addr)} {G H : Hp} {W : Value → Option Addr → Hp → Prop} {Q : VK} {S : Sto} {m : M (List D)} (h : okR (Den K) K p G H W ((do let xs ← m; pure (D.lst xs) : M D) S) Q) : okF K p G H W (m S) Q := by
  have h' : okR (Den K) K p G H W ((m S).andThen fun xs => pure (D.lst xs)) Q := h
  cases e : m S with
  | ok xs S1 =>
    rw [e] at h'
    intro a vs p' G' H' h0 h1 h2 h3 h4 r x
    refine h' (.ref a) p' (upd G' a (.lst vs)) H' ⟨a, vs, rfl, upd_same, h2.upd h3⟩ ⟨fun b o e => ?_, r.len, fun i as o e1 e2 => (r.mo i as o e1 e2).ice (Same.upd_of h3), r.nd, fun b hb => ?_⟩ ⟨x.g.trans (Same.upd_of h3), fun b hb1 hb2 => ?_, x.h, x.d, x.p⟩
    · by_cases q : b = a
      · subst q; rw [upd_same] at e; cases e; exact h1
      · rw [upd_ne q] at e; exact r.sub b o e
    · have : b ≠ a := by rintro rfl; exact h4 hb
      rw [upd_ne this]; exact r.gn b hb
    · have : b ≠ a := by rintro rfl; exact hb2 h0
      rw [upd_ne this]; exact x.gn b hb1 hb2
  | exc z S1 =>
    rw [e] at h'
    exact h'
  | stuck =>
    rw [e] at h'
    exact h'
def tDF (K : PySem.W.Frag) (W : WX) (m : DSt → M (List D)) : TE := fun σ H Q => ∃ t p G S ow, RelS K p G S H t σ ow ∧ okF K p G H (fun c d H' => W c d σ H') (m t S) Q
abbrev DF (X : Cx) (W : WX) (e : Expr) (m : DSt → M (List D)) : Prop := PE X e (tDF X.K W m)
theorem DF.de {V : WX} {e : Expr} {m : DSt → M (List D)} (h : DF X V e m) : DE X V e (fun t => do let xs ← m t; pure (.lst xs)) :=
  PE.imp h fun σ H Q ⟨t, p, G, S, ow, r, q⟩ => ⟨t, p, G, S, ow, r, okR.toF q⟩
/-! ### a list comprehension -/
def lcD (ws : List Nat) (T : Tgt) (mt : DSt → M Bool) (me : DSt → M D) : List D → List D → DSt → M (List D)
  | [], acc, _ => pure acc
  | d :: ds, acc, t => do
    let t' ← liftO (T.set d (wipeD t ws))
    if ← mt t' then do
      let y ← me t'
      if acc.length < sizeLine then lcD ws T mt me ds (acc ++ [y]) t else stuck
    else lcD ws T mt me ds acc t
theorem okF.noE {K : PySem.W.Frag} {p : List (List Addr)} {G H : Hp} {W W' : Value → Option Addr → Hp → Prop} {m : M (List D)} {S : Sto} {Q : VK} (h : okF K p G H W (RM.noE m S) Q) : okF K p G H W' (m S) Q := by
  unfold RM.noE at h
  cases e : m S with
  | ok d S1 =>
    rw [e] at h
    exact h
  | exc z S1 =>
    rw [e] at h
    exact h.elim
  | stuck =>
    rw [e] at h
    exact h
theorem lc_read {K : PySem.W.Frag} {V : WX} {ws : List Nat} {T : Tgt} {mi : DSt → M (List D)} {mt : DSt → M Bool} {me : DSt → M D} {σ : L2.St} {H : Hp} {Q : VK} (hT : ∀ i ∈ T.slots, i ∈ ws)
    (h : tDF K V (fun t => do let ds ← mi t; noE (lcD ws T mt me ds [] t)) σ H Q) : tLc (tDI K V mi) (T.tg K) (tDT K W0 mt) (tD K W0 me) ws σ H Q := by
  obtain ⟨t, p, G, S, ow, r, h⟩ := h
  refine ⟨t, p, G, S, ow, r, okF.seq h fun ds S1 J p1 G1 H1 e1 dn r1 x1 h1 => ?_⟩
  have h1 : okF K p1 G1 H1 (fun _ _ _ => False) (lcD ws T mt me ds [] t S1) Q := h1.noE
  intro A hA
  have rs1 := r.ext x1 r1
  have gA : G1 A = none := r1.gfree hA
  have pA : A ∉ p1.flatten := fun z => r1.dom z hA
  refine ⟨fun i m H' => i + m = ds.length ∧ ∃ p' G' S' acc vacc, Rel0 K p' S' G' H' ∧ Ext p1 G1 H1 p' G' H' ∧ G' A = none ∧ A ∉ p'.flatten ∧ H' A = some (.lst vacc) ∧ DenL K p' G' acc vacc ∧
    okF K p1 G1 H1 (fun _ _ _ => False) (lcD ws T mt me (ds.drop i) acc t S') Q, ⟨ds.length, by simp, p1, G1, S1, [], [], r1.own _ pA gA, ⟨Same.refl _, fun _ h _ => h, fun b o e _ => by rw [upd_ne (ne_of_none e hA)]; exact e, fun b e => ?_, [], by simp, by simp⟩, gA, pA, upd_same, rfl, by simpa using h1⟩, ?_⟩
  · by_cases q : b = A
    · subst q; rw [upd_same]; simp
    · rw [upd_ne q]; exact e
  rintro i m H' ⟨hi', p', G', S', acc, vacc, r', x', gA', pA', hA', da, h'⟩
  have sm : Same G1 H' := x'.g.trans r'.sub
  by_cases hlt : i < ds.length
  · refine .inr ⟨dn.go i H' sm hlt, fun H2 => ∃ p' G' S' acc vacc, Rel0 K p' S' G' H2 ∧ Ext p1 G1 H1 p' G' H2 ∧ G' A = none ∧ A ∉ p'.flatten ∧ H2 A = some (.lst vacc) ∧ DenL K p' G' acc vacc ∧
      okF K p1 G1 H1 (fun _ _ _ => False) (lcD ws T mt me (ds.drop (i + 1)) acc t S') Q, fun H2 q => ⟨m - 1, by omega, by omega, q⟩, fun x H2 y => ?_⟩
    have ed : ds[i]? = some ds[i] := by simp [hlt]
    rw [List.drop_eq_getElem_cons hlt] at h'
    have fin : ∀ G2 H3, Rel0 K p' S' G2 H3 → Ext p' G' H' p' G2 H3 → Den K p' G2 ds[i] x → T.tg K x (wipe σ ws) H3 fun σ2 H2 => wipe σ2 ws = wipe σ ws ∧ tDT K W0 mt σ2 H2 fun b H3 => if b = true then tD K W0 me σ2 H3 fun y H4 => ∃ acc, H4 A = some (.lst acc) ∧ acc.length < sizeLine ∧
          (∃ p' G' S' acc' vacc, Rel0 K p' S' G' (upd H4 A (.lst (acc ++ [y]))) ∧ Ext p1 G1 H1 p' G' (upd H4 A (.lst (acc ++ [y]))) ∧ G' A = none ∧ A ∉ p'.flatten ∧ (upd H4 A (.lst (acc ++ [y]))) A = some (.lst vacc) ∧ DenL K p' G' acc' vacc ∧ okF K p1 G1 H1 (fun _ _ _ => False) (lcD ws T mt me (ds.drop (i + 1)) acc' t S') Q)
        else (∃ p' G' S' acc vacc, Rel0 K p' S' G' H3 ∧ Ext p1 G1 H1 p' G' H3 ∧ G' A = none ∧ A ∉ p'.flatten ∧ H3 A = some (.lst vacc) ∧ DenL K p' G' acc vacc ∧ okF K p1 G1 H1 (fun _ _ _ => False) (lcD ws T mt me (ds.drop (i + 1)) acc t S') Q) := by
      intro G2 H3 r2 x2 dx
      have x12 := x'.trans x2
      obtain ⟨ow3, _, rw3⟩ := (rs1.ext x12 r2).wipe ws
      have h2 : okF K p1 G1 H1 (fun _ _ _ => False) ((liftO (T.set ds[i] (wipeD t ws)) >>= _) S') Q := h'
      cases eT : T.set ds[i] (wipeD t ws) with
      | none =>
        rw [eT] at h2
        exact h2.elim
      | some t2 =>
        rw [eT] at h2
        have h3 : okF K p1 G1 H1 (fun _ _ _ => False) ((mt t2 >>= _) S') Q := h2
        refine Tgt.ok rw3 dx eT fun σ2 ow2 _ rs2 hw => ⟨by rw [hw _ hT, wipe_idem], t2, p', G2, S', ow2, rs2, ?_⟩
        refine okF.seq (h3.ext x12) fun b S3 bv p3 G3 H4 e3 db r3 x3 h4 => ?_
        cases db
        have gA2 : G2 A = none := x2.gn A gA' (by rw [hA']; simp)
        have hA3 : H3 A = some (.lst vacc) := x2.h A _ hA' pA'
        have gA3 : G3 A = none := x3.gn A gA2 (by rw [hA3]; simp)
        have hA4 : H4 A = some (.lst vacc) := x3.h A _ hA3 pA'
        have pA3 : A ∉ p3.flatten := by
          obtain ⟨q, e, f⟩ := x3.p
          rw [e, List.flatten_append, List.mem_append]
          rintro (z | z)
          · exact pA' z
          · rw [f A z] at hA3; cases hA3
        have d3 := da.mono x2.pp x2.g |>.mono x3.pp x3.g
        have h5 : okF K p1 G1 H1 (fun _ _ _ => False) ((mt t2 S').andThen _) Q := h3
        rw [e3] at h5
        cases b with
        | false => exact iteF ⟨p3, G3, S3, acc, vacc, r3, x12.trans x3, gA3, pA3, hA4, d3, h5⟩
        | true =>
          have h6 : okF K p1 G1 H1 (fun _ _ _ => False) ((me t2 >>= _) S3) Q := h5
          refine iteT ⟨t2, p3, G3, S3, ow2, rs2.ext x3 r3, ?_⟩
          refine okF.seq (h6.ext (x12.trans x3)) fun y S4 yv p4 G4 H5 e4 dy r4 x4 h7 => ?_
          have h8 : okF K p1 G1 H1 (fun _ _ _ => False) ((me t2 S3).andThen _) Q := h6
          rw [e4] at h8
          have h9 : okF K p1 G1 H1 (fun _ _ _ => False) ((if acc.length < sizeLine then lcD ws T mt me (ds.drop (i + 1)) (acc ++ [y]) t else stuck) S4) Q := h8
          by_cases hz : acc.length < sizeLine
          · rw [if_pos hz] at h9
            have hA5 : H5 A = some (.lst vacc) := x4.h A _ hA4 pA3
            have gA4 : G4 A = none := x4.gn A gA3 (by rw [hA4]; simp)
            have pA4 : A ∉ p4.flatten := by
              obtain ⟨q, e, f⟩ := x4.p
              rw [e, List.flatten_append, List.mem_append]
              rintro (z | z)
              · exact pA3 z
              · rw [f A z] at hA4; cases hA4
            have x14 := (x12.trans x3).trans x4
            refine ⟨vacc, hA5, by rw [d3.length]; exact hz, p4, G4, S4, acc ++ [y], vacc ++ [yv], r4.own _ pA4 gA4, ⟨x14.g, x14.gn, fun b o e hb => ?_, fun b e => ?_, x14.p⟩, gA4, pA4, upd_same, (d3.mono x4.pp x4.g).append (DenL.one dy), h9⟩
            · rw [upd_ne (ne_of_none e hA)]
              exact x14.h b o e hb
            · by_cases q : b = A
              · subst q; rw [upd_same]; simp
              · rw [upd_ne q]; exact x14.d b e
          · rw [if_neg hz] at h9
            exact h9.elim
    rcases dn.yld i _ H' x H2 ed sm y with ⟨rfl, dx⟩ | ⟨Tn, vs, es, rfl, hTn, rfl, ees, dl⟩
    · exact fin G' _ r' (Ext.refl _ _ _) (dx.mono x'.pp x'.g)
    · refine fin _ _ (r'.new _ hTn).1 (r'.new _ hTn).2 ?_
      rw [ees]
      exact ⟨Tn, vs, rfl, SqT.of upd_same, (dl.mono x'.pp x'.g).upd (r'.gfree hTn)⟩
  · have e : i = ds.length := by omega
    subst e
    rw [List.drop_length] at h'
    refine .inl ⟨dn.stop H' sm, ?_⟩
    exact h' A vacc p' G' H' hA hA' da gA' pA' r' x'
section
variable {V : WX} {elt iter : Expr} {ifs : List Expr} {scope : Scope} {own : List (Str × Nat)} {T : Tgt} {mi : DSt → M (List D)} {mt : DSt → M Bool} {me : DSt → M D}
theorem df_lc (hc : X.calm = true) (hN : X.N.Nodup) (hi : DI X V tg iter mi) (ok : BlkOk X.N X.env.scope scope own)
    (hg : ∀ (s : Shared) (H : Hp) (C : Addr) (cl : List (Str × Addr)) (fp : List Addr), PG (X.blk s H scope (compEnvC scope cl C X.env) fp) tg (T.tg X.K)) (ht : ∀ (s : Shared) (H : Hp) (C : Addr) (cl : List (Str × Addr)) (fp : List Addr), PTs (X.blk s H scope (compEnvC scope cl C X.env) fp) ifs (tDT X.K W0 mt))
    (he : ∀ (s : Shared) (H : Hp) (C : Addr) (cl : List (Str × Addr)) (fp : List Addr), PE (X.blk s H scope (compEnvC scope cl C X.env) fp) elt (tD X.K W0 me)) (hT : ∀ i ∈ T.slots, i ∈ own.map (·.2)) (hs : ∀ x, foldedSetIterable iter X.env x = pure x := by intro _; rfl) :
    DF X V (.ListComp elt [⟨tg, iter, ifs, 0⟩] scope pos) (fun t => do let ds ← mi t; noE (lcD (own.map (·.2)) T mt me ds [] t)) :=
  PE.imp (pe_lc hc hN hi ok hg ht he hs) fun σ H Q h => lc_read hT h
theorem de_lc (hc : X.calm = true) (hN : X.N.Nodup) (hi : DI X V tg iter mi) (ok : BlkOk X.N X.env.scope scope own)
    (hg : ∀ (s : Shared) (H : Hp) (C : Addr) (cl : List (Str × Addr)) (fp : List Addr), PG (X.blk s H scope (compEnvC scope cl C X.env) fp) tg (T.tg X.K)) (ht : ∀ (s : Shared) (H : Hp) (C : Addr) (cl : List (Str × Addr)) (fp : List Addr), PTs (X.blk s H scope (compEnvC scope cl C X.env) fp) ifs (tDT X.K W0 mt))
    (he : ∀ (s : Shared) (H : Hp) (C : Addr) (cl : List (Str × Addr)) (fp : List Addr), PE (X.blk s H scope (compEnvC scope cl C X.env) fp) elt (tD X.K W0 me)) (hT : ∀ i ∈ T.slots, i ∈ own.map (·.2)) (hs : ∀ x, foldedSetIterable iter X.env x = pure x := by intro _; rfl) :
    DE X V (.ListComp elt [⟨tg, iter, ifs, 0⟩] scope pos) (fun t => do let xs ← (do let ds ← mi t; noE (lcD (own.map (·.2)) T mt me ds [] t)); pure (.lst xs)) :=
  DF.de (df_lc hc hN hi ok hg ht he hT hs)
end
end
end RM

/-! RM: own defs: their promise, their calls. -/
namespace RM
open PySem PySem.Spec PyProof.Rows L2

/-- a def keeps a promise wherever no guard of repr or == stands around -/
structure FnG (P : Program) (w : World) (K : PySem.W.Frag) (mg : Str → Option Value) (base : Heap) (k : Nat) (f : Addr) (fd : FuncData) (ps : List Str) (sp : Sp) : Prop where
  arity : ∀ vs H Q E, sp vs H Q E → vs.length = ps.length
  go : ∀ (A : Around) (fr : List Env) (s : Shared) (H : Hp) (ar : Args) (us : List Value) (vs : List V) (Q : VK) (E : XK), A.guards = some [] → Room k A →
    Env0 P w K mg base A fr s H → BindsTo s fd ar (ps.zip us) → Vals vs us → sp vs H Q E → codeAny (model P w) A (.call (.ref f) ar) (CR (L2.CX P w) fr P w H s Q E) s
theorem FnG.up {P : Program} {w : World} {K : PySem.W.Frag} {mg : Str → Option Value} {base : Heap} {j k : Nat} {f : Addr} {fd : FuncData} {ps : List Str} {sp : Sp} (F : FnG P w K mg base j f fd ps sp) (h : j ≤ k) : FnG P w K mg base k f fd ps sp :=
  ⟨F.arity, fun A fr s H ar us vs Q E g r => F.go A fr s H ar us vs Q E g (r.mono h)⟩
section
variable {P : Program} {w : World} {K : PySem.W.Frag} {mg : Str → Option Value} {base : Heap} {x qual : Str} {params : Arguments} {body : List Stmt} {scope : Scope} {dvs : List V} {kws : List (Str × V)} {f : Addr} {fd : FuncData}
/-- by its body -/
theorem fnG_of {N ps : List Str} {k : Nat} {sp : Sp} (F : FunD K x qual params body scope dvs kws f fd) (S : FnScope N ps scope) (ar : ∀ vs H Q E, sp vs H Q E → vs.length = ps.length)
    (hb : ∀ (cdv : Value) (A : Around) (fr : List Env) (s : Shared) (H : Hp) (vs : List V) (Q : VK) (E : XK), (A.deeper (envOfC qual scope s.heap.objs.size f cdv)).guards = some [] → Room k (A.deeper (envOfC qual scope s.heap.objs.size f cdv)) → sp vs H Q E →
      ∃ t, PSs (cxOf (L2.CX P w) P w K mg base N qual scope f cdv A fr s H E) body t ∧ t { nx := fun _ H' => Q .non H', rt := Q } (L2.start N vs) H) : FnG P w K mg base (k + 1) f fd ps sp := by
  obtain ⟨oc, od, dV, kV, doc, pm, an, cdv, ct, osl, rfl, lk, hcd, _, _⟩ := F.ex
  refine ⟨ar, fun A fr s H arg us vs Q E hG hr e0 bd r hsp => ?_⟩
  have kin : K.In s.heap := e0.mod.kin.keeps fun b o e => (e0.bs b o e).1
  have nol : s.heap.NoLimit := e0.mod.nolimit.keeps fun b o e => (e0.bs b o e).1
  have kinds : ∀ z ∈ ps.zip us, scope.names.lookup z.1 = some .local ∨ (scope.names.lookup z.1 = some .cell ∧ ((cellsFrom (s.heap.objs.size + 1) scope.names []).lookup z.1).isSome = true) := by
    intro ⟨n, v⟩ hz
    have hn := (List.of_mem_zip hz).1
    cases S.par n hn with
    | inl q => exact Or.inl q
    | inr q => exact Or.inr ⟨q, PySem.W.cellsFrom_some _ _ _ (.inl q)⟩
  refine codeAny_call_function hr.depth (kin _ _ lk) rfl S.co S.gen rfl (PySem.W.codeRec_of kin hcd) (bd _ _ _ _ ?_)
  refine wpAny_newFunctionEnv_cells S.kind kinds fun env henv s1 inc => ?_
  subst henv
  refine ⟨nol.keeps inc.toInCall.keep, codeAny_func ?_⟩
  obtain ⟨t, ht, hq⟩ := hb cdv A fr s H vs Q E hG (hr.deeper _) hsp
  have I0 := inv_start (CX := L2.CX P w) (E := E) S hr.hd e0 (ar _ _ _ _ hsp) r inc
  refine wpAny_mono (ht.run [] s1 _ H _ I0 hq) (fun fl s2 q => ?_) fun e s2 q => q
  match fl, q with
  | .ret u, ⟨v, σ2, H2, J, rv, q⟩ => exact ⟨v, H2, J.os, J.bare, J.base, J.hok, rv, q⟩
  | .next, ⟨σ2, H2, J, q⟩ => exact ⟨.non, H2, J.os, J.bare, J.base, J.hok, rfl, q⟩
  | .brk, ⟨_, _, _, q⟩ => exact False.elim q
  | .cont, ⟨_, _, _, q⟩ => exact False.elim q
/-- the promise by data -/
abbrev FnD (P : Program) (w : World) (K : PySem.W.Frag) (mg : Str → Option Value) (base : Heap) (k : Nat) (f : Addr) (fd : FuncData) (ps : List Str) (g : List D → M D) : Prop := FnG P w K mg base k f fd ps (spD K ps.length g)
/-- the context of a body -/
structure BodyX (X : Cx) (k : Nat) (W : Wf) : Prop where
  room : Room k X.A
  gd : X.A.guards = some []
  tk : Takes X W.x
  po : PassesOwn (model X.prog X.w) X.A X.env X.xe
  calm : X.calm = true
theorem fnD_of {N ps : List Str} {k : Nat} {m : DSt → M Ctl} {g : List D → M D} (F : FunD K x qual params body scope dvs kws f fd) (S : FnScope N ps scope)
    (hb : ∀ (cdv : Value) (A : Around) (fr : List Env) (s : Shared) (H : Hp) (E : XK), BodyX (cxOf (L2.CX P w) P w K mg base N qual scope f cdv A fr s H E) k E → DSs (cxOf (L2.CX P w) P w K mg base N qual scope f cdv A fr s H E) E body m)
    (hg : g = runB N.length m) : FnD P w K mg base (k + 1) f fd ps g := by
  refine fnG_of F S (fun vs H Q E h => spD.len vs H Q _ h) fun cdv A fr s H vs Q E hG hr h => ?_
  obtain ⟨ds, p, G, St, e, dn, r, h⟩ := h
  refine ⟨_, hb cdv A fr s H E ⟨hr, hG, takes_of rfl rfl rfl rfl, passes_of rfl, rfl⟩, ?_⟩
  rw [hg] at h
  exact tDS.enter dn r h
end
section
variable {X : Cx} {W : WX} {a b c : Expr} {es : List Expr} {kw : List Keyword} {ma mb mc : DSt → M D} {ms mk : DSt → M (List D)} {pos p : Pos} {k : Nat} {f : Addr} {fd : FuncData} {ps ks : List Str} {g : List D → M D} {x : Str} {dvs : List V} {ds : List Value} {dds : List D} {sp : Sp}
/-- the callee runs -/
theorem run_G {pins : List (Addr × Obj)} {σ : L2.St} {H : Hp} {s : Shared} {Q : VK} {ar : Args} {us : List Value} {vs : List V} (F : FnG X.prog X.w X.K X.mg X.base k f fd ps sp) (hr : Room k X.A) (hG : X.A.guards = some []) (tk : Takes X W)
    (I : Inv X pins σ H s) (bd : BindsTo s fd ar (ps.zip us)) (r : Vals vs us) (h : sp vs H Q fun c d H' => W c d σ H') : codeAny (model X.prog X.w) X.A (.call (.ref f) ar) (fun r s' => match r with
      | .ok (.ret u) => EP X pins σ Q u s'
      | .ok _ => False
      | .error e => X.xe e s') s := by
  refine codeAny_mono (F.go X.A X.stack s H ar us vs Q _ hG hr I.env0 bd r h) fun r s2 q => ?_
  match r, q with
  | .error e, q => exact tk e s2 (XE.of_call I (fun _ _ _ z => z) q)
  | .ok (.ret u), q => exact I.after q
  | .ok .next, q => exact False.elim q
  | .ok .brk, q => exact False.elim q
  | .ok .cont, q => exact False.elim q
theorem call_G {pins : List (Addr × Obj)} {σ : L2.St} {H : Hp} {s : Shared} {Q : VK} {us : List Value} {kv : List (Str × Value)} {zs : List Value} {vs : List V} (F : FnG X.prog X.w X.K X.mg X.base k f fd ps sp) (hr : Room k X.A) (hG : X.A.guards = some []) (tk : Takes X W)
    (I : Inv X pins σ H s) (bd : BindsTo s fd ⟨us, kv⟩ (ps.zip zs)) (r : Vals vs zs) (h : sp vs H Q fun c d H' => W c d σ H') : wpAny (model X.prog X.w) X.A (call (.ref f) us kv) (EP X pins σ Q) X.xe s := by
  refine wpAny_call (codeAny_mono (run_G F hr hG tk I bd r h) fun r s2 q => ?_)
  match r, q with
  | .error e, q => exact q
  | .ok (.ret u), q => exact q
  | .ok .next, q => exact False.elim q
  | .ok .brk, q => exact False.elim q
  | .ok .cont, q => exact False.elim q
/-- f(e, ..): dds the data of the defaults that fill up -/
theorem de_call (F : FnD X.prog X.w X.K X.mg X.base k f fd ps g) (hr : Room k X.A) (hG : X.A.guards = some []) (tk : Takes X W) (hg : Gl X x) (hm : X.mg x = some (.ref f)) (hk : PySem.W.keepIn X.K (.ref f) = true) (hb : Binds X.K fd ps ds) (hd : Vals dvs ds) (hdd : ∀ q G, DenL X.K q G dds dvs)
    (ha : DA X W (a :: es) ms) (hdb : (x == ("__debug__" : Str)) = false := by decide) (he : starEach (a :: es) X.env = (false, eval a X.env) :: starEach es X.env := by rfl) (hpl : (backTo pos (starEach es X.env)).any (·.1) = false := by rfl) :
    DE X W (.Call (.Name x p) (a :: es) [] pos) (fun t => do let xs ← ms t; argsD ps.length g (xs ++ dds)) := by
  refine ⟨fun pins s σ H Q I ⟨t, q, G, S, ow, r, h⟩ => ?_⟩
  refine wpAny_Call_Name_kw (ld_glob I hg hm (PySem.W.callWith_K (h₀ := X.base) I.ok.mod.kin hk ?_ he hpl) hdb)
  refine thn (ha.run pos pins s σ H (fun vs H1 => spD X.K ps.length g (vs ++ dvs) H1 Q fun c d H' => W c d σ H') I ⟨t, q, G, S, ow, r, okR.seq h fun d S1 v p1 G1 H1 e1 dn r1 x1 h1 => ?_⟩) fun us s1 ⟨vs, H1, I1, rv, q1⟩ => ⟨I1.kIn, ?_⟩
  · obtain ⟨e, h2⟩ := okR.args h1
    exact ⟨d ++ dds, p1, G1, S1, e, dn.append (hdd p1 G1), r1, h2⟩
  · have r2 := rv.append hd
    exact call_G F hr hG tk I1 (hb s1 us I1.kIn (by rw [← r2.length]; exact F.arity _ _ _ _ q1)) r2 q1
theorem de_call0 (F : FnD X.prog X.w X.K X.mg X.base k f fd ps g) (hr : Room k X.A) (hG : X.A.guards = some []) (tk : Takes X W) (hg : Gl X x) (hm : X.mg x = some (.ref f)) (hk : PySem.W.keepIn X.K (.ref f) = true) (hb : Binds X.K fd ps ds) (hd : Vals dvs ds) (hdd : ∀ q G, DenL X.K q G dds dvs)
    (hdb : (x == ("__debug__" : Str)) = false := by decide) : DE X W (.Call (.Name x p) [] [] pos) (fun _ => argsD ps.length g dds) := by
  refine ⟨fun pins s σ H Q I ⟨t, q, G, S, ow, r, h⟩ => ?_⟩
  refine wpAny_Call_Name_kw (ld_glob I hg hm (PySem.W.callWith_K0 I.kIn hk ?_) hdb)
  obtain ⟨e, h2⟩ := okR.args h
  have q1 : spD X.K ps.length g dvs H Q fun c d H' => W c d σ H' := ⟨dds, q, G, S, e, hdd q G, r.rel, h2⟩
  exact call_G (us := []) F hr hG tk I (hb s [] I.kIn (by rw [List.nil_append, ← hd.length]; exact F.arity _ _ _ _ q1)) hd q1
/-! ### keywords -/
abbrev DK (X : Cx) (W : WX) (kw : List Keyword) (m : DSt → M (List D)) : Prop := PK X kw (tDA X.K W m)
theorem PK.imp {t t' : TA} (h : PK X kw t) (k : ∀ σ H Q, t' σ H Q → t σ H Q) : PK X kw t' := ⟨fun pos pins s σ H Q I q => h.run pos pins s σ H Q I (k _ _ _ q)⟩
theorem dk_nil : DK X W [] (fun _ => pure []) := PK.imp pk_nil fun σ H Q ⟨t, p, G, S, ow, r, h⟩ => okR.fin (d := []) h DenL.nil r.rel
theorem dk_cons {nm : Option Str} {kpos : Pos} (ha : DE X W a ma) (hr : DK X W kw mk) : DK X W (⟨nm, a, kpos⟩ :: kw) (fun t => do let x ← ma t; let xs ← mk t; pure (x :: xs)) := by
  refine PK.imp (pk_cons ha hr) fun σ H Q ⟨t, p, G, S, ow, r, h⟩ => ?_
  refine ⟨t, p, G, S, ow, r, okR.seq h fun d S1 v p1 G1 H1 e1 dn r1 x1 h1 => ?_⟩
  refine tDA.next r x1 r1 (okR.seq h1 fun d2 S2 v2 p2 G2 H2 e2 dn2 r2 x2 h2 => ?_)
  exact okR.fin (d := d :: d2) h2 (DenL.cons (dn.mono x2.pp x2.g) dn2) r2
/-- how keywords come to parameters: one arrangement for any kind of things -/
structure KwTo (K : PySem.W.Frag) (fd : FuncData) (ps ks : List Str) (n : Nat) (ar : {α : Type} → List α → List α → List α → List α) (dvs : List V) (ds : List Value) : Prop where
  to : ∀ (s : Shared) (us ws : List Value), K.In s.heap → us.length = n → ws.length = ks.length → BindsTo s fd ⟨us, ks.zip ws⟩ (ps.zip (ar us ws ds))
  rel : ∀ {vs zs : List V} {us ws : List Value}, vs.length = n → zs.length = ks.length → Vals vs us → Vals zs ws → Vals (ar vs zs dvs) (ar us ws ds)
  den : ∀ {q : List (List Addr)} {G : Hp} {xs ys dd : List D} {vs zs : List V}, xs.length = n → ys.length = ks.length → DenL K q G xs vs → DenL K q G ys zs → DenL K q G dd dvs → DenL K q G (ar xs ys dd) (ar vs zs dvs)
def argsK (n m l : Nat) (ar : {α : Type} → List α → List α → List α → List α) (dds : List D) (g : List D → M D) (xs ys : List D) : M D := if xs.length = n ∧ ys.length = m then argsD l g (ar xs ys dds) else stuck
theorem okR.argsK {K : PySem.W.Frag} {q : List (List Addr)} {G H : Hp} {S : Sto} {Q : VK} {xs ys : List D} {n m l : Nat} {ar : {α : Type} → List α → List α → List α → List α} {W : Value → Option Addr → Hp → Prop} (h : okR (Den K) K q G H W (argsK n m l ar dds g xs ys S) Q) :
    xs.length = n ∧ ys.length = m ∧ (ar xs ys dds).length = l ∧ okR (Den K) K q G H W (g (ar xs ys dds) S) Q := by
  unfold RM.argsK at h
  by_cases e : xs.length = n ∧ ys.length = m
  · rw [if_pos e] at h
    obtain ⟨e2, h2⟩ := okR.args h
    exact ⟨e.1, e.2, e2, h2⟩
  · rw [if_neg e] at h
    exact h.elim
variable {ar : {α : Type} → List α → List α → List α → List α} {n : Nat}
/-- f(k = v, ..) -/
theorem de_callK0 (F : FnD X.prog X.w X.K X.mg X.base k f fd ps g) (hr : Room k X.A) (hG : X.A.guards = some []) (tk : Takes X W) (hg : Gl X x) (hm : X.mg x = some (.ref f)) (hk : PySem.W.keepIn X.K (.ref f) = true) (hb : KwTo X.K fd ps ks 0 ar dvs ds) (hdd : ∀ q G, DenL X.K q G dds dvs)
    (hkw : DK X W kw mk) (hall : (backToKw pos (keywordEach kw X.env)).all (·.1.isSome) = true := by rfl) (hks : (backToKw pos (keywordEach kw X.env)).filterMap (·.1) = ks := by rfl)
    (hdb : (x == ("__debug__" : Str)) = false := by decide) (hpl : ((backTo pos (starEach [] X.env)).any (·.1) || (backToKw pos (keywordEach kw X.env)).any (·.1.isNone)) = false := by rfl) :
    DE X W (.Call (.Name x p) [] kw pos) (fun t => do let ys ← mk t; argsK 0 ks.length ps.length ar dds g [] ys) := by
  refine ⟨fun pins s σ H Q I ⟨t, q, G, S, ow, r, h⟩ => ?_⟩
  refine wpAny_Call_Name_kw (ld_glob I hg hm (PySem.W.callWith_KW0 (h₀ := X.base) I.ok.mod.kin hk hall ?_ hpl) hdb)
  refine thn (hkw.run pos pins s σ H (fun zs H1 => zs.length = ks.length ∧ spD X.K ps.length g (ar [] zs dvs) H1 Q fun c d H' => W c d σ H') I ⟨t, q, G, S, ow, r, okR.seq h fun d S1 v p1 G1 H1 e1 dn r1 x1 h1 => ?_⟩) fun ws s1 ⟨zs, H1, I1, rv, l1, q1⟩ => ⟨I1.kIn, ?_⟩
  · obtain ⟨e1, e2, e3, h2⟩ := okR.argsK h1
    exact ⟨dn.length.trans e2, ar [] d dds, p1, G1, S1, e3, hb.den (xs := []) rfl e2 DenL.nil dn (hdd p1 G1), r1, h2⟩
  · rw [hks]
    exact call_G F hr hG tk I1 (hb.to s1 [] ws I1.kIn rfl (by rw [← rv.length]; exact l1)) (hb.rel (vs := []) rfl l1 .nil rv) q1
end
end RM

/-! RM: built-ins, subscripts, slices, membership. -/
namespace RM
open PySem PySem.Spec PyProof.Rows L2

/-! ### lists of one kind -/
def toBools : List D → Option (List Bool)
  | [] => some []
  | .bl b :: r => (toBools r).map (b :: ·)
  | _ :: _ => none
def toInts : List D → Option (List Int)
  | [] => some []
  | .int b :: r => (toInts r).map (b :: ·)
  | _ :: _ => none
def toStrs : List D → Option (List Str)
  | [] => some []
  | .str b :: r => (toStrs r).map (b :: ·)
  | _ :: _ => none
section
variable {K : PySem.W.Frag} {p : List (List Addr)} {G H : Hp}
theorem toBools_den : ∀ {ds : List D} {vs : List V} {bs : List Bool}, DenL K p G ds vs → toBools ds = some bs → vs = bs.map V.bl
  | [], _, _, h, e => by
    cases (show _ = [] from h); cases e; rfl
  | .bl b :: r, _, _, ⟨v, w, h1, h2, h3⟩, e => by
    obtain ⟨cs, e1, e2⟩ := Option.map_eq_some_iff.mp (show (toBools r).map (b :: ·) = some _ from e)
    subst e2
    cases (show v = _ from h2)
    rw [h1, toBools_den h3 e1]
    rfl
  | .non :: _, _, _, _, e => by cases e
  | .int _ :: _, _, _, _, e => by cases e
  | .str _ :: _, _, _, _, e => by cases e
  | .tup _ :: _, _, _, _, e => by cases e
  | .lst _ :: _, _, _, _, e => by cases e
  | .ins _ _ _ :: _, _, _, _, e => by cases e
  | .mref _ :: _, _, _, _, e => by cases e
  | .dic _ _ :: _, _, _, _, e => by cases e
  | .scr _ :: _, _, _, _, e => by cases e
theorem toInts_den : ∀ {ds : List D} {vs : List V} {bs : List Int}, DenL K p G ds vs → toInts ds = some bs → vs = bs.map V.int
  | [], _, _, h, e => by
    cases (show _ = [] from h); cases e; rfl
  | .int b :: r, _, _, ⟨v, w, h1, h2, h3⟩, e => by
    obtain ⟨cs, e1, e2⟩ := Option.map_eq_some_iff.mp (show (toInts r).map (b :: ·) = some _ from e)
    subst e2
    cases (show v = _ from h2)
    rw [h1, toInts_den h3 e1]
    rfl
  | .non :: _, _, _, _, e => by cases e
  | .bl _ :: _, _, _, _, e => by cases e
  | .str _ :: _, _, _, _, e => by cases e
  | .tup _ :: _, _, _, _, e => by cases e
  | .lst _ :: _, _, _, _, e => by cases e
  | .ins _ _ _ :: _, _, _, _, e => by cases e
  | .mref _ :: _, _, _, _, e => by cases e
  | .dic _ _ :: _, _, _, _, e => by cases e
  | .scr _ :: _, _, _, _, e => by cases e
theorem toStrs_den : ∀ {ds : List D} {vs : List V} {bs : List Str}, DenL K p G ds vs → toStrs ds = some bs → vs = bs.map V.str
  | [], _, _, h, e => by
    cases (show _ = [] from h); cases e; rfl
  | .str b :: r, _, _, ⟨v, w, h1, h2, h3⟩, e => by
    obtain ⟨cs, e1, e2⟩ := Option.map_eq_some_iff.mp (show (toStrs r).map (b :: ·) = some _ from e)
    subst e2
    cases (show v = _ from h2)
    rw [h1, toStrs_den h3 e1]
    rfl
  | .non :: _, _, _, _, e => by cases e
  | .bl _ :: _, _, _, _, e => by cases e
  | .int _ :: _, _, _, _, e => by cases e
  | .tup _ :: _, _, _, _, e => by cases e
  | .lst _ :: _, _, _, _, e => by cases e
  | .ins _ _ _ :: _, _, _, _, e => by cases e
  | .mref _ :: _, _, _, _, e => by cases e
  | .dic _ _ :: _, _, _, _, e => by cases e
  | .scr _ :: _, _, _, _, e => by cases e
end
/-! ### by data -/
def lenD : List D → M D
  | [.lst xs] => pure (.int xs.length)
  | [.tup xs] => pure (.int xs.length)
  | [.str x] => if x.length ≤ sizeLine then pure (.int x.length) else stuck
  | [.scr ns] => pure (.int ns.length)
  | _ => stuck
def absD : List D → M D
  | [.int i] => pure (.int (if i < 0 then -i else i))
  | _ => stuck
def intD : List D → M D
  | [.int i] => pure (.int i)
  | _ => stuck
def allD : List D → M D
  | [.lst xs] => match toBools xs with
    | some bs => pure (.bl (bs.all id))
    | none => stuck
  | _ => stuck
def anyD : List D → M D
  | [.lst xs] => match toBools xs with
    | some bs => pure (.bl (bs.any id))
    | none => stuck
  | _ => stuck
def leastI : Int → List Int → Int
  | a, [] => a
  | a, b :: r => leastI (if b < a then b else a) r
def mostI : Int → List Int → Int
  | a, [] => a
  | a, b :: r => mostI (if b > a then b else a) r
def minD : List D → M D
  | [.int i, .int j] => pure (.int (if j < i then j else i))
  | [.lst xs] => match toInts xs with
    | some (n :: ns) => pure (.int (leastI n ns))
    | _ => stuck
  | _ => stuck
def maxD : List D → M D
  | [.int i, .int j] => pure (.int (if j > i then j else i))
  | [.lst xs] => match toInts xs with
    | some (n :: ns) => pure (.int (mostI n ns))
    | _ => stuck
  | _ => stuck
def tupleD : List D → M D
  | [.lst xs] => pure (.tup xs)
  | [.tup xs] => pure (.tup xs)
  | _ => stuck
def listD : List D → M D
  | [.lst xs] => pure (.lst xs)
  | [.tup xs] => pure (.lst xs)
  | _ => stuck
theorem leastI_of {m : Int} : ∀ (ns : List Int) (n : Int), m ∈ n :: ns → (∀ y ∈ n :: ns, m ≤ y) → m = leastI n ns
  | [], n, h, _ => by
    rcases List.mem_cons.mp h with z | z
    · exact z
    · cases z
  | b :: r, n, h, k => by
    unfold leastI
    refine leastI_of r _ ?_ fun y hy => ?_
    · have h1 := k n (by simp)
      have h2 := k b (by simp)
      rcases List.mem_cons.mp h with z | z
      · by_cases q : b < n
        · omega
        · rw [if_neg q, z]; simp
      · rcases List.mem_cons.mp z with z | z
        · by_cases q : b < n
          · rw [if_pos q, z]; simp
          · rw [if_neg q]
            have : m = n := by omega
            rw [this]; simp
        · exact List.mem_cons_of_mem _ z
    · rcases List.mem_cons.mp hy with z | z
      · rw [z]
        split
        · exact k b (by simp)
        · exact k n (by simp)
      · exact k y (by simp [z])
theorem mostI_of {m : Int} : ∀ (ns : List Int) (n : Int), m ∈ n :: ns → (∀ y ∈ n :: ns, y ≤ m) → m = mostI n ns
  | [], n, h, _ => by
    rcases List.mem_cons.mp h with z | z
    · exact z
    · cases z
  | b :: r, n, h, k => by
    unfold mostI
    refine mostI_of r _ ?_ fun y hy => ?_
    · have h1 := k n (by simp)
      have h2 := k b (by simp)
      rcases List.mem_cons.mp h with z | z
      · by_cases q : b > n
        · omega
        · rw [if_neg q, z]; simp
      · rcases List.mem_cons.mp z with z | z
        · by_cases q : b > n
          · rw [if_pos q, z]; simp
          · rw [if_neg q]
            have : m = n := by omega
            rw [this]; simp
        · exact List.mem_cons_of_mem _ z
    · rcases List.mem_cons.mp hy with z | z
      · rw [z]
        split
        · exact k b (by simp)
        · exact k n (by simp)
      · exact k y (by simp [z])
section
variable {K : PySem.W.Frag}
theorem by_len : ByA K (fun xs H Q => ∃ x n, xs = [x] ∧ LenV K x H n ∧ Q (.int n) H) lenD := by
  intro ds vs p G H S W Q hd r h
  unfold lenD at h
  split at h
  · obtain ⟨v, rfl, a, us, rfl, ha, hv⟩ := denL1 hd
    exact ⟨_, _, rfl, .inl ⟨us, SqL.of (r.sub _ _ ha), rfl⟩, okR.fin (v := V.int us.length) h (by rw [hv.length]; rfl) r⟩
  · obtain ⟨v, rfl, a, us, rfl, ha, hv⟩ := denL1 hd
    exact ⟨_, _, rfl, .inr ⟨us, SqT.mono r.sub ha, rfl⟩, okR.fin (v := V.int us.length) h (by rw [hv.length]; rfl) r⟩
  · rename_i x
    obtain ⟨v, rfl, hv⟩ := denL1 hd
    cases (show v = _ from hv)
    by_cases hz : x.length ≤ sizeLine
    · rw [if_pos hz] at h
      exact ⟨_, _, rfl, ⟨hz, rfl⟩, okR.fin (v := V.int x.length) h rfl r⟩
    · rw [if_neg hz] at h
      exact h.elim
  · rename_i ns
    obtain ⟨v, rfl, a, rfl, ha⟩ := denL1 hd
    exact ⟨_, _, rfl, .inl ⟨_, r.sub.seq ha, rfl⟩, okR.fin (v := V.int _) h (by rw [List.length_map]; rfl) r⟩
  · exact h.elim
theorem by_abs : ByA K (fun xs H Q => ∃ i, xs = [.int i] ∧ Q (.int (if i < 0 then -i else i)) H) absD := by
  intro ds vs p G H S W Q hd r h
  unfold absD at h
  split at h
  · rename_i i
    obtain ⟨v, rfl, hv⟩ := denL1 hd
    cases (show v = _ from hv)
    exact ⟨i, rfl, okR.fin (v := V.int _) h rfl r⟩
  · exact h.elim
theorem by_int : ByA K (fun xs H Q => (∃ i, xs = [.int i] ∧ Q (.int i) H) ∨ ∃ k, xs = [.bl k] ∧ Q (.int (if k then 1 else 0)) H) intD := by
  intro ds vs p G H S W Q hd r h
  unfold intD at h
  split at h
  · rename_i i
    obtain ⟨v, rfl, hv⟩ := denL1 hd
    cases (show v = _ from hv)
    exact .inl ⟨i, rfl, okR.fin (v := V.int _) h rfl r⟩
  · exact h.elim
theorem by_all : ByA K (rAll K) allD := by
  intro ds vs p G H S W Q hd r h
  unfold allD at h
  split at h
  · rename_i xs
    obtain ⟨v, rfl, a, us, rfl, ha, hv⟩ := denL1 hd
    cases e : toBools xs with
    | none => rw [e] at h; exact h.elim
    | some bs =>
      rw [e] at h
      rw [toBools_den hv e] at ha
      exact ⟨a, bs, rfl, SqL.of (r.sub _ _ ha), okR.fin (v := V.bl _) h rfl r⟩
  · exact h.elim
theorem by_any : ByA K (rAny K) anyD := by
  intro ds vs p G H S W Q hd r h
  unfold anyD at h
  split at h
  · rename_i xs
    obtain ⟨v, rfl, a, us, rfl, ha, hv⟩ := denL1 hd
    cases e : toBools xs with
    | none => rw [e] at h; exact h.elim
    | some bs =>
      rw [e] at h
      rw [toBools_den hv e] at ha
      exact ⟨a, bs, rfl, SqL.of (r.sub _ _ ha), okR.fin (v := V.bl _) h rfl r⟩
  · exact h.elim
theorem by_min : ByA K (fun xs H Q => (∃ i j, xs = [.int i, .int j] ∧ Q (.int (if j < i then j else i)) H) ∨ rMin K xs H Q) minD := by
  intro ds vs p G H S W Q hd r h
  unfold minD at h
  split at h
  · rename_i i j
    obtain ⟨v, u, rfl, h1, h2⟩ := denL2 hd
    cases (show v = _ from h1)
    cases (show u = _ from h2)
    exact .inl ⟨i, j, rfl, okR.fin (v := V.int _) h rfl r⟩
  · rename_i xs
    obtain ⟨v, rfl, a, us, rfl, ha, hv⟩ := denL1 hd
    cases e : toInts xs with
    | none => rw [e] at h; exact h.elim
    | some ns =>
      rw [e] at h
      cases ns with
      | nil => exact h.elim
      | cons n ns =>
        rw [toInts_den hv e] at ha
        refine .inr ⟨a, n :: ns, rfl, SqL.of (r.sub _ _ ha), by simp, fun m h1 h2 => ?_⟩
        rw [leastI_of ns n h1 h2]
        exact okR.fin (v := V.int _) h rfl r
  · exact h.elim
theorem by_max : ByA K (fun xs H Q => (∃ i j, xs = [.int i, .int j] ∧ Q (.int (if j > i then j else i)) H) ∨ rMax K xs H Q) maxD := by
  intro ds vs p G H S W Q hd r h
  unfold maxD at h
  split at h
  · rename_i i j
    obtain ⟨v, u, rfl, h1, h2⟩ := denL2 hd
    cases (show v = _ from h1)
    cases (show u = _ from h2)
    exact .inl ⟨i, j, rfl, okR.fin (v := V.int _) h rfl r⟩
  · rename_i xs
    obtain ⟨v, rfl, a, us, rfl, ha, hv⟩ := denL1 hd
    cases e : toInts xs with
    | none => rw [e] at h; exact h.elim
    | some ns =>
      rw [e] at h
      cases ns with
      | nil => exact h.elim
      | cons n ns =>
        rw [toInts_den hv e] at ha
        refine .inr ⟨a, n :: ns, rfl, SqL.of (r.sub _ _ ha), by simp, fun m h1 h2 => ?_⟩
        rw [mostI_of ns n h1 h2]
        exact okR.fin (v := V.int _) h rfl r
  · exact h.elim
theorem by_tuple : ByA K (fun xs H Q => ∃ p ys, xs = [.ref p] ∧ ((SqL K H p ys ∧ ∀ l, H l = none → Q (.ref l) (upd H l (.tup ys))) ∨ (SqT K H p ys ∧ Q (.ref p) H))) tupleD := by
  intro ds vs p G H S W Q hd r h
  unfold tupleD at h
  split at h
  · obtain ⟨v, rfl, a, us, rfl, ha, hv⟩ := denL1 hd
    exact ⟨a, us, rfl, .inl ⟨SqL.of (r.sub _ _ ha), fun l hl => okR.tup h r hl hv⟩⟩
  · obtain ⟨v, rfl, a, us, rfl, ha, hv⟩ := denL1 hd
    exact ⟨a, us, rfl, .inr ⟨SqT.mono r.sub ha, okR.fin h ⟨a, us, rfl, ha, hv⟩ r⟩⟩
  · exact h.elim
theorem by_list : ByA K (fun xs H Q => ∃ p ys, xs = [.ref p] ∧ (SqL K H p ys ∨ SqT K H p ys) ∧ ∀ l, H l = none → Q (.ref l) (upd H l (.lst ys))) listD := by
  intro ds vs p G H S W Q hd r h
  unfold listD at h
  split at h
  · obtain ⟨v, rfl, a, us, rfl, ha, hv⟩ := denL1 hd
    exact ⟨a, us, rfl, .inl (SqL.of (r.sub _ _ ha)), fun l hl => okR.lst h r hl hv⟩
  · obtain ⟨v, rfl, a, us, rfl, ha, hv⟩ := denL1 hd
    exact ⟨a, us, rfl, .inr (SqT.mono r.sub ha), fun l hl => okR.lst h r hl hv⟩
  · exact h.elim
end
/-! ### as calls: B the built-in's name stands free in the module -/
section
variable {X : Cx} {W : WX} {a b : Expr} {es : List Expr} {ma mb : DSt → M D} {ms : DSt → M (List D)} {pos p : Pos}
theorem CallR.or {f : Value} {r r' : List V → Hp → VK → Prop} (h : CallR X f r) (h' : CallR X f r') : CallR X f (fun xs H Q => r xs H Q ∨ r' xs H Q) := by
  intro pins s σ H xs us Q I rv q
  rcases q with q | q
  · exact h pins s σ H xs us Q I rv q
  · exact h' pins s σ H xs us Q I rv q
theorem de_len (hg : Gl X "len") (hm : X.mg "len" = none) (ha : DA X W [a] ms) (he : starEach [a] X.env = [(false, eval a X.env)] := by rfl) : DE X W (.Call (.Name "len" p) [a] [] pos) (fun t => do let xs ← ms t; lenD xs) := de_callB call_len by_len hg hm boot_len ha (by decide) (by decide) he rfl
theorem de_abs (hg : Gl X "abs") (hm : X.mg "abs" = none) (ha : DA X W [a] ms) (he : starEach [a] X.env = [(false, eval a X.env)] := by rfl) : DE X W (.Call (.Name "abs" p) [a] [] pos) (fun t => do let xs ← ms t; absD xs) := de_callB call_abs by_abs hg hm (by decide +kernel) ha (by decide) (by decide) he rfl
theorem de_int_ (hg : Gl X "int") (hm : X.mg "int" = none) (ha : DA X W [a] ms) (he : starEach [a] X.env = [(false, eval a X.env)] := by rfl) : DE X W (.Call (.Name "int" p) [a] [] pos) (fun t => do let xs ← ms t; intD xs) := de_callTy call_int1 by_int hg hm (by decide +kernel) ha (by decide) (by decide) he rfl
theorem de_all (hc : X.calm = true) (hg : Gl X "all") (hm : X.mg "all" = none) (ha : DA X W [a] ms) (he : starEach [a] X.env = [(false, eval a X.env)] := by rfl) : DE X W (.Call (.Name "all" p) [a] [] pos) (fun t => do let xs ← ms t; allD xs) := de_callB (cr_all hc) by_all hg hm (by decide +kernel) ha (by decide) (by decide) he rfl
theorem de_any (hc : X.calm = true) (hg : Gl X "any") (hm : X.mg "any" = none) (ha : DA X W [a] ms) (he : starEach [a] X.env = [(false, eval a X.env)] := by rfl) : DE X W (.Call (.Name "any" p) [a] [] pos) (fun t => do let xs ← ms t; anyD xs) := de_callB (cr_any hc) by_any hg hm (by decide +kernel) ha (by decide) (by decide) he rfl
theorem de_min (hc : X.calm = true) (hg : Gl X "min") (hm : X.mg "min" = none) (ha : DA X W (a :: es) ms) (he : starEach (a :: es) X.env = (false, eval a X.env) :: starEach es X.env := by rfl) (hpl : (backTo pos (starEach es X.env)).any (·.1) = false := by rfl) : DE X W (.Call (.Name "min" p) (a :: es) [] pos) (fun t => do let xs ← ms t; minD xs) :=
  de_callB ((call_min2 hc).or (cr_min hc)) by_min hg hm (by decide +kernel) ha (by decide) (by decide) he hpl
theorem de_max (hc : X.calm = true) (hg : Gl X "max") (hm : X.mg "max" = none) (ha : DA X W (a :: es) ms) (he : starEach (a :: es) X.env = (false, eval a X.env) :: starEach es X.env := by rfl) (hpl : (backTo pos (starEach es X.env)).any (·.1) = false := by rfl) : DE X W (.Call (.Name "max" p) (a :: es) [] pos) (fun t => do let xs ← ms t; maxD xs) :=
  de_callB ((call_max2 hc).or (cr_max hc)) by_max hg hm (by decide +kernel) ha (by decide) (by decide) he hpl
theorem de_tuple_ (hg : Gl X "tuple") (hm : X.mg "tuple" = none) (ha : DA X W [a] ms) (he : starEach [a] X.env = [(false, eval a X.env)] := by rfl) : DE X W (.Call (.Name "tuple" p) [a] [] pos) (fun t => do let xs ← ms t; tupleD xs) := de_callTy call_tuple_of by_tuple hg hm (by decide +kernel) ha (by decide) (by decide) he rfl
theorem de_list_ (hg : Gl X "list") (hm : X.mg "list" = none) (ha : DA X W [a] ms) (he : starEach [a] X.env = [(false, eval a X.env)] := by rfl) : DE X W (.Call (.Name "list" p) [a] [] pos) (fun t => do let xs ← ms t; listD xs) := de_callTy call_list_of by_list hg hm (by decide +kernel) ha (by decide) (by decide) he rfl
end
/-! ### subscripts -/
def idxD : D → D → M D
  | .lst xs, .int i => match atI xs i with
    | some d => pure d
    | none => stuck
  | .tup xs, .int i => match atI xs i with
    | some d => pure d
    | none => stuck
  | .str z, .int i => if z.length ≤ sizeLine then match atI z.cps.toList i with
      | some c => pure (.str ⟨#[c]⟩)
      | none => stuck
    else stuck
  | _, _ => stuck
theorem atI_den {K : PySem.W.Frag} {p : List (List Addr)} {G : Hp} {ds : List D} {vs : List V} {i : Int} {d : D} (h : DenL K p G ds vs) (e : atI ds i = some d) : ∃ v, atI vs i = some v ∧ Den K p G d v := by
  unfold atI at e ⊢
  obtain ⟨j, e1, e2⟩ := Option.bind_eq_some_iff.mp e
  obtain ⟨v, e3, e4⟩ := h.get e2
  exact ⟨v, by rw [h.length, e1]; exact e3, e4⟩
theorem by_idx {K : PySem.W.Frag} : By2 K (rIx K) idxD := by
  intro d e v u p G H S W Q hd he r h
  cases d <;> cases e <;> try exact h.elim
  · rename_i z i
    unfold idxD at h
    dsimp only at h
    split at h
    · rename_i hz
      cases q : atI z.cps.toList i with
      | none => rw [q] at h; exact h.elim
      | some c =>
        rw [q] at h
        exact .inr (.inr ⟨z, i, c, hd, he, hz, q, okR.fin (v := V.str _) h rfl r⟩)
    · exact h.elim
  · rename_i xs i
    unfold idxD at h
    dsimp only at h
    cases q : atI xs i with
    | none => rw [q] at h; exact h.elim
    | some c =>
      rw [q] at h
      obtain ⟨a, vs, rfl, ha, hv⟩ := hd
      obtain ⟨w, e1, e2⟩ := atI_den hv q
      exact .inr (.inl ⟨a, vs, i, w, rfl, he, SqT.mono r.sub ha, e1, okR.fin h e2 r⟩)
  · rename_i xs i
    unfold idxD at h
    dsimp only at h
    cases q : atI xs i with
    | none => rw [q] at h; exact h.elim
    | some c =>
      rw [q] at h
      obtain ⟨a, vs, rfl, ha, hv⟩ := hd
      obtain ⟨w, e1, e2⟩ := atI_den hv q
      exact .inl ⟨a, vs, i, w, rfl, he, SqL.of (r.sub _ _ ha), e1, okR.fin h e2 r⟩
/-! ### slices -/
def cutL {α : Type} (xs : List α) (lo hi : Option Int) : List α := (xs.drop (HT.sIx xs.length 0 lo)).take (HT.sIx xs.length xs.length hi - HT.sIx xs.length 0 lo)
def sliceD : D → Option Int → Option Int → M D
  | .lst xs, lo, hi => pure (.lst (cutL xs lo hi))
  | .tup xs, lo, hi => pure (.tup (cutL xs lo hi))
  | .str z, lo, hi => if z.length ≤ sizeLine then pure (.str (cutS z lo hi)) else stuck
  | _, _, _ => stuck
def partD : D → M (Option Int)
  | .int i => pure (some i)
  | _ => stuck
def rO : List (List Addr) → Hp → Option Int → Option Int → Prop := fun _ _ a b => a = b
def tDO (K : PySem.W.Frag) (W : WX) (m : DSt → M (Option Int)) : TO := fun σ H Q => ∃ t p G S ow, RelS K p G S H t σ ow ∧ okR rO K p G H (fun c d H' => W c d σ H') (m t S) Q
abbrev DO (X : Cx) (W : WX) (e : Option Expr) (m : DSt → M (Option Int)) : Prop := PO X e (tDO X.K W m)
section
variable {X : Cx} {W : WX} {a b e : Expr} {ma mb : DSt → M D} {ml mh : DSt → M (Option Int)} {lo hi : Option Expr} {pos p2 : Pos}
theorem PO.imp {e : Option Expr} {t t' : TO} (h : PO X e t) (k : ∀ σ H Q, t' σ H Q → t σ H Q) : PO X e t' := ⟨fun pins s σ H Q I q => h.run pins s σ H Q I (k _ _ _ q)⟩
theorem do_none : DO X W none (fun _ => pure none) := PO.imp po_none fun σ H Q ⟨t, p, G, S, ow, r, h⟩ => okR.fin (d := none) h rfl r.rel
theorem do_some (ha : DE X W a ma) : DO X W (some a) (fun t => do let x ← ma t; partD x) := by
  refine PO.imp (po_some ha) fun σ H Q ⟨t, p, G, S, ow, r, h⟩ => ?_
  refine ⟨t, p, G, S, ow, r, okR.seq h fun d S1 v p1 G1 H1 e1 dn r1 x1 h1 => ?_⟩
  cases d with
  | int i => exact ⟨i, dn, okR.fin (d := some i) h1 rfl r1⟩
  | _ => exact h1.elim
theorem de_idx (ha : DE X W a ma) (hb : DE X W b mb) (hs : PlainIx b) : DE X W (.Subscript a b pos) (fun t => do let x ← ma t; let y ← mb t; idxD x y) := PE.imp (pe_ix ix_seq ha hb hs) fun _ _ _ h => tD2 by_idx h
theorem de_slice (ha : DE X W a ma) (hl : DO X W lo ml) (hh : DO X W hi mh) : DE X W (.Subscript a (.Slice lo hi none p2) pos) (fun t => do let x ← ma t; let l ← ml t; let h ← mh t; sliceD x l h) := by
  refine PE.imp (pe_slice (sl_list.or (sl_str.or sl_tupA)) ha hl hh) fun σ H Q ⟨t, p, G, S, ow, r, h⟩ => ?_
  refine ⟨t, p, G, S, ow, r, okR.seq h fun d S1 v p1 G1 H1 e1 dn r1 x1 h1 => ?_⟩
  refine ⟨t, p1, G1, S1, ow, r.ext x1 r1, okR.seq h1 fun l S2 l' p2 G2 H2 e2 dl r2 x2 h2 => ?_⟩
  refine ⟨t, p2, G2, S2, ow, (r.ext x1 r1).ext x2 r2, okR.seq h2 fun u S3 u' p3 G3 H3 e3 du r3 x3 h3 => ?_⟩
  cases dl
  cases du
  have dn' := (dn.mono x2.pp x2.g).mono x3.pp x3.g
  clear dn
  cases d <;> try exact h3.elim
  · rename_i z
    unfold sliceD at h3
    dsimp only at h3
    split at h3
    · rename_i hz
      exact .inr (.inl ⟨z, dn', hz, okR.fin (v := V.str _) h3 rfl r3⟩)
    · exact h3.elim
  · rename_i xs
    obtain ⟨b, vs, rfl, hb, hv⟩ := dn'
    have hlen := hv.length
    refine .inr (.inr ⟨b, vs, rfl, SqT.mono r3.sub hb, fun q => ?_, fun q l' hl' => okR.tup h3 r3 hl' ?_⟩)
    · have e : cutL xs l u = xs := by
        unfold cutL
        rw [hlen] at q
        rw [q.1, q.2, List.drop_zero, Nat.sub_zero, List.take_length]
      have h4 : okR (Den X.K) X.K p3 G3 H3 (fun c d H' => W c d σ H') (.ok (.tup (cutL xs l u)) S3) Q := h3
      rw [e] at h4
      exact okR.fin h4 ⟨b, vs, rfl, hb, hv⟩ r3
    · unfold cutL cutV
      rw [hlen]
      exact (hv.drop _).take _
  · rename_i xs
    obtain ⟨b, vs, rfl, hb, hv⟩ := dn'
    have hlen := hv.length
    refine .inl ⟨b, vs, rfl, SqL.of (r3.sub _ _ hb), fun l' hl' => okR.lst h3 r3 hl' ?_⟩
    unfold cutL cutV
    rw [hlen]
    exact (hv.drop _).take _
end
/-! ### membership -/
def flatD : D → Bool
  | .non => true
  | .bl _ => true
  | .int _ => true
  | .str _ => true
  | _ => false
def eqF : D → D → Bool
  | .non, .non => true
  | .bl a, .bl b => a == b
  | .bl a, .int b => (if a then 1 else 0) == b
  | .int a, .bl b => a == (if b then 1 else 0)
  | .int a, .int b => a == b
  | .str a, .str b => a == b
  | _, _ => false
def memD (x : D) (xs : List D) : Bool := xs.any fun y => eqF y x
def signIn (neg : Bool) (z : Str) : List Nat → M D
  | [c] => pure (.bl (if neg then !decide (c ∈ z.cps.toList) else decide (c ∈ z.cps.toList)))
  | _ => stuck
def inD (neg : Bool) : D → D → M D
  | .str x, .str z => signIn neg z x.cps.toList
  | x, .lst xs => if flatD x = true ∧ xs.all flatD = true then pure (.bl (if neg then !memD x xs else memD x xs)) else stuck
  | x, .tup xs => if flatD x = true ∧ xs.all flatD = true then pure (.bl (if neg then !memD x xs else memD x xs)) else stuck
  | _, _ => stuck
section
variable {K : PySem.W.Frag} {p : List (List Addr)} {G : Hp}
theorem flat_den {d : D} {v : V} (h : Den K p G d v) (f : flatD d = true) : flatV v = true := by
  cases d <;> first | (cases (show v = _ from h); rfl) | cases f
theorem flat_all : ∀ {ds : List D} {vs : List V}, DenL K p G ds vs → ds.all flatD = true → vs.all flatV = true
  | [], _, h, _ => by cases (show _ = [] from h); rfl
  | d :: ds, _, ⟨v, r, h1, h2, h3⟩, f => by
    rw [List.all_cons, Bool.and_eq_true] at f
    rw [h1, List.all_cons, Bool.and_eq_true]
    exact ⟨flat_den h2 f.1, flat_all h3 f.2⟩
theorem eqF_den {d e : D} {v u : V} (h : Den K p G d v) (k : Den K p G e u) (f : flatD d = true) (g : flatD e = true) : eqV v u = eqF d e := by
  cases d <;> first | (cases (show v = _ from h); cases e <;> first | (cases (show u = _ from k); rfl) | cases g) | cases f
theorem mem_den {x : D} {v : V} (hx : Den K p G x v) (fx : flatD x = true) : ∀ {ds : List D} {vs : List V}, DenL K p G ds vs → ds.all flatD = true → inV v vs = memD x ds
  | [], _, h, _ => by cases (show _ = [] from h); rfl
  | d :: ds, _, ⟨u, r, h1, h2, h3⟩, f => by
    rw [List.all_cons, Bool.and_eq_true] at f
    have := mem_den hx fx h3 f.2
    unfold inV memD at this ⊢
    rw [h1, List.any_cons, List.any_cons, this, eqF_den h2 hx f.1 fx]
end
theorem by_in {K : PySem.W.Frag} (neg : Bool) : By2 K (fun x y H Q => (∃ (c : Nat) (z : Str), x = .str ⟨#[c]⟩ ∧ y = .str z ∧ Q (.bl (if neg then !decide (c ∈ z.cps.toList) else decide (c ∈ z.cps.toList))) H) ∨ rIn K neg x y H Q) (inD neg) := by
  intro d e v u p G H S W Q hd he r h
  unfold inD at h
  split at h
  · rename_i x z
    cases ex : x.cps.toList with
    | nil => rw [ex] at h; exact h.elim
    | cons c cs =>
      cases cs with
      | cons c2 cs => rw [ex] at h; exact h.elim
      | nil =>
        rw [ex] at h
        refine .inl ⟨c, z, ?_, he, okR.fin (v := V.bl _) h rfl r⟩
        rw [(show v = _ from hd)]
        obtain ⟨xs⟩ := x
        have : xs = #[c] := Array.ext' ex
        rw [this]
  · rename_i xs
    by_cases hz : flatD d = true ∧ xs.all flatD = true
    · rw [if_pos hz] at h
      obtain ⟨a, vs, rfl, ha, hv⟩ := he
      refine .inr ⟨a, vs, rfl, .inl (SqL.of (r.sub _ _ ha)), flat_den hd hz.1, flat_all hv hz.2, ?_⟩
      rw [mem_den hd hz.1 hv hz.2]
      exact okR.fin (v := V.bl _) h rfl r
    · rw [if_neg hz] at h
      exact h.elim
  · rename_i xs
    by_cases hz : flatD d = true ∧ xs.all flatD = true
    · rw [if_pos hz] at h
      obtain ⟨a, vs, rfl, ha, hv⟩ := he
      refine .inr ⟨a, vs, rfl, .inr (SqT.mono r.sub ha), flat_den hd hz.1, flat_all hv hz.2, ?_⟩
      rw [mem_den hd hz.1 hv hz.2]
      exact okR.fin (v := V.bl _) h rfl r
    · rw [if_neg hz] at h
      exact h.elim
  · exact h.elim
section
variable {X : Cx} {W : WX} {a b : Expr} {ma mb : DSt → M D} {pos : Pos}
theorem op_inA : OpR X (compareOp .In) (fun x y H Q => (∃ (c : Nat) (z : Str), x = .str ⟨#[c]⟩ ∧ y = .str z ∧ Q (.bl (if false then !decide (c ∈ z.cps.toList) else decide (c ∈ z.cps.toList))) H) ∨ rIn X.K false x y H Q) := op_in_sign.or op_in_seq
theorem op_notInA : OpR X (compareOp .NotIn) (fun x y H Q => (∃ (c : Nat) (z : Str), x = .str ⟨#[c]⟩ ∧ y = .str z ∧ Q (.bl (if true then !decide (c ∈ z.cps.toList) else decide (c ∈ z.cps.toList))) H) ∨ rIn X.K true x y H Q) := op_notIn_sign.or op_notIn_seq
theorem de_in (ha : DE X W a ma) (hb : DE X W b mb) (hm : behindInMarks .In b = false := by rfl) : DE X W (.Compare a [.In] [b] pos) (fun t => do let x ← ma t; let y ← mb t; inD false x y) := de_cmp op_inA (by_in false) ha hb hm
theorem de_notin (ha : DE X W a ma) (hb : DE X W b mb) (hm : behindInMarks .NotIn b = false := by rfl) : DE X W (.Compare a [.NotIn] [b] pos) (fun t => do let x ← ma t; let y ← mb t; inD true x y) := de_cmp op_notInA (by_in true) ha hb hm
theorem dt_in (ha : DE X W a ma) (hb : DE X W b mb) (hm : behindInMarks .In b = false := by rfl) : DT X W (.Compare a [.In] [b] pos) (fun t => do let x ← (do let x ← ma t; let y ← mb t; inD false x y); asB x) := dt_cmp op_inA (by_in false) ha hb hm
theorem dt_notin (ha : DE X W a ma) (hb : DE X W b mb) (hm : behindInMarks .NotIn b = false := by rfl) : DT X W (.Compare a [.NotIn] [b] pos) (fun t => do let x ← (do let x ← ma t; let y ← mb t; inD true x y); asB x) := dt_cmp op_notInA (by_in true) ha hb hm
end
/-! ### sep.join(list) -/
def joinD : D → D → M D
  | .str a, .lst xs => match toStrs xs with
    | some ys => if (ys.map (·.length)).sum + ys.length * a.length ≤ 16777216 then pure (.str (Txt.join a ys)) else stuck
    | none => stuck
  | .str a, .tup xs => match toStrs xs with
    | some ys => if (ys.map (·.length)).sum + ys.length * a.length ≤ 16777216 then pure (.str (Txt.join a ys)) else stuck
    | none => stuck
  | _, _ => stuck
theorem joinD_str {d e : D} {S : Sto} {c : D} {S' : Sto} (h : joinD d e S = .ok c S') : ∃ a, d = .str a := by
  unfold joinD at h
  split at h
  · exact ⟨_, rfl⟩
  · exact ⟨_, rfl⟩
  · cases h
section
variable {X : Cx} {W : WX} {a b : Expr} {ma mb : DSt → M D} {pos apos : Pos}
/-- the receiver is known to be a text -/
def strD : D → M Str
  | .str a => pure a
  | _ => stuck
theorem de_join (ha : DE X W a ma) (hb : DE X W b mb) (hs : starEach [b] X.env = [(false, eval b X.env)] := by rfl) (hbase : attributeBase a "join" X.env (eval a X.env) = eval a X.env := by rfl) (hline : (apos.endLine == pos.line) = true := by rfl) :
    DE X W (.Call (.Attribute a "join" apos) [b] [] pos) (fun t => do let x ← ma t; let s ← strD x; let y ← mb t; joinD (.str s) y) := by
  refine PE.imp (pe_join ha hb hs hbase hline) fun σ H Q ⟨t, p, G, S, ow, r, h⟩ => ?_
  refine ⟨t, p, G, S, ow, r, okR.seq h fun d S1 v p1 G1 H1 e1 dn r1 x1 h1 => ?_⟩
  cases d <;> try exact h1.elim
  rename_i s
  refine ⟨⟨s, dn⟩, tD.next r x1 r1 (okR.seq (m := mb t) (f := fun y => joinD (.str s) y) h1 fun d2 S2 v2 p2 G2 H2 e2 dn2 r2 x2 h2 => ?_)⟩
  unfold joinD at h2
  cases d2 <;> try exact h2.elim
  · rename_i xs
    obtain ⟨l, vs, rfl, hl, hv⟩ := dn2
    dsimp only at h2
    cases e : toStrs xs with
    | none => rw [e] at h2; exact h2.elim
    | some ys =>
      rw [e] at h2
      dsimp only at h2
      split at h2
      · rename_i hz
        rw [toStrs_den hv e] at hl
        exact ⟨s, l, ys, dn, rfl, .inr (SqT.mono r2.sub hl), hz, okR.fin (v := V.str _) h2 rfl r2⟩
      · exact h2.elim
  · rename_i xs
    obtain ⟨l, vs, rfl, hl, hv⟩ := dn2
    dsimp only at h2
    cases e : toStrs xs with
    | none => rw [e] at h2; exact h2.elim
    | some ys =>
      rw [e] at h2
      dsimp only at h2
      split at h2
      · rename_i hz
        rw [toStrs_den hv e] at hl
        exact ⟨s, l, ys, dn, rfl, .inl (SqL.of (r2.sub _ _ hl)), hz, okR.fin (v := V.str _) h2 rfl r2⟩
      · exact h2.elim
end
end RM

/-! RM: isinstance. -/
namespace RM
open PySem PySem.Spec PyProof.Rows L2

inductive Ty where
  | b (n : String) | o (c : Str)
  deriving DecidableEq
def builtinKinds : List String := ["NoneType", "bool", "int", "str", "tuple", "list", "dict"]
def askedTypes : List String := ["int", "bool", "str", "tuple", "list", "dict"]
def kindD : D → Option Ty
  | .non => some (.b "NoneType")
  | .bl _ => some (.b "bool")
  | .int _ => some (.b "int")
  | .str _ => some (.b "str")
  | .tup _ => some (.b "tuple")
  | .lst _ => some (.b "list")
  | .dic _ _ => some (.b "dict")
  | .ins c _ _ => some (.o c)
  | .mref _ => none
  | .scr _ => none
  | .xcp _ _ _ => none
def isKind : Ty → Ty → Bool
  | .b n, .b m => n == m || (n == "bool" && m == "int")
  | .o c, .o e => decide (c = e)
  | _, _ => false
def tyOk (cs : List Str) : Ty → Bool
  | .b n => decide (n ∈ askedTypes)
  | .o c => decide (c ∈ cs)
def kindOk (cs : List Str) : Ty → Bool
  | .b n => decide (n ∈ builtinKinds)
  | .o c => decide (c ∈ cs)
def isiD (cs : List Str) (ts : List Ty) (d : D) : M D := match kindD d with
  | some k => if kindOk cs k = true ∧ ts.all (tyOk cs) = true then pure (.bl (ts.any fun t => isKind k t)) else stuck
  | none => stuck
def tyVal (K : PySem.W.Frag) : Ty → Value
  | .b n => .type n
  | .o c => .ref (He.ga K c)
def tyV' (K : PySem.W.Frag) : Ty → V
  | .b n => .ty n
  | .o c => .ref (He.ga K c)
/-- what the head must tell of the plain classes -/
def clsB (K : PySem.W.Frag) (cs : List Str) : Bool := cs.all fun c =>
  (He.Fa.cls c).ok K && He.eqO (PySem.W.findIn K (.ref (He.ga K c)) "__class__") (some (some (.builtin "object.__class__"))) &&
  He.eqO (PySem.W.specialIn K (.builtin "object.__class__") "__get__") (some (some (.builtin "getset_descriptor.__get__"))) && decide (PySem.W.takesIn K (.builtin "object.__class__") = some true) &&
  decide (PySem.W.mroIn K (He.ga K c) (.type "object") = some true) && (askedTypes.all fun n => decide (PySem.W.kitOne K (.ref (He.ga K c)) (.type n) = some false)) &&
  (builtinKinds.all fun n => decide (PySem.W.kitOne K (.type n) (.ref (He.ga K c)) = some false)) && cs.all fun e => decide (PySem.W.kitOne K (.ref (He.ga K c)) (.ref (He.ga K e)) = some (decide (c = e)))
structure ClsT (K : PySem.W.Frag) (cs : List Str) : Prop where
  cl : ∀ c ∈ cs, Cls K (He.ga K c)
  ha : ∀ c ∈ cs, PySem.W.findIn K (.ref (He.ga K c)) "__class__" = some (some (.builtin "object.__class__"))
  hn : ∀ c ∈ cs, PySem.W.specialIn K (.builtin "object.__class__") "__get__" = some (some (.builtin "getset_descriptor.__get__"))
  ht : ∀ c ∈ cs, PySem.W.takesIn K (.builtin "object.__class__") = some true
  hm : ∀ c ∈ cs, PySem.W.mroIn K (He.ga K c) (.type "object") = some true
  ob : ∀ c ∈ cs, ∀ n ∈ askedTypes, PySem.W.kitOne K (.ref (He.ga K c)) (.type n) = some false
  bo : ∀ c ∈ cs, ∀ n ∈ builtinKinds, PySem.W.kitOne K (.type n) (.ref (He.ga K c)) = some false
  oo : ∀ c ∈ cs, ∀ e ∈ cs, PySem.W.kitOne K (.ref (He.ga K c)) (.ref (He.ga K e)) = some (decide (c = e))
theorem clsB_ok {K : PySem.W.Frag} {cs : List Str} (h : clsB K cs = true) : ClsT K cs := by
  have k : ∀ c ∈ cs, _ := fun c hc => List.all_eq_true.mp h c hc
  simp only [Bool.and_eq_true, List.all_eq_true, decide_eq_true_eq] at k
  exact ⟨fun c hc => He.cls_ok (k c hc).1.1.1.1.1.1.1, fun c hc => He.eqO_ok (k c hc).1.1.1.1.1.1.2, fun c hc => He.eqO_ok (k c hc).1.1.1.1.1.2, fun c hc => (k c hc).1.1.1.1.2, fun c hc => (k c hc).1.1.1.2,
    fun c hc n hn => (k c hc).1.1.2 n hn, fun c hc n hn => (k c hc).1.2 n hn, fun c hc e he => (k c hc).2 e he⟩
theorem kit_bb : ∀ n ∈ builtinKinds, ∀ m ∈ askedTypes, kitB n m = some (n == m || (n == "bool" && m == "int")) := by decide +kernel
theorem kit_all {K : PySem.W.Frag} {cs : List Str} (T : ClsT K cs) {k t : Ty} (hk : kindOk cs k = true) (ht : tyOk cs t = true) : PySem.W.kitOne K (tyVal K k) (tyVal K t) = some (isKind k t) := by
  cases k with
  | b n =>
    cases t with
    | b m => exact kit_ty (kit_bb n (of_decide_eq_true hk) m (of_decide_eq_true ht))
    | o c => exact T.bo c (of_decide_eq_true ht) n (of_decide_eq_true hk)
  | o c =>
    cases t with
    | b m => exact T.ob c (of_decide_eq_true hk) m (of_decide_eq_true ht)
    | o e => exact T.oo c (of_decide_eq_true hk) e (of_decide_eq_true ht)
theorem kit_anyD {K : PySem.W.Frag} {cs : List Str} (T : ClsT K cs) {k : Ty} (hk : kindOk cs k = true) : ∀ {ts : List Ty}, ts.all (tyOk cs) = true → PySem.W.kitAny K (tyVal K k) (ts.map (tyVal K)) = some (ts.any fun t => isKind k t)
  | [], _ => kitAny_nil
  | t :: ts, h => by
    rw [List.all_cons, Bool.and_eq_true] at h
    refine kitAny_cons (kit_all T hk h.1) (fun e => ?_) fun e => ?_
    · rw [List.any_cons, e, Bool.false_or]
      exact kit_anyD T hk h.2
    · rw [List.any_cons, e, Bool.true_or]
theorem SqL.tyx {K : PySem.W.Frag} {H : Hp} {a : Addr} {vs : List V} (h : SqL K H a vs) : TyX K H (.ref a) (.type "list") := by
  rcases h with (h | ⟨o, h⟩) | ⟨o, its, n, hk, hc, _⟩
  · exact .base (.lst h)
  · exact .base (.frz h)
  · exact .kList hk hc
theorem SqT.tyx {K : PySem.W.Frag} {H : Hp} {a : Addr} {vs : List V} (h : SqT K H a vs) : TyX K H (.ref a) (.type "tuple") := by
  rcases h with (h | ⟨o, h⟩) | ⟨o, its, n, hk, hc, _⟩
  · exact .base (.tup h)
  · exact .fTuple h
  · exact .kTuple hk hc
theorem kind_ty {K : PySem.W.Frag} {cs : List Str} {p : List (List Addr)} {S : Sto} {G H : Hp} (T : ClsT K cs) {d : D} {v : V} {k : Ty} (hd : Den K p G d v) (r : Rel0 K p S G H) (e : kindD d = some k) (hk : kindOk cs k = true) : TyX K H v (tyVal K k) := by
  cases d <;> cases e
  · cases (show v = _ from hd); exact .base .non
  · cases (show v = _ from hd); exact .base (.bl _)
  · cases (show v = _ from hd); exact .base (.int _)
  · cases (show v = _ from hd); exact .base (.str _)
  · obtain ⟨a, vs, rfl, ha, _⟩ := hd
    exact SqT.tyx (SqT.mono r.sub ha)
  · obtain ⟨a, vs, rfl, ha, _⟩ := hd
    exact .base (.lst (r.sub _ _ ha))
  · rename_i c ns fs
    obtain ⟨a, dx, vs, rfl, ha, _⟩ := hd
    have hc : c ∈ cs := of_decide_eq_true hk
    exact .base (.ins (r.sub _ _ ha) (T.cl c hc) (T.ha c hc) (T.hn c hc) (T.ht c hc) (T.hm c hc))
  · obtain ⟨a, vs, rfl, ha, _⟩ := hd
    exact .base (.dK (r.sub _ _ ha))
theorem clsV_of {K : PySem.W.Frag} (t : Ty) : ClsV (tyV' K t) (tyVal K t) := by
  cases t with
  | b n => exact .ty n
  | o c => exact .own _
section
variable {X : Cx} {W : WX} {a b b2 : Expr} {ma : DSt → M D} {pos p pt : Pos} {cs : List Str} {x1 : Nat}
theorem isi_split {K : PySem.W.Frag} {p : List (List Addr)} {G H : Hp} {S : Sto} {Wf : Value → Option Addr → Hp → Prop} {Q : VK} {ts : List Ty} {d : D} (h : okR (Den K) K p G H Wf (isiD cs ts d S) Q) : ∃ k, kindD d = some k ∧ kindOk cs k = true ∧ ts.all (tyOk cs) = true ∧ okR (Den K) K p G H Wf (.ok (.bl (ts.any fun t => isKind k t)) S) Q := by
  unfold isiD at h
  cases e : kindD d with
  | none => rw [e] at h; exact h.elim
  | some k =>
    rw [e] at h
    dsimp only at h
    by_cases hz : kindOk cs k = true ∧ ts.all (tyOk cs) = true
    · rw [if_pos hz] at h
      exact ⟨k, rfl, hz.1, hz.2, h⟩
    · rw [if_neg hz] at h
      exact h.elim
theorem de_isi (T : ClsT X.K cs) (t : Ty) (hg : Gl X "isinstance") (hm : X.mg "isinstance" = none) (ha : DE X W a ma) (hb : PE X b (tC (tyV' X.K t))) (hs : starEach [a, b] X.env = (false, eval a X.env) :: starEach [b] X.env := by rfl) (hs2 : starEach [b] X.env = [(false, eval b X.env)] := by rfl)
    (hpl : (backTo pos (starEach [b] X.env)).any (·.1) = false := by rfl) : DE X W (.Call (.Name "isinstance" p) [a, b] [] pos) (fun s => do let x ← ma s; isiD cs [t] x) := by
  refine PE.imp (pe_callB call_isi hg hm (by decide +kernel) (pa_cons ha (pa_cons hb pa_nil hs2) hs) (by decide) (by decide) hs hpl) fun σ H Q ⟨s, q, G, S, ow, r, h⟩ => ?_
  refine ⟨s, q, G, S, ow, r, okR.seq h fun d S1 v p1 G1 H1 e1 dn r1 x1 h1 => ?_⟩
  obtain ⟨k, e, hk, ht, h2⟩ := isi_split h1
  rw [List.all_cons, List.all_nil, Bool.and_true] at ht
  refine ⟨v, tyV' X.K t, tyVal X.K k, tyVal X.K t, isKind k t, rfl, clsV_of t, kind_ty T dn r1 e hk, kit_all T hk ht, ?_⟩
  have h3 : okR (Den X.K) X.K p1 G1 H1 (fun c d H' => W c d σ H') (.ok (.bl ([t].any fun t => isKind k t)) S1) Q := h2
  rw [List.any_cons, List.any_nil, Bool.or_false] at h3
  exact okR.fin (v := V.bl _) h3 rfl r1
theorem de_isi2 (T : ClsT X.K cs) (t u : Ty) (hg : Gl X "isinstance") (hm : X.mg "isinstance" = none) (ha : DE X W a ma) (hb : PE X b (tC (tyV' X.K t))) (hb2 : PE X b2 (tC (tyV' X.K u))) (hs : starEach [a, .Tuple [b, b2] x1 pt] X.env = (false, eval a X.env) :: starEach [.Tuple [b, b2] x1 pt] X.env := by rfl)
    (hs2 : starEach [.Tuple [b, b2] x1 pt] X.env = [(false, eval (.Tuple [b, b2] x1 pt) X.env)] := by rfl) (hs3 : starEach [b, b2] X.env = (false, eval b X.env) :: starEach [b2] X.env := by rfl) (hs4 : starEach [b2] X.env = [(false, eval b2 X.env)] := by rfl)
    (hpl : (backTo pos (starEach [.Tuple [b, b2] x1 pt] X.env)).any (·.1) = false := by rfl) : DE X W (.Call (.Name "isinstance" p) [a, .Tuple [b, b2] x1 pt] [] pos) (fun s => do let x ← ma s; isiD cs [t, u] x) := by
  refine PE.imp (pe_callB call_isiT hg hm (by decide +kernel) (pa_cons ha (pa_cons (pe_tup (pa_cons hb (pa_cons hb2 pa_nil hs4) hs3)) pa_nil hs2) hs) (by decide) (by decide) hs hpl) fun σ H Q ⟨s, q, G, S, ow, r, h⟩ => ?_
  refine ⟨s, q, G, S, ow, r, okR.seq h fun d S1 v p1 G1 H1 e1 dn r1 x1 h1 => ?_⟩
  obtain ⟨k, e, hk, ht, h2⟩ := isi_split h1
  refine ⟨by show 2 ≤ sizeLine; decide, fun l hl => ?_⟩
  have nw := r1.new (.tup [tyV' X.K t, tyV' X.K u]) hl
  have dn2 := dn.upd (o := .tup [tyV' X.K t, tyV' X.K u]) (r1.gfree hl)
  exact ⟨v, l, [tyV' X.K t, tyV' X.K u], tyVal X.K k, [t, u].map (tyVal X.K), _, rfl, upd_same, .cons (clsV_of t) (.cons (clsV_of u) .nil), kind_ty T dn2 nw.1 e hk, kit_anyD T hk ht, h2 (V.bl _) _ _ _ rfl nw.1 nw.2⟩
theorem pe_ty (n : String) {x : Str} (hg : Gl X x) (hm : X.mg x = none) (hv : bootBuiltins x = some (.type n)) (hn : x ≠ "__name__" := by decide) (hd : (x == ("__debug__" : Str)) = false := by decide) : PE X (.Name x pos) (tC (tyV' X.K (.b n))) := pe_bltn hg hm hv rfl hn hd
theorem pe_own (c : Str) (hg : Gl X c) (hm : X.mg c = some (.ref (He.ga X.K c))) (hd : (c == ("__debug__" : Str)) = false := by decide) : PE X (.Name c pos) (tC (tyV' X.K (.o c))) := pe_glob hg hm rfl hd
end
end RM

/-! RM: lists that a def's own name holds alone: made, changed, frozen. -/
namespace RM
open PySem PySem.Spec PyProof.Rows L2

/-! ### new lists -/
section
variable {X : Cx} {W : WX} {a b : Expr} {es : List Expr} {ma mb : DSt → M D} {ms : DSt → M (List D)} {pos p : Pos}
/-- a list is laid -/
theorem okF.lay {K : PySem.W.Frag} {p : List (List Addr)} {G H : Hp} {W : Value → Option Addr → Hp → Prop} {xs : List D} {vs : List V} {S : Sto} {Q : VK} {l : Addr} (h : okF K p G H W (.ok xs S) Q) (r : Rel0 K p S G H) (hl : H l = none) (dn : DenL K p G xs vs) : Q (.ref l) (upd H l (.lst vs)) := by
  have gl := r.gfree hl
  have pl : l ∉ p.flatten := fun z => r.dom z hl
  refine h l vs p G _ hl upd_same dn gl pl (r.own _ pl gl) ⟨Same.refl _, fun _ z _ => z, fun b o e _ => ?_, fun b e => ?_, [], by simp, by simp⟩
  · rw [upd_ne (ne_of_none e hl)]; exact e
  · by_cases q : b = l
    · subst q; rw [upd_same]; simp
    · rw [upd_ne q]; exact e
def sizeL (xs : List D) : M (List D) := if xs.length ≤ sizeLine then pure xs else stuck
theorem df_lst (h : DA X W es ms) : DF X W (.List es pos) (fun t => do let xs ← ms t; sizeL xs) := by
  refine PE.imp (pe_lst h) fun σ H Q ⟨t, p, G, S, ow, r, h⟩ => ?_
  refine ⟨t, p, G, S, ow, r, okF.seq h fun d S1 v p1 G1 H1 e1 dn r1 x1 h1 => ?_⟩
  unfold sizeL at h1
  split at h1
  · exact ⟨by rw [dn.length]; assumption, fun l hl => okF.lay h1 r1 hl dn⟩
  · exact h1.elim
def listF : D → M (List D)
  | .lst xs => pure xs
  | .tup xs => pure xs
  | _ => stuck
theorem df_list (hg : Gl X "list") (hm : X.mg "list" = none) (ha : DE X W a ma) (he : starEach [a] X.env = [(false, eval a X.env)] := by rfl) : DF X W (.Call (.Name "list" p) [a] [] pos) (fun t => do let x ← ma t; listF x) := by
  refine PE.imp (pe_callTy call_list_of hg hm (by decide +kernel) (pa_cons ha pa_nil he) (by decide) (by decide) he rfl) fun σ H Q ⟨t, p, G, S, ow, r, h⟩ => ?_
  refine ⟨t, p, G, S, ow, r, okF.seq h fun d S1 v p1 G1 H1 e1 dn r1 x1 h1 => ?_⟩
  cases d <;> try exact h1.elim
  · obtain ⟨l, vs, rfl, hl, hv⟩ := dn
    exact ⟨l, vs, rfl, .inr (SqT.mono r1.sub hl), fun q hq => okF.lay h1 r1 hq hv⟩
  · obtain ⟨l, vs, rfl, hl, hv⟩ := dn
    exact ⟨l, vs, rfl, .inl (SqL.of (r1.sub _ _ hl)), fun q hq => okF.lay h1 r1 hq hv⟩
def catF : D → D → M (List D)
  | .lst xs, .lst ys => if xs.length + ys.length ≤ sizeLine then pure (xs ++ ys) else stuck
  | _, _ => stuck
theorem df_add (ha : DE X W a ma) (hb : DE X W b mb) : DF X W (.BinOp a .Add b pos) (fun t => do let x ← ma t; let y ← mb t; catF x y) := by
  refine PE.imp (pe_op op_cat ha hb) fun σ H Q ⟨t, p, G, S, ow, r, h⟩ => ?_
  refine ⟨t, p, G, S, ow, r, okF.seq h fun d S1 v p1 G1 H1 e1 dn r1 x1 h1 => ?_⟩
  refine tD.next r x1 r1 (okF.seq h1 fun d2 S2 v2 p2 G2 H2 e2 dn2 r2 x2 h2 => ?_)
  cases d <;> try exact h2.elim
  cases d2 <;> try exact h2.elim
  unfold catF at h2
  dsimp only at h2
  split at h2
  · rename_i hz
    obtain ⟨l, vs, rfl, hl, hv⟩ := dn.mono x2.pp x2.g
    obtain ⟨k, us, rfl, hk, hu⟩ := dn2
    exact ⟨l, k, vs, us, rfl, rfl, r2.sub _ _ hl, r2.sub _ _ hk, by rw [hv.length, hu.length]; exact hz, fun q hq => okF.lay h2 r2 hq (hv.append hu)⟩
  · exact h2.elim
end
/-! ### slots that hold a list alone -/
def getO (t : DSt) (i : Nat) : M (List D) := match t[i]? with
  | some (some (.own xs)) => pure xs
  | _ => stuck
theorem getO_of (t : DSt) (i : Nat) : (∃ xs, t[i]? = some (some (.own xs)) ∧ getO t i = pure xs) ∨ getO t i = stuck := by
  unfold getO
  split
  · rename_i d e
    exact .inl ⟨d, e, rfl⟩
  · exact .inr rfl
theorem SlotsR.getO {K : PySem.W.Frag} {p : List (List Addr)} {G H : Hp} : ∀ {t : DSt} {σ : L2.St} {ow : List Addr} {i : Nat} {xs : List D}, SlotsR K p G H t σ ow → t[i]? = some (some (.own xs)) → ∃ a vs, σ[i]? = some (some (.ref a)) ∧ a ∈ ow ∧ H a = some (.lst vs) ∧ DenL K p G xs vs
  | [], _, _, _, _, _, e => by simp at e
  | _ :: _, _, _, 0, d, ⟨v, r, l, m, h1, h2, h3, h4⟩, e => by
    simp at e; subst e
    obtain ⟨a, vs, e1, e2, e3, e4⟩ := h3
    exact ⟨a, vs, by rw [h1, e2]; rfl, by rw [h2, e1]; simp, e3, e4⟩
  | _ :: _, _, _, i + 1, d, ⟨v, r, l, m, h1, h2, h3, h4⟩, e => by
    obtain ⟨a, vs, e1, e2, e3, e4⟩ := SlotsR.getO (i := i) h4 (by simpa using e)
    exact ⟨a, vs, by rw [h1]; simpa using e1, by rw [h2]; exact List.mem_append_right _ e2, e3, e4⟩
/-- the list at the i-th slot becomes another one (its object changed), the others stay -/
theorem SlotsR.putO {K : PySem.W.Frag} {p : List (List Addr)} {G H H' : Hp} {a : Addr} {ys : List D} {us : List V} (hk : ∀ b, b ≠ a → H' b = H b) (ha : H' a = some (.lst us)) (dn : DenL K p G ys us) : ∀ {t : DSt} {σ : L2.St} {ow : List Addr} {i : Nat} {xs : List D},
    SlotsR K p G H t σ ow → ow.Nodup → t[i]? = some (some (.own xs)) → σ[i]? = some (some (.ref a)) → SlotsR K p G H' (t.set i (some (.own ys))) σ ow
  | [], _, _, _, _, _, _, e, _ => by simp at e
  | _ :: _, _, _, 0, xs, ⟨v, r, l, m, h1, h2, h3, h4⟩, nd, e, eσ => by
    simp at e; subst e
    obtain ⟨b, vs, e1, e2, e3, e4⟩ := h3
    rw [h1] at eσ
    simp at eσ
    rw [e2] at eσ
    cases eσ
    subst e1
    rw [h2] at nd
    refine ⟨v, r, [a], m, h1, h2, ⟨a, us, rfl, e2, ha, dn⟩, SlotsR.mono ⟨[], by simp⟩ (Same.refl _) (fun b hb => hk b ?_) h4⟩
    rintro rfl
    simp at nd
    exact nd.1 hb
  | s :: _, _, _, i + 1, xs, ⟨v, r, l, m, h1, h2, h3, h4⟩, nd, e, eσ => by
    rw [h2] at nd
    rw [h1] at eσ
    have nd2 := (List.nodup_append.mp nd).2.1
    obtain ⟨a2, vs, q1, q2, q3, q4⟩ := SlotsR.getO (i := i) h4 (by simpa using e)
    have ea : a2 = a := by
      have : r[i]? = some (some (.ref a)) := by simpa using eσ
      rw [q1] at this
      cases this
      rfl
    subst ea
    refine ⟨v, r, l, m, h1, h2, SlotR.mono ⟨[], by simp⟩ (Same.refl _) (fun b hb => hk b ?_) h3, SlotsR.putO hk ha dn (i := i) h4 nd2 (by simpa using e) (by simpa using eσ)⟩
    rintro rfl
    exact (List.nodup_append.mp nd).2.2 b hb b q2 rfl
/-- an own list's object is changed -/
theorem RelF.putO {K : PySem.W.Frag} {n : Snap} {p : List (List Addr)} {G H : Hp} {S : Sto} {t : DSt} {σ : L2.St} {ow : List Addr} {i : Nat} {xs ys : List D} {a : Addr} {us : List V} (r : RelF K n p G S H t σ ow) (e : t[i]? = some (some (.own xs))) (eσ : σ[i]? = some (some (.ref a))) (ha : a ∈ ow) (dn : DenL K p G ys us) :
    RelF K n p G S (upd H a (.lst us)) (t.set i (some (.own ys))) σ ow := by
  have ga := r.rs.gn a ha
  have pa : a ∉ p.flatten := fun z => (List.nodup_append.mp r.rs.nd).2.2 a z a ha rfl
  have h0 := r.own a ha
  refine ⟨⟨r.rs.rel.own _ pa ga, SlotsR.putO (fun b hb => upd_ne hb) upd_same dn r.rs.sl (List.nodup_append.mp r.rs.nd).2.1 e eσ, r.rs.nd, r.rs.gn⟩, ⟨r.ext.g, r.ext.gn, fun b o e1 e2 => ?_, fun b e1 => ?_, r.ext.p⟩, r.own, r.fp, r.fg⟩
  · rw [upd_ne (ne_of_none e1 h0)]
    exact r.ext.h b o e1 e2
  · by_cases q : b = a
    · subst q; rw [upd_same]; simp
    · rw [upd_ne q]; exact r.ext.d b e1
/-- a slot gets a new list for itself -/
theorem RelF.newO {K : PySem.W.Frag} {n : Snap} {p p1 : List (List Addr)} {G H G1 H1 : Hp} {S S1 : Sto} {t : DSt} {σ : L2.St} {ow : List Addr} {i : Nat} {xs : List D} {a : Addr} {vs : List V} (r : RelF K n p G S H t σ ow) (hi : i < t.length) (e : Ext p G H p1 G1 H1) (r1 : Rel0 K p1 S1 G1 H1) (h0 : H a = none)
    (ha : H1 a = some (.lst vs)) (dn : DenL K p1 G1 xs vs) (ga : G1 a = none) (pa : a ∉ p1.flatten) : ∃ ow', RelF K n p1 G1 S1 H1 (t.set i (some (.own xs))) (σ.set i (some (.ref a))) ow' := by
  have r' := r.step e r1
  obtain ⟨u, l, b, eo, q⟩ := SlotsR.set (s := some (.own xs)) (v := some (V.ref a)) (l' := [a]) ⟨a, vs, rfl, rfl, ha, dn⟩ i hi r'.rs.sl
  subst eo
  have nin : a ∉ u ++ l ++ b := fun z => r.rs.sl.dom a z h0
  have nH : n.H a = none := by
    cases z : n.H a with
    | none => rfl
    | some o => exact absurd h0 (r.ext.d a (by rw [z]; simp))
  have nd := nodup_mid r'.rs.nd
  rw [List.append_nil] at nd
  have sub : ∀ x ∈ u ++ b, x ∈ u ++ l ++ b := fun x hx => by simp at hx ⊢; rcases hx with z | z <;> simp [z]
  refine ⟨u ++ [a] ++ b, ⟨r'.rs.rel, q, ?_, fun x hx => ?_⟩, r'.ext, fun x hx => ?_, r'.fp, r'.fg⟩
  · have key : (p1.flatten ++ (u ++ [a] ++ b)).Perm (a :: (p1.flatten ++ (u ++ b))) := by
      have h1 : (u ++ [a] ++ b).Perm (a :: (u ++ b)) := by
        rw [List.append_assoc]
        exact List.perm_middle
      exact (List.Perm.append_left _ h1).trans List.perm_middle
    refine key.symm.nodup (List.nodup_cons.mpr ⟨?_, nd⟩)
    rw [List.mem_append]
    rintro (z | z)
    · exact pa z
    · exact nin (sub a z)
  · simp only [List.append_assoc, List.mem_append, List.mem_cons, List.not_mem_nil, or_false] at hx
    rcases hx with z | z | z
    · exact r'.rs.gn x (by simp [z])
    · rw [z]; exact ga
    · exact r'.rs.gn x (by simp [z])
  · simp only [List.append_assoc, List.mem_append, List.mem_cons, List.not_mem_nil, or_false] at hx
    rcases hx with z | z | z
    · exact r'.own x (by simp [z])
    · rw [z]; exact nH
    · exact r'.own x (by simp [z])
section
variable {X : Cx} {W : Wf} {a b e : Expr} {es : List Expr} {ma mb : DSt → M D} {mf : DSt → M (List D)} {pos apos cpos : Pos} {rest : List Stmt} {u : DSt → M Ctl}
def setO (t : DSt) (i : Nat) (xs : List D) : Option DSt := if i < t.length then some (t.set i (some (.own xs))) else none
/-- the end of name = new list -/
theorem okS.newO {K : PySem.W.Frag} {n : Snap} {E : Ends} {p p1 : List (List Addr)} {G H G1 H1 : Hp} {S S1 : Sto} {t : DSt} {σ : L2.St} {ow : List Addr} {i : Nat} {xs : List D} {l : Addr} {vs : List V} (h : okS K W n ((do let t' ← liftO (setO t i xs); pure (.nx t') : M Ctl) S1) E) (r : RelF K n p G S H t σ ow) (e : Ext p G H p1 G1 H1) (r1 : Rel0 K p1 S1 G1 H1) (h0 : H l = none)
    (ha : H1 l = some (.lst vs)) (dn : DenL K p1 G1 xs vs) (ga : G1 l = none) (pa : l ∉ p1.flatten) : E.nx (σ.set i (some (.ref l))) H1 := by
  unfold setO at h
  by_cases hi : i < t.length
  · rw [if_pos hi] at h
    obtain ⟨ow', r'⟩ := r.newO hi e r1 h0 ha dn ga pa
    exact h p1 G1 H1 _ ow' r'
  · rw [if_neg hi] at h
    exact h.elim
theorem okS.seqF {K : PySem.W.Frag} {n : Snap} {E : Ends} {p : List (List Addr)} {G H : Hp} {S : Sto} {t : DSt} {σ : L2.St} {ow : List Addr} {m : M (List D)} {f : List D → M Ctl} {Q1 : VK}
    (h : okS K W n ((m >>= f) S) E) (r : RelF K n p G S H t σ ow)
    (k : ∀ xs S1 l vs p1 G1 H1, H l = none → H1 l = some (.lst vs) → DenL K p1 G1 xs vs → G1 l = none → l ∉ p1.flatten → Rel0 K p1 S1 G1 H1 → Ext p G H p1 G1 H1 → okS K W n (f xs S1) E → Q1 (.ref l) H1) : okF K p G H (fun c d H' => W c d H') (m S) Q1 := by
  have h' : okS K W n ((m S).andThen f) E := h
  cases e : m S with
  | ok d S1 =>
    rw [e] at h'
    exact fun l vs p1 G1 H1 h0 h1 h2 h3 h4 r1 x1 => k d S1 l vs p1 G1 H1 h0 h1 h2 h3 h4 r1 x1 h'
  | exc x S1 =>
    rw [e] at h'
    exact fun cls dd p1 G1 H1 a b c => h' cls dd p1 G1 H1 a b (r.ext.trans c)
  | stuck =>
    rw [e] at h'
    exact h'
/-- name = new list, for its own -/
theorem ds_setO (i : Nat) {x : Str} {pos' : Pos} (hN : X.N.Nodup) (hi : X.N[i]? = some x) (hx : Loc X.env.scope x) (he : DF X W.x e mf) (hs : swapsWith e (some (.Name x pos')) pos.line X.env = pure false := by rfl) (hf : X.fn x = true ∨ X.env.scope.names.lookup x = some .local := by first | exact .inl rfl | exact .inr rfl | assumption) :
    DS X W (.Assign [.Name x pos'] e pos) (fun t => do let xs ← mf t; let t' ← liftO (setO t i xs); pure (.nx t')) := by
  refine PS.imp (L2.ps_set hN hi hx he hs hf) fun E σ H ⟨n, t, p, G, S, ow, r, h⟩ => ?_
  exact ⟨t, p, G, S, ow, r.rs, okS.seqF h r fun xs S1 l vs p1 G1 H1 h0 h1 h2 h3 h4 r1 x1 hk => okS.newO hk r x1 r1 h0 h1 h2 h3 h4⟩
/-- name = [..] (a comprehension), frozen | for its own -/
theorem ds_setLc (i : Nat) {y : Str} {py : Pos} {elt tg iter : Expr} {ifs : List Expr} {scope : Scope} {own : List (Str × Nat)} {spos : Pos} {T : Tgt} {mi : DSt → M (List D)} {mt : DSt → M Bool} {me : DSt → M D} (hc : X.calm = true) (hN : X.N.Nodup) (hy : X.N[i]? = some y) (hyl : X.env.scope.names.lookup y = some .local)
    (hsw : swapsWith (.ListComp elt [⟨tg, iter, ifs, 0⟩] scope pos) (some (.Name y py)) spos.line X.env = pure true) (hi : DI X W.x tg iter mi) (ok : BlkOk X.N X.env.scope scope own)
    (hg : ∀ (s : Shared) (H : Hp) (C : Addr) (cl : List (Str × Addr)) (fp : List Addr), PG (X.blk s H scope (compEnvC scope cl C X.env) fp) tg (T.tg X.K)) (ht : ∀ (s : Shared) (H : Hp) (C : Addr) (cl : List (Str × Addr)) (fp : List Addr), PTs (X.blk s H scope (compEnvC scope cl C X.env) fp) ifs (tDT X.K W0 mt))
    (he : ∀ (s : Shared) (H : Hp) (C : Addr) (cl : List (Str × Addr)) (fp : List Addr), PE (X.blk s H scope (compEnvC scope cl C X.env) fp) elt (tD X.K W0 me)) (hT : ∀ i ∈ T.slots, i ∈ own.map (·.2)) (hs : ∀ x, foldedSetIterable iter X.env x = pure x := by intro _; rfl) :
    DS X W (.Assign [.Name y py] (.ListComp elt [⟨tg, iter, ifs, 0⟩] scope pos) spos) (fun t => do let d ← (do let xs ← (do let ds ← mi t; noE (lcD (own.map (·.2)) T mt me ds [] t)); pure (D.lst xs)); let t' ← liftO (setV t i d); pure (.nx t')) := by
  refine PS.imp (ps_setLc hc hN hy hyl hsw hi ok hg ht he hs) fun E σ H ⟨n, t, p, G, S, ow, r, h⟩ => ?_
  refine lc_read hT ⟨t, p, G, S, ow, r.rs, okR.toF (okS.seq h r fun d S1 v p1 G1 H1 e1 dn r1 x1 h1 => ?_)⟩
  unfold setV at h1
  by_cases hi : i < t.length
  · rw [if_pos hi] at h1
    obtain ⟨ow', r'⟩ := r1.set0 hi (s := some (.val d)) (v := some v) ⟨rfl, v, rfl, dn⟩
    exact h1 p1 G1 H1 _ ow' r'
  · rw [if_neg hi] at h1
    exact h1.elim
theorem ds_setLcO (i : Nat) {y : Str} {py : Pos} {elt tg iter : Expr} {ifs : List Expr} {scope : Scope} {own : List (Str × Nat)} {spos : Pos} {T : Tgt} {mi : DSt → M (List D)} {mt : DSt → M Bool} {me : DSt → M D} (hc : X.calm = true) (hN : X.N.Nodup) (hy : X.N[i]? = some y) (hyl : X.env.scope.names.lookup y = some .local)
    (hsw : swapsWith (.ListComp elt [⟨tg, iter, ifs, 0⟩] scope pos) (some (.Name y py)) spos.line X.env = pure true) (hi : DI X W.x tg iter mi) (ok : BlkOk X.N X.env.scope scope own)
    (hg : ∀ (s : Shared) (H : Hp) (C : Addr) (cl : List (Str × Addr)) (fp : List Addr), PG (X.blk s H scope (compEnvC scope cl C X.env) fp) tg (T.tg X.K)) (ht : ∀ (s : Shared) (H : Hp) (C : Addr) (cl : List (Str × Addr)) (fp : List Addr), PTs (X.blk s H scope (compEnvC scope cl C X.env) fp) ifs (tDT X.K W0 mt))
    (he : ∀ (s : Shared) (H : Hp) (C : Addr) (cl : List (Str × Addr)) (fp : List Addr), PE (X.blk s H scope (compEnvC scope cl C X.env) fp) elt (tD X.K W0 me)) (hT : ∀ i ∈ T.slots, i ∈ own.map (·.2)) (hs : ∀ x, foldedSetIterable iter X.env x = pure x := by intro _; rfl) :
    DS X W (.Assign [.Name y py] (.ListComp elt [⟨tg, iter, ifs, 0⟩] scope pos) spos) (fun t => do let xs ← (do let ds ← mi t; noE (lcD (own.map (·.2)) T mt me ds [] t)); let t' ← liftO (setO t i xs); pure (.nx t')) := by
  refine PS.imp (ps_setLc hc hN hy hyl hsw hi ok hg ht he hs) fun E σ H ⟨n, t, p, G, S, ow, r, h⟩ => ?_
  exact lc_read hT ⟨t, p, G, S, ow, r.rs, okS.seqF h r fun xs S1 l vs p1 G1 H1 h0 h1 h2 h3 h4 r1 x1 hk => okS.newO hk r x1 r1 h0 h1 h2 h3 h4⟩
/-! ### freezing -/
def freeze (i : Nat) (t : DSt) : DSt := match t[i]? with
  | some (some (.own xs)) => t.set i (some (.val (.lst xs)))
  | _ => t
theorem SlotsR.ice {K : PySem.W.Frag} {p : List (List Addr)} {G H : Hp} : ∀ {t : DSt} {σ : L2.St} {ow : List Addr} {i : Nat} {xs : List D}, SlotsR K p G H t σ ow → t[i]? = some (some (.own xs)) →
    ∃ a vs x y, ow = x ++ a :: y ∧ H a = some (.lst vs) ∧ DenL K p G xs vs ∧ (G a = none → SlotsR K p (upd G a (.lst vs)) H (t.set i (some (.val (.lst xs)))) σ (x ++ y))
  | [], _, _, _, _, _, e => by simp at e
  | _ :: _, _, _, 0, xs, ⟨v, r, l, m, h1, h2, h3, h4⟩, e => by
    simp at e; subst e
    obtain ⟨a, vs, e1, e2, e3, e4⟩ := h3
    refine ⟨a, vs, [], m, by rw [h2, e1]; rfl, e3, e4, fun ga => ?_⟩
    exact ⟨v, r, [], m, h1, rfl, ⟨rfl, _, e2, a, vs, rfl, upd_same, e4.upd ga⟩, SlotsR.mono ⟨[], by simp⟩ (Same.upd_of ga) (fun _ _ => rfl) h4⟩
  | s :: _, _, _, i + 1, xs, ⟨v, r, l, m, h1, h2, h3, h4⟩, e => by
    obtain ⟨a, vs, x, y, e1, e2, e3, e4⟩ := SlotsR.ice (i := i) h4 (by simpa using e)
    refine ⟨a, vs, l ++ x, y, by rw [h2, e1, List.append_assoc], e2, e3, fun ga => ?_⟩
    exact ⟨v, r, l, x ++ y, h1, by rw [List.append_assoc], SlotR.mono ⟨[], by simp⟩ (Same.upd_of ga) (fun _ _ => rfl) h3, e4 ga⟩
theorem RelF.ice {K : PySem.W.Frag} {n : Snap} {p : List (List Addr)} {G H : Hp} {S : Sto} {t : DSt} {σ : L2.St} {ow : List Addr} {i : Nat} {xs : List D} (r : RelF K n p G S H t σ ow) (e : t[i]? = some (some (.own xs))) : ∃ G' ow', RelF K n p G' S H (t.set i (some (.val (.lst xs)))) σ ow' := by
  obtain ⟨a, vs, x, y, eo, hH, dn, q⟩ := r.rs.sl.ice e
  have ha : a ∈ ow := by rw [eo]; simp
  have ga := r.rs.gn a ha
  have pa : a ∉ p.flatten := fun z => (List.nodup_append.mp r.rs.nd).2.2 a z a ha rfl
  have nH := r.own a ha
  have ndo := (List.nodup_append.mp r.rs.nd).2.1
  have sub : ∀ b ∈ x ++ y, b ∈ ow ∧ b ≠ a := fun b hb => by
    rw [eo] at ndo ⊢
    refine ⟨by simp at hb ⊢; rcases hb with z | z <;> simp [z], ?_⟩
    rintro rfl
    have := (List.perm_middle.nodup_iff.mp ndo)
    exact (List.nodup_cons.mp this).1 hb
  have sm : Same G (upd G a (.lst vs)) := Same.upd_of ga
  refine ⟨upd G a (.lst vs), x ++ y, ⟨⟨fun b o z => ?_, r.rs.rel.len, fun i as o e1 e2 => (r.rs.rel.mo i as o e1 e2).ice sm, r.rs.rel.nd, fun b hb => ?_⟩, q ga, ?_, fun b hb => ?_⟩, ⟨r.ext.g.trans sm, fun b h1 h2 => ?_, r.ext.h, r.ext.d, r.ext.p⟩, fun b hb => r.own b (sub b hb).1, r.fp, r.fg.trans sm⟩
  · by_cases w : b = a
    · subst w; rw [upd_same] at z; cases z; exact hH
    · rw [upd_ne w] at z; exact r.rs.rel.sub b o z
  · have : b ≠ a := by rintro rfl; exact pa hb
    rw [upd_ne this]; exact r.rs.rel.gn b hb
  · have : (p.flatten ++ (x ++ y)).Sublist (p.flatten ++ ow) := by
      rw [eo]
      exact List.Sublist.append (List.Sublist.refl _) (List.Sublist.append (List.Sublist.refl _) (List.sublist_cons_self a y))
    exact r.rs.nd.sublist this
  · rw [upd_ne (sub b hb).2]
    exact r.rs.gn b (sub b hb).1
  · have : b ≠ a := by rintro rfl; exact h2 nH
    rw [upd_ne this]; exact r.ext.gn b h1 h2
theorem ds_freeze (i : Nat) {sts : List Stmt} (h : DSs X W sts u) : DSs X W sts (fun t => u (freeze i t)) := by
  refine PSs.imp h fun E σ H ⟨n, t, p, G, S, ow, r, h⟩ => ?_
  have h : okS X.K W n (u (freeze i t) S) E := h
  unfold freeze at h
  split at h
  · rename_i xs e
    obtain ⟨G', ow', r'⟩ := r.ice e
    exact ⟨n, _, p, G', S, ow', r', h⟩
  · exact ⟨n, t, p, G, S, ow, r, h⟩
/-! ### changes -/
/-- the own list's reading: where it stands -/
theorem own_at {K : PySem.W.Frag} {n : Snap} {p : List (List Addr)} {G H : Hp} {S : Sto} {t : DSt} {σ : L2.St} {ow : List Addr} {i : Nat} (r : RelF K n p G S H t σ ow) {β : Type} {f : List D → M β} {Z : Res β → Prop} (hZ : ¬ Z .stuck) (h : Z ((do let xs ← getO t i; f xs : M β) S)) :
    ∃ xs a vs, t[i]? = some (some (.own xs)) ∧ σ[i]? = some (some (.ref a)) ∧ a ∈ ow ∧ H a = some (.lst vs) ∧ DenL K p G xs vs ∧ Z (f xs S) := by
  rcases getO_of t i with ⟨xs, e, q⟩ | q
  · rw [q] at h
    obtain ⟨a, vs, e1, e2, e3, e4⟩ := r.rs.sl.getO e
    exact ⟨xs, a, vs, e, e1, e2, e3, e4, h⟩
  · rw [q] at h
    exact absurd h hZ
/-- own things are as they were behind an expression -/
theorem own_later {K : PySem.W.Frag} {n : Snap} {p p1 : List (List Addr)} {G H G1 H1 : Hp} {S : Sto} {t : DSt} {σ : L2.St} {ow : List Addr} {a : Addr} {vs : List V} {xs : List D} (r : RelF K n p G S H t σ ow) (e : Ext p G H p1 G1 H1) (ha : a ∈ ow) (hH : H a = some (.lst vs)) (dn : DenL K p G xs vs) : H1 a = some (.lst vs) ∧ DenL K p1 G1 xs vs :=
  ⟨e.h a _ hH fun z => (List.nodup_append.mp r.rs.nd).2.2 a z a ha rfl, dn.mono e.pp e.g⟩
/-- x.append(e) -/
theorem ds_append (i : Nat) {x : Str} {px : Pos} (hN : X.N[i]? = some x := by rfl) (he : DE X W.x e ma) (hv : Vis X.env.scope x := by first | exact Or.inl rfl | exact Or.inr (Or.inl rfl) | exact Or.inr (Or.inr rfl)) (hd : (x == ("__debug__" : Str)) = false := by decide)
    (hcd : (x == ("__classdict__" : Str)) = false := by decide) (hst : starEach [e] X.env = [(false, eval e X.env)] := by rfl) (hfew : ((backTo cpos (starEach [e] X.env)).all (fun x => !x.1) && (backToKw cpos (keywordEach [] X.env)).all (fun x => x.1.isSome)
      && decide ([e].length + ([] : List Keyword).length + (if ([] : List Keyword).isEmpty then 0 else 1) < 30)) = true := by rfl) (hline : (apos.endLine == cpos.line) = true := by rfl) (hs : swapsWith (.Call (.Attribute (.Name x px) "append" apos) [e] [] cpos) none pos.line X.env = pure false := by rfl) :
    DS X W (.Expr (.Call (.Attribute (.Name x px) "append" apos) [e] [] cpos) pos) (fun t => do let xs ← getO t i; let y ← ma t; if xs.length < sizeLine then pure (.nx (t.set i (some (.own (xs ++ [y]))))) else stuck) := by
  refine PS.imp (ps_expr (pe_bm PySem.F.plainAttrs_list PySem.F.slot_list_append PySem.F.type_list_append mt_append (pe_var hN hv hd hcd) (pa_cons he pa_nil hst) rfl hfew hline hst rfl) hs) fun E σ H ⟨n, t, p, G, S, ow, r, h⟩ => ?_
  obtain ⟨xs, l, vs, e1, e2, e3, e4, e5, h⟩ := own_at (Z := fun z => okS X.K W n z E) r (fun z => z) h
  refine ⟨_, e2, .inl ⟨rfl, vs, SqL.of e4⟩, t, p, G, S, ow, r.rs, okS.seq h r fun y S1 v p1 G1 H1 ey dy r1 x1 h1 => ?_⟩
  obtain ⟨f1, f2⟩ := own_later r x1 e3 e4 e5
  by_cases hz : xs.length < sizeLine
  · have h2 : okS X.K W n ((if xs.length < sizeLine then pure (.nx (t.set i (some (.own (xs ++ [y]))))) else stuck : M Ctl) S1) E := h1
    rw [if_pos hz] at h2
    exact ⟨l, vs, v, rfl, rfl, f1, by rw [f2.length]; exact hz, h2 p1 G1 _ σ ow (r1.putO e1 e2 e3 (f2.append (DenL.one dy)))⟩
  · have h2 : okS X.K W n ((if xs.length < sizeLine then pure (.nx (t.set i (some (.own (xs ++ [y]))))) else stuck : M Ctl) S1) E := h1
    rw [if_neg hz] at h2
    exact h2.elim
def popO (xs : List D) : D → Option (D × List D)
  | .int k => if -(2 ^ 63) ≤ k ∧ k < 2 ^ 63 then (seqIndex? k xs.length).bind fun j => (xs[j]?).map fun y => (y, xs.eraseIdx j) else none
  | _ => none
theorem DenL.erase {K : PySem.W.Frag} {p : List (List Addr)} {G : Hp} : ∀ {zs : List D} {us : List V} (i : Nat), DenL K p G zs us → DenL K p G (zs.eraseIdx i) (us.eraseIdx i)
  | [], us, i, q => by
    cases (show us = [] from q)
    exact rfl
  | z :: zs, us, 0, ⟨w, r, e, q2, q3⟩ => by
    subst e
    exact q3
  | z :: zs, us, i + 1, ⟨w, r, e, q2, q3⟩ => by
    subst e
    exact ⟨w, _, rfl, q2, DenL.erase i q3⟩
theorem popO_ok {K : PySem.W.Frag} {p : List (List Addr)} {G : Hp} {xs : List D} {vs : List V} {d : D} {v : V} {y : D} {ys : List D} (dn : DenL K p G xs vs) (dd : Den K p G d v) (h : popO xs d = some (y, ys)) :
    ∃ k j u, v = .int k ∧ -(2 ^ 63) ≤ k ∧ k < 2 ^ 63 ∧ seqIndex? k vs.length = some j ∧ vs[j]? = some u ∧ Den K p G y u ∧ DenL K p G ys (vs.eraseIdx j) := by
  cases d <;> try cases h
  rename_i k
  unfold popO at h
  dsimp only at h
  by_cases hz : -(2 ^ 63) ≤ k ∧ k < 2 ^ 63
  · rw [if_pos hz] at h
    obtain ⟨j, e, h⟩ := Option.bind_eq_some_iff.mp h
    obtain ⟨w, e2, h⟩ := Option.map_eq_some_iff.mp h
    cases h
    obtain ⟨u, e3, e4⟩ := dn.get e2
    exact ⟨k, j, u, dd, hz.1, hz.2, by rw [dn.length]; exact e, e3, e4, dn.erase j⟩
  · rw [if_neg hz] at h
    cases h
/-- x.pop(e), its value dropped -/
theorem ds_popAt (i : Nat) {x : Str} {px : Pos} (hN : X.N[i]? = some x := by rfl) (he : DE X W.x e ma) (hv : Vis X.env.scope x := by first | exact Or.inl rfl | exact Or.inr (Or.inl rfl) | exact Or.inr (Or.inr rfl)) (hd : (x == ("__debug__" : Str)) = false := by decide)
    (hcd : (x == ("__classdict__" : Str)) = false := by decide) (hst : starEach [e] X.env = [(false, eval e X.env)] := by rfl) (hfew : ((backTo cpos (starEach [e] X.env)).all (fun x => !x.1) && (backToKw cpos (keywordEach [] X.env)).all (fun x => x.1.isSome)
      && decide ([e].length + ([] : List Keyword).length + (if ([] : List Keyword).isEmpty then 0 else 1) < 30)) = true := by rfl) (hline : (apos.endLine == cpos.line) = true := by rfl) (hs : swapsWith (.Call (.Attribute (.Name x px) "pop" apos) [e] [] cpos) none pos.line X.env = pure false := by rfl) :
    DS X W (.Expr (.Call (.Attribute (.Name x px) "pop" apos) [e] [] cpos) pos) (fun t => do let xs ← getO t i; let k ← ma t; let r ← liftO (popO xs k); pure (.nx (t.set i (some (.own r.2))))) := by
  refine PS.imp (ps_expr (pe_bm PySem.F.plainAttrs_list PySem.F.slot_list_pop PySem.F.type_list_pop mt_popAt (pe_var hN hv hd hcd) (pa_cons he pa_nil hst) rfl hfew hline hst rfl) hs) fun E σ H ⟨n, t, p, G, S, ow, r, h⟩ => ?_
  obtain ⟨xs, l, vs, e1, e2, e3, e4, e5, h⟩ := own_at (Z := fun z => okS X.K W n z E) r (fun z => z) h
  refine ⟨_, e2, .inl ⟨rfl, vs, SqL.of e4⟩, t, p, G, S, ow, r.rs, okS.seq h r fun y S1 v p1 G1 H1 ey dy r1 x1 h1 => ?_⟩
  obtain ⟨f1, f2⟩ := own_later r x1 e3 e4 e5
  cases eq : popO xs y with
  | none => rw [eq] at h1; exact h1.elim
  | some q =>
    rw [eq] at h1
    obtain ⟨w, ys⟩ := q
    obtain ⟨k, j, u, rfl, g1, g2, g3, g4, g5, g6⟩ := popO_ok f2 dy eq
    exact ⟨l, vs, k, j, u, rfl, rfl, f1, g1, g2, g3, g4, h1 p1 G1 _ σ ow (r1.putO e1 e2 e3 g6)⟩
/-- x[i] = e -/
def putO (xs : List D) (y : D) : D → Option (List D)
  | .int k => (ixN xs.length k).map fun j => xs.set j y
  | _ => none
theorem ds_setitem (i : Nat) {x : Str} {px pt : Pos} (hN : X.N[i]? = some x := by rfl) (he : DE X W.x e ma) (hb : DE X W.x b mb) (hv : Vis X.env.scope x := by first | exact Or.inl rfl | exact Or.inr (Or.inl rfl) | exact Or.inr (Or.inr rfl)) (hd : (x == ("__debug__" : Str)) = false := by decide)
    (hcd : (x == ("__classdict__" : Str)) = false := by decide) (ha : ∀ v, assign (.Subscript (.Name x px) b pt) X.env v = (do
      let ov ← holding [v] (eval (.Name x px) X.env)
      let iv ← holding [v, ov] (eval b X.env)
      standAt pt
      holding [v, ov, iv] (setItem ov iv v)
      release [v, ov, iv] []) := by intro _; rfl) (hs : swapsWithSole [.Subscript (.Name x px) b pt] e pos.line X.env = pure false := by rfl) (hw : swappedStores [.Subscript (.Name x px) b pt] e X.env = pure none := by rfl)
    (h1 : (assignEach [.Subscript (.Name x px) b pt] X.env).map (·.2) = [assign (.Subscript (.Name x px) b pt) X.env] := by rfl) :
    DS X W (.Assign [.Subscript (.Name x px) b pt] e pos) (fun t => do let y ← ma t; let xs ← getO t i; let k ← mb t; let zs ← liftO (putO xs y k); pure (.nx (t.set i (some (.own zs))))) := by
  refine PS.imp (ps_asg he (pg_sub (pe_var hN hv hd hcd) hb set_list ha) hs hw h1) fun E σ H ⟨n, t, p, G, S, ow, r, h⟩ => ?_
  refine ⟨t, p, G, S, ow, r.rs, okS.seq h r fun y S1 v p1 G1 H1 ey dy r1 x1 h1 => ?_⟩
  obtain ⟨xs, l, vs, e1, e2, e3, e4, e5, h1⟩ := own_at (Z := fun z => okS X.K W n z E) r1 (fun z => z) h1
  refine ⟨_, e2, t, p1, G1, S1, ow, r1.rs, okS.seq h1 r1 fun k S2 kv p2 G2 H2 ek dk r2 x2 h2 => ?_⟩
  obtain ⟨f1, f2⟩ := own_later r1 x2 e3 e4 e5
  cases k <;> try exact h2.elim
  rename_i k
  cases eq : ixN xs.length k with
  | none =>
    have h3 : okS X.K W n ((liftO ((ixN xs.length k).map fun j => xs.set j y) >>= fun zs => (pure (.nx (t.set i (some (.own zs)))) : M Ctl)) S2) E := h2
    rw [eq] at h3
    exact h3.elim
  | some j =>
    have h3 : okS X.K W n ((liftO ((ixN xs.length k).map fun j => xs.set j y) >>= fun zs => (pure (.nx (t.set i (some (.own zs)))) : M Ctl)) S2) E := h2
    rw [eq] at h3
    refine ⟨l, vs, k, j, rfl, dk, f1, by rw [f2.length]; exact eq, ?_⟩
    exact h3 p2 G2 _ σ ow (r2.putO e1 e2 e3 (f2.set (dy.mono x2.pp x2.g) j))
end
end RM

/-! RM: own classes: made by __init__, fields read and stored. -/
namespace RM
open PySem PySem.Spec PyProof.Rows L2

/-! ### data without the newest mutable things -/
mutual
def D.low (n : Nat) : D → Bool
  | .mref i => decide (i < n)
  | .tup xs => lowL n xs
  | .lst xs => lowL n xs
  | .ins _ _ fs => lowL n fs
  | .dic _ vs => lowL n vs
  | .non => true
  | .bl _ => true
  | .int _ => true
  | .str _ => true
  | .scr _ => true
  | .xcp _ _ fs => lowL n fs
def lowL (n : Nat) : List D → Bool
  | [] => true
  | d :: ds => D.low n d && lowL n ds
end
section
variable {K : PySem.W.Frag} {p r : List (List Addr)} {G : Hp}
mutual
theorem Den.shrink : ∀ {d : D} {v : V}, Den K (p ++ r) G d v → d.low p.length = true → Den K p G d v
  | .non, _, h, _ => h
  | .bl _, _, h, _ => h
  | .int _, _, h, _ => h
  | .str _, _, h, _ => h
  | .tup _, _, ⟨a, vs, h1, h2, h3⟩, e => ⟨a, vs, h1, h2, DenL.shrink h3 e⟩
  | .lst _, _, ⟨a, vs, h1, h2, h3⟩, e => ⟨a, vs, h1, h2, DenL.shrink h3 e⟩
  | .ins _ _ _, _, ⟨a, dx, vs, h1, h2, h4, h3⟩, e => ⟨a, dx, vs, h1, h2, h4, DenL.shrink h3 e⟩
  | .mref i, _, ⟨a, q, h1, h2⟩, e => by
    have hi : i < p.length := of_decide_eq_true e
    rw [List.getElem?_append_left hi] at h1
    exact ⟨a, q, h1, h2⟩
  | .dic _ _, _, ⟨a, vs, h1, h2, h4, h3⟩, e => ⟨a, vs, h1, h2, h4, DenL.shrink h3 e⟩
  | .scr _, _, h, _ => h
  | .xcp _ _ _, _, ⟨a, dd, vs, h1, h2, h3, h4, h5⟩, e => ⟨a, dd, vs, h1, h2, h3, h4, DenL.shrink h5 e⟩
theorem DenL.shrink : ∀ {ds : List D} {vs : List V}, DenL K (p ++ r) G ds vs → lowL p.length ds = true → DenL K p G ds vs
  | [], _, h, _ => h
  | _ :: _, _, ⟨v, q, h1, h2, h3⟩, e => by
    have e' := Bool.and_eq_true_iff.mp e
    exact ⟨v, q, h1, Den.shrink h2 e'.1, DenL.shrink h3 e'.2⟩
end
end
def moLow (n : Nat) : MO → Bool
  | .tape _ => true
  | .inst _ _ fs => lowL n fs
  | .tab _ _ => true
theorem MoAt.shrink {K : PySem.W.Frag} {p r : List (List Addr)} {G H : Hp} : ∀ {as : List Addr} {o : MO}, MoAt K (p ++ r) G H as o → moLow p.length o = true → MoAt K p G H as o
  | [_, _, _], .tape _, h, _ => h
  | [_], .inst _ _ _, ⟨n, dx, vs, h1, h2, h3⟩, e => ⟨n, dx, vs, h1, h2, h3.shrink e⟩
  | [_], .tab _ _, h, _ => h

/-! ### fields -/
structure FldT (K : PySem.W.Frag) (tab : List (Str × Str)) : Prop where
  cl : ∀ q ∈ tab, Cls K (He.ga K q.1)
  na : ∀ q ∈ tab, NoAttr K (He.ga K q.1) q.2
def fldB (K : PySem.W.Frag) (tab : List (Str × Str)) : Bool := tab.all fun q => (He.Fa.cls q.1).ok K && (He.Fa.noat q.1 q.2).ok K
theorem fldB_ok {K : PySem.W.Frag} {tab : List (Str × Str)} (h : fldB K tab = true) : FldT K tab :=
  ⟨fun q hq => He.cls_ok (Bool.and_eq_true_iff.mp (List.all_eq_true.mp h q hq)).1, fun q hq => He.noat_ok (Bool.and_eq_true_iff.mp (List.all_eq_true.mp h q hq)).2⟩
def lookF : List Str → List D → Str → Option D
  | n :: ns, d :: ds, f => if f = n then some d else lookF ns ds f
  | _, _, _ => none
theorem lookF_den {K : PySem.W.Frag} {p : List (List Addr)} {G : Hp} {f : Str} {d : D} : ∀ {ns : List Str} {fs : List D} {vs : List V}, DenL K p G fs vs → lookF ns fs f = some d → ∃ v, (ns.zip vs).lookup f = some v ∧ Den K p G d v
  | [], fs, _, _, e => by cases fs <;> cases e
  | _ :: _, [], _, _, e => by cases e
  | n :: ns, x :: xs, _, ⟨v, r, h1, h2, h3⟩, e => by
    subst h1
    unfold lookF at e
    show ∃ v', ((n, v) :: ns.zip r).lookup f = some v' ∧ _
    rw [List.lookup_cons]
    by_cases q : f = n
    · rw [if_pos q] at e
      cases e
      have : (f == n) = true := by rw [q]; exact beq_self_eq_true n
      rw [this]
      exact ⟨v, rfl, h2⟩
    · rw [if_neg q] at e
      have : (f == n) = false := beq_eq_false_iff_ne.mpr q
      rw [this]
      exact lookF_den h3 e
def fldD (tab : List (Str × Str)) (f : Str) (d : D) : M D := fun S => match d with
  | .ins c ns fs => if (c, f) ∈ tab then match lookF ns fs f with
      | some x => .ok x S
      | none => .stuck
    else .stuck
  | .mref i => match S[i]? with
    | some (.inst c ns fs) => if (c, f) ∈ tab then match lookF ns fs f with
        | some x => .ok x S
        | none => .stuck
      else .stuck
    | _ => .stuck
  | _ => .stuck
theorem Rel0.inst {K : PySem.W.Frag} {p : List (List Addr)} {S : Sto} {G H : Hp} {i : Nat} {c : Str} {ns : List Str} {fs : List D} {a : Addr} {r : List Addr} (rel : Rel0 K p S G H) (hp : p[i]? = some (a :: r)) (hs : S[i]? = some (.inst c ns fs)) : r = [] ∧ noLstL fs = true ∧ ∃ dx vs, H a = some (.ins (He.ga K c) dx (ns.zip vs)) ∧ vs.length = ns.length ∧ DenL K p G fs vs := by
  have m := rel.mo i _ _ hp hs
  cases r with
  | nil => exact ⟨rfl, m⟩
  | cons b r =>
    cases r with
    | nil => exact m.elim
    | cons c2 r =>
      cases r with
      | nil => exact m.elim
      | cons _ _ => exact m.elim
section
variable {X : Cx} {W : WX} {a : Expr} {ma : DSt → M D} {pos : Pos} {tab : List (Str × Str)}
theorem de_fld (T : FldT X.K tab) (f : Str) (ha : DE X W a ma) (hb : attributeBase a f X.env (eval a X.env) = eval a X.env := by rfl) : DE X W (.Attribute a f pos) (fun t => do let x ← ma t; fldD tab f x) := by
  refine PE.imp (pe_fld ha hb) fun σ H Q ⟨t, p, G, S, ow, r, h⟩ => ?_
  refine ⟨t, p, G, S, ow, r, okR.seq h fun d S1 v p1 G1 H1 e1 dn r1 x1 h1 => ?_⟩
  unfold fldD at h1
  cases d <;> try exact h1.elim
  · rename_i c ns fs
    dsimp only at h1
    by_cases hz : (c, f) ∈ tab
    · rw [if_pos hz] at h1
      cases e : lookF ns fs f with
      | none => rw [e] at h1; exact h1.elim
      | some y =>
        rw [e] at h1
        obtain ⟨l, dx, vs, rfl, hl, hlen, hv⟩ := dn
        obtain ⟨u, e2, e3⟩ := lookF_den hv e
        exact ⟨l, _, dx, _, u, rfl, r1.sub _ _ hl, T.cl _ hz, T.na _ hz, e2, okR.fin h1 e3 r1⟩
    · rw [if_neg hz] at h1
      exact h1.elim
  · rename_i i
    dsimp only at h1
    cases es : S1[i]? with
    | none => rw [es] at h1; exact h1.elim
    | some o =>
      rw [es] at h1
      cases o with
      | tape _ => exact h1.elim
      | tab _ _ => exact h1.elim
      | inst c ns fs =>
        dsimp only at h1
        by_cases hz : (c, f) ∈ tab
        · rw [if_pos hz] at h1
          cases e : lookF ns fs f with
          | none => rw [e] at h1; exact h1.elim
          | some y =>
            rw [e] at h1
            obtain ⟨l, q, hp, rfl⟩ := dn
            obtain ⟨rfl, _, dx, vs, hl, hlen, hv⟩ := r1.inst hp es
            obtain ⟨u, e2, e3⟩ := lookF_den hv e
            exact ⟨l, _, dx, _, u, rfl, hl, T.cl _ hz, T.na _ hz, e2, okR.fin h1 e3 r1⟩
        · rw [if_neg hz] at h1
          exact h1.elim
end
/-! ### self.f = e, a new field -/
def putFld (tab : List (Str × Str)) (f : Str) (d : D) (o : D) : M Unit := fun S => match o with
  | .mref i => match S[i]? with
    | some (.inst c ns fs) => if (c, f) ∈ tab ∧ f ∉ ns ∧ ns.length < 1000 ∧ noLst d = true then .ok () (S.set i (.inst c (ns ++ [f]) (fs ++ [d]))) else .stuck
    | _ => .stuck
  | _ => .stuck
theorem putF_new {f : Str} {v : V} : ∀ {ns : List Str} {vs : List V}, f ∉ ns → vs.length = ns.length → putF f v (ns.zip vs) = (ns ++ [f]).zip (vs ++ [v])
  | [], [], _, _ => rfl
  | [], _ :: _, _, h => by cases h
  | _ :: _, [], _, h => by cases h
  | n :: ns, u :: vs, hn, hl => by
    simp only [List.mem_cons, not_or] at hn
    show putF f v ((n, u) :: ns.zip vs) = (n, u) :: (ns ++ [f]).zip (vs ++ [v])
    unfold putF
    rw [if_neg (fun e => hn.1 e.symm), putF_new hn.2 (by simpa using hl)]
theorem lookup_zipNone {f : Str} : ∀ {ns : List Str} {vs : List V}, f ∉ ns → (ns.zip vs).lookup f = none
  | [], _, _ => rfl
  | _ :: _, [], _ => rfl
  | n :: ns, v :: vs, h => by
    simp only [List.mem_cons, not_or] at h
    show ((n, v) :: ns.zip vs).lookup f = none
    rw [List.lookup_cons, beq_eq_false_iff_ne.mpr h.1]
    exact lookup_zipNone h.2
theorem flat_apart {a : Addr} : ∀ {l : List (List Addr)} {i j : Nat} {x y : List Addr}, l.flatten.Nodup → l[i]? = some x → l[j]? = some y → i ≠ j → a ∈ x → a ∈ y → False
  | [], _, _, _, _, _, e, _, _, _, _ => by simp at e
  | z :: l, 0, 0, _, _, _, _, _, n, _, _ => n rfl
  | z :: l, 0, j + 1, x, y, nd, e1, e2, _, h1, h2 => by
    simp at e1; subst e1
    rw [List.flatten_cons, List.nodup_append] at nd
    exact nd.2.2 a h1 a (List.mem_flatten.mpr ⟨y, List.mem_of_getElem? (by simpa using e2), h2⟩) rfl
  | z :: l, i + 1, 0, x, y, nd, e1, e2, _, h1, h2 => by
    simp at e2; subst e2
    rw [List.flatten_cons, List.nodup_append] at nd
    exact nd.2.2 a h2 a (List.mem_flatten.mpr ⟨x, List.mem_of_getElem? (by simpa using e1), h1⟩) rfl
  | z :: l, i + 1, j + 1, x, y, nd, e1, e2, n, h1, h2 => by
    rw [List.flatten_cons, List.nodup_append] at nd
    exact flat_apart (i := i) (j := j) nd.2.1 (by simpa using e1) (by simpa using e2) (fun e => n (by rw [e])) h1 h2
theorem noLstL_app : ∀ {xs ys : List D}, noLstL xs = true → noLstL ys = true → noLstL (xs ++ ys) = true
  | [], _, _, h => h
  | x :: xs, _, h, h' => by
    have e := Bool.and_eq_true_iff.mp (show (noLst x && noLstL xs) = true from h)
    show (noLst x && noLstL (xs ++ _)) = true
    rw [e.1, noLstL_app e.2 h']; rfl
/-- a mutable thing is changed -/
theorem Rel0.put {K : PySem.W.Frag} {p : List (List Addr)} {S : Sto} {G H : Hp} {i : Nat} {c : Str} {ns ns' : List Str} {fs fs' : List D} {a dx : Addr} {vs' : List V} (r : Rel0 K p S G H) (hp : p[i]? = some [a]) (hs : S[i]? = some (.inst c ns fs)) (hl : vs'.length = ns'.length) (dn : DenL K p G fs' vs') (nl : noLstL fs' = true) :
    Rel0 K p (S.set i (.inst c ns' fs')) G (upd H a (.ins (He.ga K c) dx (ns'.zip vs'))) := by
  have ha : a ∈ p.flatten := List.mem_flatten.mpr ⟨[a], List.mem_of_getElem? hp, by simp⟩
  have ga := r.gn a ha
  have hi : i < S.length := (List.getElem?_eq_some_iff.mp hs).1
  refine ⟨fun b o e => ?_, by rw [List.length_set]; exact r.len, fun j as o e1 e2 => ?_, r.nd, r.gn⟩
  · rw [upd_ne (ne_of_none e ga)]
    exact r.sub b o e
  · by_cases hj : i = j
    · subst hj
      rw [hp] at e1
      cases e1
      rw [List.getElem?_set_self hi] at e2
      cases e2
      exact ⟨nl, dx, vs', upd_same, hl, dn⟩
    · rw [List.getElem?_set_ne hj] at e2
      refine (r.mo j as o e1 e2).mono ⟨[], by simp⟩ (Same.refl _) fun b hb => upd_ne ?_
      rintro rfl
      exact flat_apart r.nd hp e1 hj (by simp) hb
/-- what the caller keeps while a mutable thing is changed -/
theorem Ext.put {p : List (List Addr)} {G H : Hp} {i : Nat} {a : Addr} {r : List Addr} {o : HO} (hp : p[i]? = some (a :: r)) : Ext p G H p G (upd H a o) := by
  have ha : a ∈ p.flatten := List.mem_flatten.mpr ⟨a :: r, List.mem_of_getElem? hp, by simp⟩
  refine ⟨Same.refl _, fun _ h _ => h, fun b u e hb => ?_, fun b e => ?_, [], by simp, by simp⟩
  · have : b ≠ a := by rintro rfl; exact hb ha
    rw [upd_ne this]; exact e
  · by_cases q : b = a
    · subst q; rw [upd_same]; simp
    · rw [upd_ne q]; exact e
section
variable {X : Cx} {W : Wf} {a e : Expr} {ma me : DSt → M D} {pos pos' : Pos} {tab : List (Str × Str)}
theorem ds_fld (T : FldT X.K tab) (f : Str) (ha : DE X W.x a ma) (he : DE X W.x e me) (hs : swapsWith e (some (.Attribute a f pos')) pos.line X.env = pure false := by rfl) : DS X W (.Assign [.Attribute a f pos'] e pos) (fun t => do let d ← me t; let o ← ma t; putFld tab f d o; pure (.nx t)) := by
  refine PS.imp (ps_fld ha he hs) fun E σ H ⟨n, t, p, G, S, ow, r, h⟩ => ?_
  refine ⟨t, p, G, S, ow, r.rs, okS.seq h r fun y S1 v p1 G1 H1 ey dy r1 x1 h1 => ?_⟩
  refine ⟨t, p1, G1, S1, ow, r1.rs, okS.seq h1 r1 fun o S2 ov p2 G2 H2 eo dO r2 x2 h2 => ?_⟩
  have h3 : okS X.K W n ((putFld tab f y o S2).andThen fun _ => pure (.nx t)) E := h2
  unfold putFld at h3
  cases o <;> try exact h3.elim
  rename_i i
  dsimp only at h3
  cases es : S2[i]? with
  | none => rw [es] at h3; exact h3.elim
  | some ob =>
    rw [es] at h3
    cases ob with
    | tape _ => exact h3.elim
    | tab _ _ => exact h3.elim
    | inst c ns fs =>
      dsimp only at h3
      by_cases hz : (c, f) ∈ tab ∧ f ∉ ns ∧ ns.length < 1000 ∧ noLst y = true
      · rw [if_pos hz] at h3
        obtain ⟨l, q, hp, rfl⟩ := dO
        obtain ⟨rfl, nl, dx, vs, hl, hlen, hv⟩ := r2.rs.rel.inst hp es
        refine ⟨l, _, dx, _, rfl, hl, T.cl _ hz.1, T.na _ hz.1, ?_, ?_⟩
        · rw [List.length_zip, hlen, Nat.min_self]; exact hz.2.2.1
        · rw [putF_new hz.2.1 hlen]
          have rr := r2.rs.rel.put (dx := dx) (ns' := ns ++ [f]) (fs' := fs ++ [y]) (vs' := vs ++ [v]) hp es (by rw [List.length_append, List.length_append, hlen]; rfl) (hv.append (DenL.one (dy.mono x2.pp x2.g))) (noLstL_app nl (by unfold noLstL; rw [hz.2.2.2]; rfl))
          exact h3 p2 G2 _ σ ow (r2.step (Ext.put hp) rr)
      · rw [if_neg hz] at h3
        exact h3.elim
end
/-! ### C(..): a new instance, then __init__ -/
def mkD (c : Str) (g : List D → M D) (ds : List D) : M D := fun S => match g (.mref S.length :: ds) (S ++ [.inst c [] []]) with
  | .ok .non S' => match S'.drop S.length with
    | [.inst c' ns fs] => if c' = c ∧ lowL S.length fs = true ∧ (S'.take S.length).all (moLow S.length) = true then .ok (.ins c ns fs) (S'.take S.length) else .stuck
    | _ => .stuck
  | .exc e S' => if S'.length = S.length + 1 ∧ lowL S.length e.fs = true ∧ (S'.take S.length).all (moLow S.length) = true then .exc e (S'.take S.length) else .stuck
  | _ => .stuck
theorem guards_make {A : Around} {C : Addr} {us : List Value} {kw : List (Str × Value)} : (A.under (.builtin "type.__call__" ⟨.ref C :: us, kw⟩)).guards = A.guards := by
  first | rfl | simp [Around.under, Code.guards, Code.isGuard, guardIds, pushGuards]
/-- the state at the entry of __init__ -/
theorem Rel0.born {K : PySem.W.Frag} {p : List (List Addr)} {S : Sto} {G H : Hp} {c : Str} {x dx : Addr} (r : Rel0 K p S G H) (hx : H x = none) (hdx : H dx = none) (ne : dx ≠ x) :
    Rel0 K (p ++ [[x]]) (S ++ [.inst c [] []]) G (upd (upd H dx (.own x)) x (.ins (He.ga K c) dx [])) ∧ Ext p G H (p ++ [[x]]) G (upd (upd H dx (.own x)) x (.ins (He.ga K c) dx [])) := by
  have gx := r.gfree hx
  have px : x ∉ p.flatten := fun z => r.dom z hx
  have pd : dx ∉ p.flatten := fun z => r.dom z hdx
  have far : ∀ b o, H b = some o → upd (upd H dx (.own x)) x (.ins (He.ga K c) dx []) b = some o := fun b o e => by
    rw [upd_ne (ne_of_none e hx), upd_ne (ne_of_none e hdx)]; exact e
  refine ⟨⟨fun b o e => far b o (r.sub b o e), by rw [List.length_append, List.length_append, r.len]; rfl, fun i as o e1 e2 => ?_, ?_, fun b hb => ?_⟩, ⟨Same.refl _, fun _ h _ => h, fun b o e _ => far b o e, fun b e => ?_, [[x]], rfl, fun b hb => ?_⟩⟩
  · by_cases hi : i < p.length
    · rw [List.getElem?_append_left hi] at e1
      rw [List.getElem?_append_left (by rw [← r.len]; exact hi)] at e2
      refine (r.mo i as o e1 e2).mono ⟨[[x]], rfl⟩ (Same.refl _) fun b hb => ?_
      have hb' : b ∈ p.flatten := List.mem_flatten.mpr ⟨as, List.mem_of_getElem? e1, hb⟩
      rw [upd_ne (by rintro rfl; exact px hb'), upd_ne (by rintro rfl; exact pd hb')]
    · have e3 : i = p.length := by
        have := (List.getElem?_eq_some_iff.mp e1).1
        rw [List.length_append, List.length_singleton] at this
        omega
      subst e3
      rw [List.getElem?_append_right (Nat.le_refl _), Nat.sub_self] at e1
      rw [r.len, List.getElem?_append_right (Nat.le_refl _), Nat.sub_self] at e2
      cases e1
      cases e2
      exact ⟨rfl, dx, [], upd_same, rfl, rfl⟩
  · rw [List.flatten_append, List.nodup_append]
    exact ⟨r.nd, by simp, fun b hb b2 hb2 => by simp at hb2; rintro rfl; rw [hb2] at hb; exact px hb⟩
  · rw [List.flatten_append, List.mem_append] at hb
    rcases hb with z | z
    · exact r.gn b z
    · simp at z; rw [z]; exact gx
  · cases q : H b with
    | none => exact absurd q e
    | some o => rw [far b o q]; simp
  · simp at hb; rw [hb]; exact hx
/-- the instance is made: it leaves the store, frozen | given up -/
theorem Rel0.leave {K : PySem.W.Frag} {p : List (List Addr)} {S' : Sto} {G G' H' : Hp} {x : Addr} (r : Rel0 K (p ++ [[x]]) S' G' H') (sm : Same G' G) (gp : ∀ b ∈ p.flatten, G b = none) (sub : Same G H') (low : (S'.take p.length).all (moLow p.length) = true) : Rel0 K p (S'.take p.length) G H' := by
  have hl : S'.length = p.length + 1 := by rw [← r.len, List.length_append, List.length_singleton]
  refine ⟨sub, by rw [List.length_take]; omega, fun i as o e1 e2 => ?_, ?_, gp⟩
  · have hi := (List.getElem?_eq_some_iff.mp e1).1
    rw [List.getElem?_take_of_lt hi] at e2
    have lo : moLow p.length o = true := List.all_eq_true.mp low o (List.mem_of_getElem? (i := i) (by rw [List.getElem?_take_of_lt hi]; exact e2))
    exact ((r.mo i as o (by rw [List.getElem?_append_left hi]; exact e1) e2).shrink lo).ice sm
  · have nd := r.nd
    rw [List.flatten_append, List.nodup_append] at nd
    exact nd.1
theorem mkD_ok {K : PySem.W.Frag} {c : Str} {g : List D → M D} {ds : List D} {vs : List V} {p : List (List Addr)} {S : Sto} {G H : Hp} {W : Value → Option Addr → Hp → Prop} {Q : VK} {x dx : Addr} (dn : DenL K p G ds vs) (r : Rel0 K p S G H) (hx : H x = none) (hdx : H dx = none) (ne : dx ≠ x)
    (h : okR (Den K) K p G H W (mkD c g ds S) Q) : DenL K (p ++ [[x]]) G (.mref S.length :: ds) (.ref x :: vs) ∧
      okR (Den K) K (p ++ [[x]]) G (upd (upd H dx (.own x)) x (.ins (He.ga K c) dx [])) W (g (.mref S.length :: ds) (S ++ [.inst c [] []])) (fun v H2 => v = .non ∧ Q (.ref x) H2) := by
  obtain ⟨r2, x2⟩ := r.born (c := c) hx hdx ne
  have px : x ∉ p.flatten := fun z => r.dom z hx
  refine ⟨DenL.cons ⟨x, [], ?_, rfl⟩ (dn.mono ⟨[[x]], rfl⟩ (Same.refl _)), ?_⟩
  · rw [← r.len, List.getElem?_append_right (Nat.le_refl _), Nat.sub_self]
    rfl
  unfold mkD at h
  -- a later state has the same things
  have same : ∀ {p' : List (List Addr)} {S' : Sto} {G' H' : Hp}, Rel0 K p' S' G' H' → Ext (p ++ [[x]]) G (upd (upd H dx (.own x)) x (.ins (He.ga K c) dx [])) p' G' H' → S'.length = S.length + 1 → p' = p ++ [[x]] := by
    intro p' S' G' H' r' x' hl
    obtain ⟨q, e, _⟩ := x'.p
    have : q = [] := by
      have h1 := r'.len
      rw [e, List.length_append, List.length_append, List.length_singleton, hl, ← r.len] at h1
      exact List.length_eq_zero_iff.mp (by omega)
    rw [e, this, List.append_nil]
  have later : ∀ {G' H' : Hp}, Ext (p ++ [[x]]) G (upd (upd H dx (.own x)) x (.ins (He.ga K c) dx [])) (p ++ [[x]]) G' H' → Ext p G H p G' H' := by
    intro G' H' x'
    have t := x2.trans x'
    exact ⟨t.g, t.gn, t.h, t.d, [], by simp, by simp⟩
  cases e : g (.mref S.length :: ds) (S ++ [.inst c [] []]) with
  | stuck => rw [e] at h; exact h
  | exc z S' =>
    rw [e] at h
    dsimp only at h
    by_cases hz : S'.length = S.length + 1 ∧ lowL S.length z.fs = true ∧ (S'.take S.length).all (moLow S.length) = true
    · rw [if_pos hz] at h
      intro cls dd p' G' H' ea r' x'
      have ep := same r' x' hz.1
      subst ep
      rw [← r.len] at hz h
      have gp : ∀ b ∈ p.flatten, G' b = none := fun b hb => r'.gn b (by rw [List.flatten_append]; exact List.mem_append_left _ hb)
      refine h cls dd p G' H' ?_ (r'.leave (Same.refl _) gp r'.sub hz.2.2) (later x')
      cases dd with
      | none => exact ea
      | some d =>
        obtain ⟨e1, us, e2, e3, e4⟩ := ea
        exact ⟨e1, us, e2, e3, e4.shrink hz.2.1⟩
    · rw [if_neg hz] at h
      exact h.elim
  | ok d S' =>
    rw [e] at h
    cases d <;> try exact h.elim
    dsimp only at h
    cases ed : S'.drop S.length with
    | nil => rw [ed] at h; exact h.elim
    | cons o rest =>
      rw [ed] at h
      cases o with
      | tape _ => cases rest <;> exact h.elim
      | tab _ _ => cases rest <;> exact h.elim
      | inst c2 ns fs =>
        cases rest with
        | cons _ _ => exact h.elim
        | nil =>
          dsimp only at h
          by_cases hz : c2 = c ∧ lowL S.length fs = true ∧ (S'.take S.length).all (moLow S.length) = true
          · rw [if_pos hz] at h
            obtain ⟨rfl, z2, z3⟩ := hz
            intro v p' G' H' dv r' x'
            have hl : S'.length = S.length + 1 := by
              have := congrArg List.length ed
              rw [List.length_drop, List.length_singleton] at this
              omega
            have ep := same r' x' hl
            subst ep
            rw [← r.len] at z2 z3 h ed
            refine ⟨dv, ?_⟩
            have es : S'[p.length]? = some (.inst c2 ns fs) := by
              have := congrArg (fun l : List MO => l[0]?) ed
              simp only [List.getElem?_drop, Nat.add_zero] at this
              exact this
            obtain ⟨_, _, dx2, us, k1, k2, k3⟩ := r'.inst (i := p.length) (a := x) (r := []) (by rw [List.getElem?_append_right (Nat.le_refl _), Nat.sub_self]; rfl) es
            have gx : G' x = none := r'.gn x (by rw [List.flatten_append]; simp)
            have sm : Same G' (upd G' x (.ins (He.ga K c2) dx2 (ns.zip us))) := Same.upd_of gx
            have lx := later x'
            refine h (.ref x) p (upd G' x (.ins (He.ga K c2) dx2 (ns.zip us))) H' ⟨x, dx2, us, rfl, upd_same, k2, (k3.shrink z2).upd gx⟩ (r'.leave sm (fun b hb => ?_) (fun b o q => ?_) z3) ⟨lx.g.trans sm, fun b h1 h2 => ?_, lx.h, lx.d, lx.p⟩
            · rw [upd_ne (by rintro rfl; exact px hb)]
              exact r'.gn b (by rw [List.flatten_append]; exact List.mem_append_left _ hb)
            · by_cases w : b = x
              · subst w; rw [upd_same] at q; cases q; exact k1
              · rw [upd_ne w] at q; exact r'.sub b o q
            · rw [upd_ne (by rintro rfl; exact h2 hx)]
              exact lx.gn b h1 h2
          · rw [if_neg hz] at h
            exact h.elim
section
variable {X : Cx} {W : WX} {a b c : Expr} {es : List Expr} {kw : List Keyword} {ms mk : DSt → M (List D)} {pos p : Pos} {k : Nat} {f : Addr} {fd : FuncData} {ps ks : List Str} {g : List D → M D} {dvs : List V} {ds : List Value} {dds : List D} {sp : Sp}
theorem make_G {pins : List (Addr × Obj)} {σ : L2.St} {H : Hp} {s : Shared} {Q : VK} {C : Addr} {us : List Value} {kv : List (Str × Value)} {zs : List Value} {vs : List V} (M : Mk X.K C f) (F : FnG X.prog X.w X.K X.mg X.base k f fd ps sp) (hr : Room (k + 1) X.A) (hG : X.A.guards = some []) (tk : Takes X W)
    (I : Inv X pins σ H s) (bd : ∀ (s : Shared) (u : Value), X.K.In s.heap → BindsTo s fd ⟨u :: us, kv⟩ (ps.zip (u :: zs))) (r : Vals vs zs)
    (h : ∀ x dx, H x = none → H dx = none → dx ≠ x → sp (.ref x :: vs) (upd (upd H dx (.own x)) x (.ins C dx [])) (fun v H2 => v = .non ∧ Q (.ref x) H2) fun c d H' => W c d σ H') :
    wpAny (model X.prog X.w) X.A (call (.ref C) us kv) (EP X pins σ Q) X.xe s := by
  have hq := h (s.heap.objs.size + 1) s.heap.objs.size (I.hok.fresh (Nat.le_succ _)) (I.hok.fresh (Nat.le_refl _)) (Nat.ne_of_lt (Nat.lt_succ_self _))
  have J := Inv.made (C := C) I
  have go := F.go _ X.stack _ _ ⟨Value.ref (s.heap.objs.size + 1) :: us, kv⟩ (Value.ref (s.heap.objs.size + 1) :: zs) (V.ref (s.heap.objs.size + 1) :: vs) _ _ (guards_make (A := X.A) (C := C) (us := us) (kw := kv) ▸ hG) (hr.make C us kv) (J.env0.make C us kv) (bd _ _ J.kIn) (.cons rfl r) hq
  refine wpAny_call (make_map (f := f) I.kIn M.makes M.init (beq_iff_eq.mp M.fn) (codeAny_mono go fun q s2 hs => ?_))
  match q, hs with
  | .error e, hs => exact tk e s2 (XE.of_call J (fun _ _ _ z => z) hs)
  | .ok (.ret u), hs =>
    obtain ⟨v, H2, J2, rv, ev, q2⟩ := J.after hs
    subst ev
    exact ⟨rv, ⟨V.ref (s.heap.objs.size + 1), H2, J2, rfl, q2⟩⟩
  | .ok .next, hs => exact False.elim hs
  | .ok .brk, hs => exact False.elim hs
  | .ok .cont, hs => exact False.elim hs
def argsM (n : Nat) (c : Str) (g : List D → M D) (xs : List D) : M D := if xs.length + 1 = n then mkD c g xs else stuck
/-- C(e, ..) -/
theorem de_make (c : Str) (M : Mk X.K (He.ga X.K c) f) (F : FnD X.prog X.w X.K X.mg X.base k f fd ps g) (hr : Room (k + 1) X.A) (hG : X.A.guards = some []) (tk : Takes X W) (hg : Gl X c) (hm : X.mg c = some (.ref (He.ga X.K c))) (hb : Binds X.K fd ps ds) (hd : Vals dvs ds) (hdd : ∀ q G, DenL X.K q G dds dvs)
    (ha : DA X W (a :: es) ms) (hdb : (c == ("__debug__" : Str)) = false := by decide) (he : starEach (a :: es) X.env = (false, eval a X.env) :: starEach es X.env := by rfl) (hpl : (backTo pos (starEach es X.env)).any (·.1) = false := by rfl) :
    DE X W (.Call (.Name c p) (a :: es) [] pos) (fun t => do let xs ← ms t; argsM ps.length c g (xs ++ dds)) := by
  refine ⟨fun pins s σ H Q I ⟨t, q, G, S, ow, r, h⟩ => ?_⟩
  refine wpAny_Call_Name_kw (ld_glob I hg hm (PySem.W.callWith_K (h₀ := X.base) I.ok.mod.kin M.kp ?_ he hpl) hdb)
  refine thn (ha.run pos pins s σ H (fun vs H1 => (vs ++ dvs).length + 1 = ps.length ∧ ∀ x dx, H1 x = none → H1 dx = none → dx ≠ x → spD X.K ps.length g (.ref x :: (vs ++ dvs)) (upd (upd H1 dx (.own x)) x (.ins (He.ga X.K c) dx [])) (fun v H2 => v = .non ∧ Q (.ref x) H2) fun c d H' => W c d σ H') I ⟨t, q, G, S, ow, r, okR.seq h fun d S1 v p1 G1 H1 e1 dn r1 x1 h1 => ?_⟩) fun us s1 ⟨vs, H1, I1, rv, l1, q1⟩ => ⟨I1.kIn, ?_⟩
  · have dn2 := dn.append (hdd p1 G1)
    unfold argsM at h1
    by_cases hz : (d ++ dds).length + 1 = ps.length
    · rw [if_pos hz] at h1
      refine ⟨by rw [dn2.length]; exact hz, fun x dx hx hdx ne => ?_⟩
      obtain ⟨k1, k2⟩ := mkD_ok dn2 r1 hx hdx ne h1
      exact ⟨_, _, _, _, by rw [List.length_cons]; exact hz, k1, (r1.born (c := c) hx hdx ne).1, k2⟩
    · rw [if_neg hz] at h1
      exact h1.elim
  · have r2 := rv.append hd
    refine make_G (zs := us ++ ds) M F hr hG tk I1 (fun s2 u kin => hb s2 (u :: us) kin ?_) r2 q1
    rw [List.cons_append, List.length_cons, ← r2.length]
    exact l1
end
end RM

/-! RM: the source of draws (a dict with two lists), while. -/
namespace RM
open PySem PySem.Spec PyProof.Rows L2

/-! ### while -/
def whileD (c : DSt → M Bool) (b : DSt → M Ctl) : Nat → DSt → M Ctl
  | 0, _ => stuck
  | n + 1, t => do
    if ← c t then do
      let r ← b t
      match r with
      | .nx t' => whileD c b n t'
      | .ct t' => whileD c b n t'
      | .bk t' => pure (.nx t')
      | .rt x => pure (.rt x)
      | .rl x => pure (.rl x)
    else pure (.nx t)
section
variable {X : Cx} {W : Wf} {c : Expr} {body : List Stmt} {mc : DSt → M Bool} {mb : DSt → M Ctl} {pos : Pos}
theorem ds_while (fuel : Nat) (hp : PassesOwn (model X.prog X.w) X.A X.env X.xe) (hc : DT X W.x c mc) (hb : DSs X W body mb) : DS X W (.While c body [] pos) (fun t => whileD mc mb fuel t) := by
  refine PS.imp (ps_while hp hc hb) fun E σ H ⟨n, t, p, G, S, ow, r, h⟩ => ?_
  refine ⟨fun k σ' H' => ∃ t' p' G' S' ow', RelF X.K n p' G' S' H' t' σ' ow' ∧ okS X.K W n (whileD mc mb k t' S') E, ⟨fuel, t, p, G, S, ow, r, h⟩, ?_⟩
  rintro k σ1 H1 ⟨t1, p1, G1, S1, ow1, r1, h1⟩
  cases k with
  | zero => exact h1.elim
  | succ k =>
    have h2 : okS X.K W n ((mc t1 >>= _) S1) E := h1
    refine ⟨t1, p1, G1, S1, ow1, r1.rs, okS.seq h2 r1 fun b S2 bv p2 G2 H2 eb db r2 x2 h3 => ?_⟩
    cases db
    cases b with
    | false => exact iteF (h3 p2 G2 H2 σ1 ow1 r2)
    | true =>
      refine iteT ⟨fun σ3 H3 => ∃ t3 p3 G3 S3 ow3, RelF X.K n p3 G3 S3 H3 t3 σ3 ow3 ∧ okS X.K W n (whileD mc mb k t3 S3) E, fun σ3 H3 q => ⟨k, Nat.lt_succ_self k, q⟩, n, t1, p2, G2, S2, ow1, r2, ?_⟩
      have h4 : okS X.K W n ((mb t1 S2).andThen _) E := h3
      cases em : mb t1 S2 with
      | stuck => rw [em] at h4; exact h4
      | exc z S3 => rw [em] at h4; exact h4
      | ok q S3 =>
        rw [em] at h4
        cases q with
        | nx t3 => exact fun p4 G4 H4 σ4 ow4 r4 => ⟨t3, p4, G4, S3, ow4, r4, h4⟩
        | ct t3 => exact fun p4 G4 H4 σ4 ow4 r4 => ⟨t3, p4, G4, S3, ow4, r4, h4⟩
        | bk t3 => exact h4
        | rt d => exact h4
        | rl d => exact h4
end
/-! ### the tape -/
def tapeOf (d : D) : M Tape := fun S => match d with
  | .mref i => match S[i]? with
    | some (.tape t) => .ok t S
    | _ => .stuck
  | _ => .stuck
def tapeSet (d : D) (t : Tape) : M Unit := fun S => match d with
  | .mref i => match S[i]? with
    | some (.tape _) => .ok () (S.set i (.tape t))
    | _ => .stuck
  | _ => .stuck
theorem tapeOf_of (d : D) (S : Sto) : (∃ i t, d = .mref i ∧ S[i]? = some (.tape t) ∧ tapeOf d S = .ok t S) ∨ tapeOf d S = .stuck := by
  unfold tapeOf
  cases d with
  | mref i =>
    dsimp only
    cases e : S[i]? with
    | none => exact .inr rfl
    | some o =>
      cases o with
      | tape t => exact .inl ⟨i, t, rfl, e, rfl⟩
      | inst _ _ _ => exact .inr rfl
      | tab _ _ => exact .inr rfl
  | _ => exact .inr rfl
structure TapeAt (H : Hp) (a l c : Addr) (t : Tape) : Prop where
  d : H a = some (.dK [(.inr "large", .ref l), (.inr "cells", .ref c), (.inr "rest", .int t.rest), (.inr "turn", .int t.turn)])
  l : H l = some (.lst (t.large.map .int))
  c : H c = some (.lst (t.cells.map .int))
theorem Rel0.tape {K : PySem.W.Frag} {p : List (List Addr)} {S : Sto} {G H : Hp} {i : Nat} {t : Tape} {a : Addr} {q : List Addr} (r : Rel0 K p S G H) (hp : p[i]? = some (a :: q)) (hs : S[i]? = some (.tape t)) : ∃ l c, q = [l, c] ∧ TapeAt H a l c t := by
  have m := r.mo i _ _ hp hs
  match q, m with
  | [], m => exact m.elim
  | [_], m => exact m.elim
  | [l, c], ⟨h1, h2, h3⟩ => exact ⟨l, c, rfl, h1, h2, h3⟩
  | _ :: _ :: _ :: _, m => exact m.elim
/-- the tape's objects are changed -/
theorem Rel0.wind {K : PySem.W.Frag} {p : List (List Addr)} {S : Sto} {G H H' : Hp} {i : Nat} {t t' : Tape} {a l c : Addr} (r : Rel0 K p S G H) (hp : p[i]? = some [a, l, c]) (hs : S[i]? = some (.tape t)) (k : ∀ b, b ≠ a → b ≠ l → b ≠ c → H' b = H b) (ta : TapeAt H' a l c t') :
    Rel0 K p (S.set i (.tape t')) G H' ∧ Ext p G H p G H' := by
  have mem : ∀ b ∈ [a, l, c], b ∈ p.flatten := fun b hb => List.mem_flatten.mpr ⟨_, List.mem_of_getElem? hp, hb⟩
  have hi : i < S.length := (List.getElem?_eq_some_iff.mp hs).1
  have far : ∀ b, b ∉ p.flatten → H' b = H b := fun b hb => k b (by rintro rfl; exact hb (mem _ (by simp))) (by rintro rfl; exact hb (mem _ (by simp))) (by rintro rfl; exact hb (mem _ (by simp)))
  refine ⟨⟨fun b o e => ?_, by rw [List.length_set]; exact r.len, fun j as o e1 e2 => ?_, r.nd, r.gn⟩, ⟨Same.refl _, fun _ h _ => h, fun b o e hb => by rw [far b hb]; exact e, fun b e => ?_, [], by simp, by simp⟩⟩
  · have nb : b ∉ p.flatten := fun z => by rw [r.gn b z] at e; cases e
    rw [far b nb]
    exact r.sub b o e
  · by_cases hj : i = j
    · subst hj
      rw [hp] at e1; cases e1
      rw [List.getElem?_set_self hi] at e2; cases e2
      exact ⟨ta.d, ta.l, ta.c⟩
    · rw [List.getElem?_set_ne hj] at e2
      refine (r.mo j as o e1 e2).mono ⟨[], by simp⟩ (Same.refl _) fun b hb => k b ?_ ?_ ?_
      · rintro rfl; exact flat_apart r.nd hp e1 hj (by simp) hb
      · rintro rfl; exact flat_apart r.nd hp e1 hj (by simp) hb
      · rintro rfl; exact flat_apart r.nd hp e1 hj (by simp) hb
  · by_cases h1 : b = a
    · subst h1; rw [ta.d]; simp
    · by_cases h2 : b = l
      · subst h2; rw [ta.l]; simp
      · by_cases h3 : b = c
        · subst h3; rw [ta.c]; simp
        · rw [k b h1 h2 h3]; exact e
theorem tape_apart {K : PySem.W.Frag} {p : List (List Addr)} {S : Sto} {G H : Hp} {i : Nat} {a l c : Addr} (r : Rel0 K p S G H) (hp : p[i]? = some [a, l, c]) : a ≠ l ∧ a ≠ c ∧ l ≠ c := by
  have sub : [a, l, c].Sublist p.flatten := by
    obtain ⟨hi, e⟩ := List.getElem?_eq_some_iff.mp hp
    rw [← e]
    exact List.sublist_flatten_of_mem (List.getElem_mem hi)
  have := r.nd.sublist sub
  simp at this
  exact ⟨this.1.1, this.1.2, this.2⟩
/-- the state's name in slot i: what stands there -/
theorem state_at {K : PySem.W.Frag} {p : List (List Addr)} {G H : Hp} {S : Sto} {t : DSt} {σ : L2.St} {ow : List Addr} {i : Nat} (r : RelS K p G S H t σ ow) {β : Type} {f : D → Tape → M β} {Z : Res β → Prop} (hZ : ¬ Z .stuck) (h : Z ((do let o ← getV t i; let tp ← tapeOf o; f o tp : M β) S)) :
    ∃ j tp a l c, t[i]? = some (some (.val (.mref j))) ∧ σ[i]? = some (some (.ref a)) ∧ p[j]? = some [a, l, c] ∧ S[j]? = some (.tape tp) ∧ TapeAt H a l c tp ∧ Z (f (.mref j) tp S) := by
  rcases getV_of t i with ⟨d, e, q⟩ | q
  · rw [q] at h
    have h1 : Z ((tapeOf d S).andThen fun tp => f d tp) := h
    rcases tapeOf_of d S with ⟨j, tp, rfl, hs, e2⟩ | e2
    · rw [e2] at h1
      obtain ⟨v, ev, a, q2, hp, rfl⟩ := r.sl.get e
      obtain ⟨l, c, rfl, ta⟩ := r.rel.tape hp hs
      exact ⟨j, tp, a, l, c, e, ev, hp, hs, ta, h1⟩
    · rw [e2] at h1
      exact absurd h1 hZ
  · rw [q] at h
    exact absurd h hZ
theorem vRest {l c : Addr} {r u : Int} : valV ([(.inr "large", .ref l), (.inr "cells", .ref c), (.inr "rest", .int r), (.inr "turn", .int u)] : List (Key × V)) (.inr "rest") = some (.int r) := rfl
theorem vTurn {l c : Addr} {r u : Int} : valV ([(.inr "large", .ref l), (.inr "cells", .ref c), (.inr "rest", .int r), (.inr "turn", .int u)] : List (Key × V)) (.inr "turn") = some (.int u) := rfl
theorem vLarge {l c : Addr} {r u : Int} : valV ([(.inr "large", .ref l), (.inr "cells", .ref c), (.inr "rest", .int r), (.inr "turn", .int u)] : List (Key × V)) (.inr "large") = some (.ref l) := rfl
theorem vCells {l c : Addr} {r u : Int} : valV ([(.inr "large", .ref l), (.inr "cells", .ref c), (.inr "rest", .int r), (.inr "turn", .int u)] : List (Key × V)) (.inr "cells") = some (.ref c) := rfl
theorem pRest {l c : Addr} {r u k : Int} : putK ([(.inr "large", .ref l), (.inr "cells", .ref c), (.inr "rest", .int r), (.inr "turn", .int u)] : List (Key × V)) (.inr "rest") (.int k) = [(.inr "large", .ref l), (.inr "cells", .ref c), (.inr "rest", .int k), (.inr "turn", .int u)] := rfl
theorem pTurn {l c : Addr} {r u k : Int} : putK ([(.inr "large", .ref l), (.inr "cells", .ref c), (.inr "rest", .int r), (.inr "turn", .int u)] : List (Key × V)) (.inr "turn") (.int k) = [(.inr "large", .ref l), (.inr "cells", .ref c), (.inr "rest", .int r), (.inr "turn", .int k)] := rfl
section
variable {X : Cx} {W : WX} {a b e : Expr} {ma mb me : DSt → M D} {pos p1 p2 p3 p4 : Pos} {j : Nat} {x : Str}
/-- state['rest'], state['turn'] -/
theorem de_rest (i : Nat) (hu : X.A.units + 1 < cLine) (hN : X.N[i]? = some x := by rfl) (hv : Vis X.env.scope x := by first | exact Or.inl rfl | exact Or.inr (Or.inl rfl) | exact Or.inr (Or.inr rfl)) (hd : (x == ("__debug__" : Str)) = false := by decide)
    (hcd : (x == ("__classdict__" : Str)) = false := by decide) : DE X W (.Subscript (.Name x p1) (.Constant (.str "rest") j p2) pos) (fun t => do let o ← getV t i; let tp ← tapeOf o; pure (.int tp.rest)) := by
  refine PE.imp (pe_dget hu (pe_var hN hv hd hcd) pe_str (fun _ _ => rfl)) fun σ H Q ⟨t, p, G, S, ow, r, h⟩ => ?_
  obtain ⟨k, tp, l0, l, c, e1, e2, hp, hs, ta, h⟩ := state_at (Z := fun z => okR (Den X.K) X.K p G H (fun c d H' => W c d σ H') z Q) r (fun z => z) h
  exact ⟨_, e2, l0, _, rfl, vRest ▸ DGet.k (k := .inr "rest") ta.d, okR.fin (v := V.int _) h rfl r.rel⟩
theorem de_turn (i : Nat) (hu : X.A.units + 1 < cLine) (hN : X.N[i]? = some x := by rfl) (hv : Vis X.env.scope x := by first | exact Or.inl rfl | exact Or.inr (Or.inl rfl) | exact Or.inr (Or.inr rfl)) (hd : (x == ("__debug__" : Str)) = false := by decide)
    (hcd : (x == ("__classdict__" : Str)) = false := by decide) : DE X W (.Subscript (.Name x p1) (.Constant (.str "turn") j p2) pos) (fun t => do let o ← getV t i; let tp ← tapeOf o; pure (.int tp.turn)) := by
  refine PE.imp (pe_dget hu (pe_var hN hv hd hcd) pe_str (fun _ _ => rfl)) fun σ H Q ⟨t, p, G, S, ow, r, h⟩ => ?_
  obtain ⟨k, tp, l0, l, c, e1, e2, hp, hs, ta, h⟩ := state_at (Z := fun z => okR (Den X.K) X.K p G H (fun c d H' => W c d σ H') z Q) r (fun z => z) h
  exact ⟨_, e2, l0, _, rfl, vTurn ▸ DGet.k (k := .inr "turn") ta.d, okR.fin (v := V.int _) h rfl r.rel⟩
theorem dp_ints {K : PySem.W.Frag} {H : Hp} : ∀ ns : List Int, DpAll K H (ns.map .int) (ns.map .int)
  | [] => .nil
  | n :: ns => .cons (.int n) (dp_ints ns)
theorem lay_ints : ∀ ns : List Int, PyData.canLayAll0 (ns.map PyData.int) = true
  | [] => rfl
  | n :: ns => by
    show (PyData.canLay0 (.int n) && PyData.canLayAll0 (ns.map PyData.int)) = true
    rw [lay_ints ns]; rfl
theorem depth_ints : ∀ ns : List Int, PyData.depthAll (ns.map PyData.int) = 0
  | [] => rfl
  | n :: ns => by
    show max (PyData.depth (.int n)) (PyData.depthAll (ns.map PyData.int)) = 0
    rw [depth_ints ns]; rfl
theorem shaped_ints (ns : List Int) : SeqAt.shaped (.list (ns.map .int)) = true := by
  unfold SeqAt.shaped
  have h1 : PyData.canLay0 (.list (ns.map .int)) = true := lay_ints ns
  have h2 : PyData.depth (.list (ns.map .int)) = 1 := by
    show PyData.depthAll (ns.map PyData.int) + 1 = 1
    rw [depth_ints]
  rw [h1, h2]; rfl
theorem eqv_nil (ns : List Int) : (!PyData.eqv (.list (ns.map .int)) (.list [])) = !ns.isEmpty := by
  cases ns <;> rfl
/-- state['large'] != [] , state['cells'] != [] -/
theorem dt_large (i : Nat) (hu : X.A.units + 64 < cLine) (hN : X.N[i]? = some x := by rfl) (hv : Vis X.env.scope x := by first | exact Or.inl rfl | exact Or.inr (Or.inl rfl) | exact Or.inr (Or.inr rfl)) (hd : (x == ("__debug__" : Str)) = false := by decide)
    (hcd : (x == ("__classdict__" : Str)) = false := by decide) : DT X W (.Compare (.Subscript (.Name x p1) (.Constant (.str "large") j p2) p3) [.NotEq] [.List [] p4] pos) (fun t => do let o ← getV t i; let tp ← tapeOf o; pure (!tp.large.isEmpty)) := by
  refine PT.imp (pt_cmpR (op_neD hu) (pe_dget (by omega) (pe_var hN hv hd hcd) pe_str (fun _ _ => rfl)) (pe_lst pa_nil) (nomark _)) fun σ H Q ⟨t, p, G, S, ow, r, h⟩ => ?_
  obtain ⟨k, tp, l0, l, c, e1, e2, hp, hs, ta, h⟩ := state_at (Z := fun z => okR rB X.K p G H (fun c d H' => W c d σ H') z Q) r (fun z => z) h
  refine ⟨_, e2, l0, _, rfl, vLarge ▸ DGet.k (k := .inr "large") ta.d, Nat.zero_le _, fun q hq => ?_⟩
  have ne : l ≠ q := ne_of_none ta.l hq
  refine ⟨_, _, .lst (SqL.of (by rw [upd_ne ne]; exact ta.l)) (dp_ints _), .lst (SqL.of upd_same) .nil, shaped_ints _, shaped_ints [], _, rfl, ?_⟩
  rw [eqv_nil]
  exact h _ p _ _ rfl (r.rel.new (.lst []) hq).1 (r.rel.new (.lst []) hq).2
theorem dt_cells (i : Nat) (hu : X.A.units + 64 < cLine) (hN : X.N[i]? = some x := by rfl) (hv : Vis X.env.scope x := by first | exact Or.inl rfl | exact Or.inr (Or.inl rfl) | exact Or.inr (Or.inr rfl)) (hd : (x == ("__debug__" : Str)) = false := by decide)
    (hcd : (x == ("__classdict__" : Str)) = false := by decide) : DT X W (.Compare (.Subscript (.Name x p1) (.Constant (.str "cells") j p2) p3) [.NotEq] [.List [] p4] pos) (fun t => do let o ← getV t i; let tp ← tapeOf o; pure (!tp.cells.isEmpty)) := by
  refine PT.imp (pt_cmpR (op_neD hu) (pe_dget (by omega) (pe_var hN hv hd hcd) pe_str (fun _ _ => rfl)) (pe_lst pa_nil) (nomark _)) fun σ H Q ⟨t, p, G, S, ow, r, h⟩ => ?_
  obtain ⟨k, tp, l0, l, c, e1, e2, hp, hs, ta, h⟩ := state_at (Z := fun z => okR rB X.K p G H (fun c d H' => W c d σ H') z Q) r (fun z => z) h
  refine ⟨_, e2, l0, _, rfl, vCells ▸ DGet.k (k := .inr "cells") ta.d, Nat.zero_le _, fun q hq => ?_⟩
  have ne : c ≠ q := ne_of_none ta.c hq
  refine ⟨_, _, .lst (SqL.of (by rw [upd_ne ne]; exact ta.c)) (dp_ints _), .lst (SqL.of upd_same) .nil, shaped_ints _, shaped_ints [], _, rfl, ?_⟩
  rw [eqv_nil]
  exact h _ p _ _ rfl (r.rel.new (.lst []) hq).1 (r.rel.new (.lst []) hq).2
/-- len(state['cells']) -/
theorem de_lenCells (i : Nat) (hu : X.A.units + 1 < cLine) (hg : Gl X "len") (hm : X.mg "len" = none) (hN : X.N[i]? = some x := by rfl) (hv : Vis X.env.scope x := by first | exact Or.inl rfl | exact Or.inr (Or.inl rfl) | exact Or.inr (Or.inr rfl)) (hd : (x == ("__debug__" : Str)) = false := by decide)
    (hcd : (x == ("__classdict__" : Str)) = false := by decide) (he : starEach [.Subscript (.Name x p1) (.Constant (.str "cells") j p2) p3] X.env = [(false, eval (.Subscript (.Name x p1) (.Constant (.str "cells") j p2) p3) X.env)] := by rfl) :
    DE X W (.Call (.Name "len" p4) [.Subscript (.Name x p1) (.Constant (.str "cells") j p2) p3] [] pos) (fun t => do let o ← getV t i; let tp ← tapeOf o; pure (.int tp.cells.length)) := by
  refine PE.imp (pe_callB call_len hg hm boot_len (pa_cons (pe_dget hu (pe_var hN hv hd hcd) pe_str (fun _ _ => rfl)) pa_nil he) (by decide) (by decide) he rfl) fun σ H Q ⟨t, p, G, S, ow, r, h⟩ => ?_
  obtain ⟨k, tp, l0, l, c, e1, e2, hp, hs, ta, h⟩ := state_at (Z := fun z => okR (Den X.K) X.K p G H (fun c d H' => W c d σ H') z Q) r (fun z => z) h
  refine ⟨_, e2, l0, _, rfl, vCells ▸ DGet.k (k := .inr "cells") ta.d, V.ref c, (tp.cells.map V.int).length, rfl, (Or.inl ⟨_, SqL.of ta.c, rfl⟩ : LenV X.K (.ref c) H (tp.cells.map V.int).length), ?_⟩
  rw [List.length_map]
  exact okR.fin (v := V.int _) h rfl r.rel
/-- state['cells'][e] -/
def cellD (tp : Tape) : D → M D
  | .int k => match atI tp.cells k with
    | some n => pure (.int n)
    | none => stuck
  | _ => stuck
theorem de_cell (i : Nat) (hu : X.A.units + 1 < cLine) (he : DE X W e me) (hs : PlainIx e) (hN : X.N[i]? = some x := by rfl) (hv : Vis X.env.scope x := by first | exact Or.inl rfl | exact Or.inr (Or.inl rfl) | exact Or.inr (Or.inr rfl)) (hd : (x == ("__debug__" : Str)) = false := by decide)
    (hcd : (x == ("__classdict__" : Str)) = false := by decide) : DE X W (.Subscript (.Subscript (.Name x p1) (.Constant (.str "cells") j p2) p3) e pos) (fun t => do let o ← getV t i; let _ ← tapeOf o; let k ← me t; let tp ← tapeOf o; cellD tp k) := by
  refine PE.imp (pe_ix ix_list (pe_dget hu (pe_var hN hv hd hcd) pe_str (fun _ _ => rfl)) he hs) fun σ H Q ⟨t, p, G, S, ow, r, h⟩ => ?_
  obtain ⟨k, tp, l0, l, c, e1, e2, hp, hs, ta, h⟩ := state_at (f := fun o _ => do let k ← me t; let tp ← tapeOf o; cellD tp k) (Z := fun z => okR (Den X.K) X.K p G H (fun c d H' => W c d σ H') z Q) r (fun z => z) h
  refine ⟨_, e2, l0, _, rfl, vCells ▸ DGet.k (k := .inr "cells") ta.d, tD.next r (Ext.refl _ _ _) r.rel (okR.seq h fun y S1 yv p1 G1 H1 ey dy r1 x1 h1 => ?_)⟩
  have h2 : okR (Den X.K) X.K p1 G1 H1 (fun c d H' => W c d σ H') ((tapeOf (.mref k) S1).andThen fun tp => cellD tp y) Q := h1
  rcases tapeOf_of (.mref k) S1 with ⟨k2, tp2, ek, hs2, e4⟩ | e4
  · cases ek
    rw [e4] at h2
    have hp2 : p1[k]? = some [l0, l, c] := idx_ext x1.pp hp
    obtain ⟨l2, c2, eq, ta2⟩ := r1.tape hp2 hs2
    cases eq
    cases y <;> try exact h2.elim
    rename_i z
    have h3 : okR (Den X.K) X.K p1 G1 H1 (fun c d H' => W c d σ H') (cellD tp2 (.int z) S1) Q := h2
    unfold cellD at h3
    dsimp only at h3
    cases ea : atI tp2.cells z with
    | none => rw [ea] at h3; exact h3.elim
    | some nn =>
      rw [ea] at h3
      refine ⟨c, _, z, .int nn, rfl, dy, SqL.of ta2.c, ?_, okR.fin (v := V.int _) h3 rfl r1⟩
      unfold atI at ea ⊢
      obtain ⟨q, e5, e6⟩ := Option.bind_eq_some_iff.mp ea
      rw [List.length_map, e5]
      show (tp2.cells.map V.int)[q]? = _
      rw [List.getElem?_map, e6]
      rfl
  · rw [e4] at h2
    exact h2.elim
end
section
variable {X : Cx} {W : Wf} {e : Expr} {me : DSt → M D} {pos p1 p2 p3 : Pos} {j : Nat} {x : Str}
/-- state['rest'] = e, state['turn'] = e -/
def restD (o v : D) : M Unit := match v with
  | .int k => do let tp ← tapeOf o; tapeSet o { tp with rest := k }
  | _ => stuck
def turnD (o v : D) : M Unit := match v with
  | .int k => do let tp ← tapeOf o; tapeSet o { tp with turn := k }
  | _ => stuck
theorem ds_rest (i : Nat) (hu : X.A.units + 1 < cLine) (he : DE X W.x e me) (hs : swapsWith e (some (.Subscript (.Name x p1) (.Constant (.str "rest") j p2) p3)) pos.line X.env = pure false := by rfl) (hN : X.N[i]? = some x := by rfl) (hv : Vis X.env.scope x := by first | exact Or.inl rfl | exact Or.inr (Or.inl rfl) | exact Or.inr (Or.inr rfl)) (hd : (x == ("__debug__" : Str)) = false := by decide)
    (hcd : (x == ("__classdict__" : Str)) = false := by decide) : DS X W (.Assign [.Subscript (.Name x p1) (.Constant (.str "rest") j p2) p3] e pos) (fun t => do let v ← me t; let o ← getV t i; restD o v; pure (.nx t)) := by
  refine PS.imp (ps_dput hu (pe_var hN hv hd hcd) pe_str he hs) fun E σ H ⟨n, t, p, G, S, ow, r, h⟩ => ?_
  refine ⟨t, p, G, S, ow, r.rs, okS.seq h r fun y S1 yv p1 G1 H1 ey dy r1 x1 h1 => ?_⟩
  rcases getV_of t i with ⟨d, e, q⟩ | q
  · rw [q] at h1
    cases y <;> try exact h1.elim
    rename_i k
    have h2 : okS X.K W n ((((tapeOf d S1).andThen fun tp => tapeSet d { tp with rest := k })).andThen fun _ => pure (.nx t)) E := h1
    rcases tapeOf_of d S1 with ⟨m, tp, rfl, hs, e2⟩ | e2
    · rw [e2] at h2
      obtain ⟨v, ev, a, q2, hp, rfl⟩ := r1.rs.sl.get e
      obtain ⟨l, c, rfl, ta⟩ := r1.rs.rel.tape hp hs
      obtain ⟨n1, n2, n3⟩ := tape_apart r1.rs.rel hp
      refine ⟨_, ev, a, _, rfl, DPut.k (k := .inr "rest") ta.d (by show 4 < sizeLine; decide), ?_⟩
      rw [show yv = V.int k from dy, pRest]
      obtain ⟨rr, xx⟩ := r1.rs.rel.wind (t' := { tp with rest := k }) (H' := upd H1 a (.dK [(.inr "large", .ref l), (.inr "cells", .ref c), (.inr "rest", .int k), (.inr "turn", .int tp.turn)])) hp hs (fun b hb _ _ => upd_ne hb) ⟨upd_same, by rw [upd_ne n1.symm]; exact ta.l, by rw [upd_ne n2.symm]; exact ta.c⟩
      have h3 : okS X.K W n (((tapeSet (.mref m) { tp with rest := k }) S1).andThen fun _ => pure (.nx t)) E := h2
      unfold tapeSet at h3
      dsimp only at h3
      rw [hs] at h3
      exact h3 p1 G1 _ σ ow (r1.step xx rr)
    · rw [e2] at h2
      exact h2.elim
  · rw [q] at h1
    exact h1.elim
theorem ds_turn (i : Nat) (hu : X.A.units + 1 < cLine) (he : DE X W.x e me) (hs : swapsWith e (some (.Subscript (.Name x p1) (.Constant (.str "turn") j p2) p3)) pos.line X.env = pure false := by rfl) (hN : X.N[i]? = some x := by rfl) (hv : Vis X.env.scope x := by first | exact Or.inl rfl | exact Or.inr (Or.inl rfl) | exact Or.inr (Or.inr rfl)) (hd : (x == ("__debug__" : Str)) = false := by decide)
    (hcd : (x == ("__classdict__" : Str)) = false := by decide) : DS X W (.Assign [.Subscript (.Name x p1) (.Constant (.str "turn") j p2) p3] e pos) (fun t => do let v ← me t; let o ← getV t i; turnD o v; pure (.nx t)) := by
  refine PS.imp (ps_dput hu (pe_var hN hv hd hcd) pe_str he hs) fun E σ H ⟨n, t, p, G, S, ow, r, h⟩ => ?_
  refine ⟨t, p, G, S, ow, r.rs, okS.seq h r fun y S1 yv p1 G1 H1 ey dy r1 x1 h1 => ?_⟩
  rcases getV_of t i with ⟨d, e, q⟩ | q
  · rw [q] at h1
    cases y <;> try exact h1.elim
    rename_i k
    have h2 : okS X.K W n ((((tapeOf d S1).andThen fun tp => tapeSet d { tp with turn := k })).andThen fun _ => pure (.nx t)) E := h1
    rcases tapeOf_of d S1 with ⟨m, tp, rfl, hs, e2⟩ | e2
    · rw [e2] at h2
      obtain ⟨v, ev, a, q2, hp, rfl⟩ := r1.rs.sl.get e
      obtain ⟨l, c, rfl, ta⟩ := r1.rs.rel.tape hp hs
      obtain ⟨n1, n2, n3⟩ := tape_apart r1.rs.rel hp
      refine ⟨_, ev, a, _, rfl, DPut.k (k := .inr "turn") ta.d (by show 4 < sizeLine; decide), ?_⟩
      rw [show yv = V.int k from dy, pTurn]
      obtain ⟨rr, xx⟩ := r1.rs.rel.wind (t' := { tp with turn := k }) (H' := upd H1 a (.dK [(.inr "large", .ref l), (.inr "cells", .ref c), (.inr "rest", .int tp.rest), (.inr "turn", .int k)])) hp hs (fun b hb _ _ => upd_ne hb) ⟨upd_same, by rw [upd_ne n1.symm]; exact ta.l, by rw [upd_ne n2.symm]; exact ta.c⟩
      have h3 : okS X.K W n (((tapeSet (.mref m) { tp with turn := k }) S1).andThen fun _ => pure (.nx t)) E := h2
      unfold tapeSet at h3
      dsimp only at h3
      rw [hs] at h3
      exact h3 p1 G1 _ σ ow (r1.step xx rr)
    · rw [e2] at h2
      exact h2.elim
  · rw [q] at h1
    exact h1.elim
/-- state['rest'] = state['large'].pop(0) -/
def popLarge (o : D) : M Unit := do
  let tp ← tapeOf o
  match tp.large with
  | k :: r => tapeSet o { tp with rest := k, large := r }
  | [] => stuck
theorem ds_popL (i : Nat) {p4 p5 p6 p7 p8 p9 : Pos} {j2 j3 : Nat} (hu : X.A.units + 1 < cLine) (hs : swapsWith (.Call (.Attribute (.Subscript (.Name x p4) (.Constant (.str "large") j2 p5) p6) "pop" p7) [.Constant (.int 0) j3 p8] [] p9) (some (.Subscript (.Name x p1) (.Constant (.str "rest") j p2) p3)) pos.line X.env = pure false := by rfl)
    (hst : starEach [.Constant (.int 0) j3 p8] X.env = [(false, eval (.Constant (.int 0) j3 p8) X.env)] := by rfl) (hfew : ((backTo p9 (starEach [.Constant (.int 0) j3 p8] X.env)).all (fun x => !x.1) && (backToKw p9 (keywordEach [] X.env)).all (fun x => x.1.isSome)
      && decide ([Expr.Constant (.int 0) j3 p8].length + ([] : List Keyword).length + (if ([] : List Keyword).isEmpty then 0 else 1) < 30)) = true := by rfl) (hline : (p7.endLine == p9.line) = true := by rfl)
    (hbase : attributeBase (.Subscript (.Name x p4) (.Constant (.str "large") j2 p5) p6) "pop" X.env (eval (.Subscript (.Name x p4) (.Constant (.str "large") j2 p5) p6) X.env) = eval (.Subscript (.Name x p4) (.Constant (.str "large") j2 p5) p6) X.env := by rfl)
    (hN : X.N[i]? = some x := by rfl) (hv : Vis X.env.scope x := by first | exact Or.inl rfl | exact Or.inr (Or.inl rfl) | exact Or.inr (Or.inr rfl)) (hd : (x == ("__debug__" : Str)) = false := by decide) (hcd : (x == ("__classdict__" : Str)) = false := by decide) :
    DS X W (.Assign [.Subscript (.Name x p1) (.Constant (.str "rest") j p2) p3] (.Call (.Attribute (.Subscript (.Name x p4) (.Constant (.str "large") j2 p5) p6) "pop" p7) [.Constant (.int 0) j3 p8] [] p9) pos) (fun t => do let o ← getV t i; popLarge o; pure (.nx t)) := by
  refine PS.imp (ps_dput hu (pe_var hN hv hd hcd) pe_str (pe_bm PySem.F.plainAttrs_list PySem.F.slot_list_pop PySem.F.type_list_pop mt_popAt (pe_dget hu (pe_var hN hv hd hcd) pe_str (fun _ _ => rfl)) (pa_cons pe_int pa_nil hst) hbase hfew hline hst rfl) hs) fun E σ H ⟨n, t, p, G, S, ow, r, h⟩ => ?_
  have h : okS X.K W n ((do let o ← getV t i; popLarge o; pure (.nx t) : M Ctl) S) E := h
  rcases getV_of t i with ⟨d, e, q⟩ | q
  · rw [q] at h
    have h2 : okS X.K W n ((((tapeOf d S).andThen fun tp => match tp.large with
      | k :: r => tapeSet d { tp with rest := k, large := r }
      | [] => stuck)).andThen fun _ => pure (.nx t)) E := h
    rcases tapeOf_of d S with ⟨m, tp, rfl, hs, e2⟩ | e2
    · rw [e2] at h2
      obtain ⟨v, ev, a, q2, hp, rfl⟩ := r.rs.sl.get e
      obtain ⟨l, c, rfl, ta⟩ := r.rs.rel.tape hp hs
      obtain ⟨n1, n2, n3⟩ := tape_apart r.rs.rel hp
      obtain ⟨lg, cs, rs, tn⟩ := tp
      cases lg with
      | nil => exact h2.elim
      | cons k ks =>
        refine ⟨_, ev, a, V.ref l, rfl, vLarge ▸ DGet.k (k := .inr "large") ta.d, (Or.inl ⟨rfl, _, SqL.of ta.l⟩ : tyV X.K "list" (.ref l) H), l, _, 0, 0, .int k, rfl, rfl, ta.l, by decide, by decide, ?_, rfl, ?_⟩
        · rw [List.length_map, List.length_cons]
          show seqIndex? 0 (ks.length + 1) = some 0
          unfold seqIndex?
          simp
        · refine ⟨_, ev, a, _, rfl, DPut.k (k := .inr "rest") (by rw [upd_ne n1]; exact ta.d) (by show 4 < sizeLine; decide), ?_⟩
          rw [pRest]
          obtain ⟨rr, xx⟩ := r.rs.rel.wind (t' := ⟨ks, cs, k, tn⟩) (H' := upd (upd H l (.lst (ks.map V.int))) a (.dK [(.inr "large", .ref l), (.inr "cells", .ref c), (.inr "rest", .int k), (.inr "turn", .int tn)])) hp hs (fun b hb hb2 _ => by rw [upd_ne hb, upd_ne hb2]) ⟨upd_same, by rw [upd_ne n1.symm, upd_same], by rw [upd_ne n2.symm, upd_ne n3.symm]; exact ta.c⟩
          have h3 : okS X.K W n (((tapeSet (.mref m) ⟨ks, cs, k, tn⟩) S).andThen fun _ => pure (.nx t)) E := h2
          unfold tapeSet at h3
          dsimp only at h3
          rw [hs] at h3
          exact h3 p G _ σ ow (r.step xx rr)
    · rw [e2] at h2
      exact h2.elim
  · rw [q] at h
    exact h.elim
end
end RM

/-! RM: the law's source of draws is made. -/
namespace RM
open PySem PySem.Spec PyProof.Rows L2

def absI (i : Int) : Int := if i < 0 then -i else i
def begun (ns : List Int) : Tape := { large := ((ns.map absI).filter fun c => decide (10 ^ 18 ≤ c)).map fun c => c - 10 ^ 18, cells := ns.map absI, rest := 0, turn := 0 }
def begunD (ds : List D) : M D := fun S => match ds with
  | [.scr ns] => if ns.length ≤ 1000 then .ok (.mref S.length) (S ++ [.tape (begun ns)]) else .stuck
  | _ => .stuck
abbrev rAbs : List V → Hp → VK → Prop := fun xs H Q => ∃ i, xs = [.int i] ∧ Q (.int (if i < 0 then -i else i)) H
abbrev rPow : R2 := rI CPow fun i j => .int (i ^ j.toNat)
abbrev rMinus : R2 := rI0 fun i j => .int (i - j)
abbrev rGeq : R2 := rI0 fun i j => .bl (decide (j ≤ i))
abbrev t1018 : TE := tOp rPow (tC (.int 10)) (tC (.int 18))
def tBegun (K : PySem.W.Frag) : TS := tSeq (tAsg (tLc (iList K (tVar 0)) (gName 2) tYes (tCB rAbs (tCons (tVar 2) tNil)) [2]) (gName 1))
  (tRet (tDisp [(tC (.str "large"), tLc (iList K (tVar 1)) (gName 2) (tTest (tOp rGeq (tVar 2) t1018)) (tOp rMinus (tVar 2) t1018) [2]), (tC (.str "cells"), tVar 1), (tC (.str "rest"), tC (.int 0)), (tC (.str "turn"), tC (.int 0))]))
theorem cpow1018 : CPow 10 18 := ⟨by decide, by decide, by decide⟩
theorem begun_read {K : PySem.W.Frag} {N : List Str} (hN : N.length = 3) (vs : List V) (H : Hp) (Q : VK) (E : XK) (h : spD K 1 begunD vs H Q E) : tBegun K { nx := fun _ H' => Q .non H', rt := Q } (L2.start N vs) H := by
  obtain ⟨ds, p, G, S, el, dn, r, h⟩ := h
  obtain ⟨d, rfl⟩ : ∃ d, ds = [d] := by
    match ds, el with
    | [d], _ => exact ⟨d, rfl⟩
  obtain ⟨v, rfl, dv⟩ := denL1 dn
  have hs : L2.start N [v] = [some v, none, none] := by
    unfold L2.start
    rw [hN]
    rfl
  rw [hs]
  cases d <;> try exact h.elim
  rename_i ns
  · obtain ⟨a, rfl, ha⟩ := dv
    have h1 : okR (Den K) K p G H E (if ns.length ≤ 1000 then .ok (.mref S.length) (S ++ [.tape (begun ns)]) else .stuck) Q := h
    by_cases hl : ns.length ≤ 1000
    · rw [if_pos hl] at h1
      have big : ∀ m : Nat, m ≤ 1000 → m < sizeLine := fun m hm => Nat.lt_of_le_of_lt hm (by decide)
      refine ⟨_, rfl, a, rfl, ⟨_, r.sub.seq ha⟩, fun C hC => ?_⟩
      refine lc_list (K := K) (a := a) (xs := ns.map V.int) (fun i H' => H' = upd H C (.lst ((ns.take i).map fun z => V.int (absI z)))) (by simp) (fun i H' _ e => ?_) (fun i x H' hx e => ?_) fun H' e => ?_
      · subst e
        exact (Same.upd_of hC).seq (r.sub.seq ha)
      · subst e
        rw [List.getElem?_map] at hx
        obtain ⟨z, ez, rfl⟩ := Option.map_eq_some_iff.mp hx
        have hi := (List.getElem?_eq_some_iff.mp ez).1
        refine ⟨rfl, ?_⟩
        refine ⟨_, rfl, z, rfl, _, upd_same, by rw [List.length_map, List.length_take]; exact big _ (by omega), ?_⟩
        rw [upd_upd, List.take_add_one, ez, List.map_append]
        rfl
      · subst e
        rw [List.length_map, List.take_length]
        show tDisp _ [some (.ref a), some (.ref C), none] _ Q
        intro T hT
        have nT : C ≠ T := fun e => by rw [← e, upd_same] at hT; cases hT
        have hT0 : H T = none := by rw [upd_ne nT.symm] at hT; exact hT
        refine ⟨_, rfl, C, rfl, ⟨_, SqL.of (by rw [upd_ne nT, upd_same])⟩, fun L hL => ?_⟩
        have nLT : L ≠ T := fun e => by rw [e, upd_same] at hL; cases hL
        have nLC : L ≠ C := fun e => by rw [e, upd_ne nT, upd_same] at hL; cases hL
        have hL0 : H L = none := by rw [upd_ne nLT, upd_ne nLC] at hL; exact hL
        refine lc_list (K := K) (a := C) (xs := ns.map fun z => V.int (absI z)) (fun i H' => H' = upd (upd (upd H C (.lst (ns.map fun z => V.int (absI z)))) T (.dK [])) L (.lst ((((ns.map absI).take i).filter fun c => decide (10 ^ 18 ≤ c)).map fun c => V.int (c - 10 ^ 18)))) (by simp) (fun i H' _ e => ?_) (fun i x H' hx e => ?_) fun H' e => ?_
        · subst e
          exact SqL.of (by rw [upd_ne nLC.symm, upd_ne nT, upd_same])
        · subst e
          rw [List.getElem?_map] at hx
          obtain ⟨z, ez, rfl⟩ := Option.map_eq_some_iff.mp hx
          have hi := (List.getElem?_eq_some_iff.mp ez).1
          have ez' : (ns.map absI)[i]? = some (absI z) := by rw [List.getElem?_map, ez]; rfl
          have len : ∀ j, ((((ns.map absI).take j).filter fun c => decide ((10 : Int) ^ 18 ≤ c)).map fun c => V.int (c - 10 ^ 18)).length < sizeLine := fun j => by
            rw [List.length_map]
            refine big _ (Nat.le_trans (List.length_filter_le _ _) ?_)
            rw [List.length_take, List.length_map]
            omega
          refine ⟨rfl, _, rfl, 10, 18, rfl, rfl, cpow1018, _, _, rfl, rfl, _, rfl, ?_⟩
          by_cases hc : (10 : Int) ^ 18 ≤ absI z
          · rw [show decide ((10 : Int) ^ (18 : Int).toNat ≤ absI z) = true from decide_eq_true hc]
            refine iteT ⟨_, rfl, 10, 18, rfl, rfl, cpow1018, _, _, rfl, rfl, _, upd_same, len i, ?_⟩
            rw [upd_upd, List.take_add_one, ez', List.filter_append]
            have : (Option.toList (some (absI z))).filter (fun c => decide ((10 : Int) ^ 18 ≤ c)) = [absI z] := by
              show List.filter _ [absI z] = _
              rw [List.filter_cons, decide_eq_true hc]; rfl
            rw [this, List.map_append]
            rfl
          · rw [show decide ((10 : Int) ^ (18 : Int).toNat ≤ absI z) = false from decide_eq_false hc]
            refine iteF ?_
            rw [List.take_add_one, ez', List.filter_append]
            have : (Option.toList (some (absI z))).filter (fun c => decide ((10 : Int) ^ 18 ≤ c)) = [] := by
              show List.filter _ [absI z] = _
              rw [List.filter_cons, decide_eq_false hc]; rfl
            rw [this, List.append_nil]
        · subst e
          rw [List.length_map]
          have et : (ns.map absI).take ns.length = ns.map absI := List.take_of_length_le (by rw [List.length_map]; exact Nat.le_refl _)
          rw [et]
          refine ⟨_, rfl, ?_⟩
          refine ⟨by rw [upd_ne nLT.symm, upd_same], [(.inr "large", .ref L), (.inr "cells", .ref C), (.inr "rest", .int 0), (.inr "turn", .int 0)], rfl, by show 4 ≤ 15; decide, ?_⟩
          have em : mergeK [] [(.inr "large", .ref L), (.inr "cells", .ref C), (.inr "rest", .int 0), (.inr "turn", .int 0)] = ([(.inr "large", .ref L), (.inr "cells", .ref C), (.inr "rest", .int 0), (.inr "turn", .int 0)] : List (Key × V)) := rfl
          rw [em]
          have far : ∀ b o, H b = some o → upd (upd (upd (upd H C (.lst (ns.map fun z => V.int (absI z)))) T (.dK [])) L (.lst (((ns.map absI).filter fun c => decide ((10 : Int) ^ 18 ≤ c)).map fun c => V.int (c - 10 ^ 18)))) T (.dK [(.inr "large", .ref L), (.inr "cells", .ref C), (.inr "rest", .int 0), (.inr "turn", .int 0)]) b = some o := fun b o e => by
            rw [upd_ne (ne_of_none e hT0), upd_ne (ne_of_none e hL0), upd_ne (ne_of_none e hT0), upd_ne (ne_of_none e hC)]
            exact e
          have new : ∀ b ∈ [T, L, C], H b = none := fun b hb => by
            simp at hb
            rcases hb with rfl | rfl | rfl
            · exact hT0
            · exact hL0
            · exact hC
          have old : ∀ b, H b ≠ none → upd (upd (upd (upd H C (.lst (ns.map fun z => V.int (absI z)))) T (.dK [])) L (.lst (((ns.map absI).filter fun c => decide ((10 : Int) ^ 18 ≤ c)).map fun c => V.int (c - 10 ^ 18)))) T (.dK [(.inr "large", .ref L), (.inr "cells", .ref C), (.inr "rest", .int 0), (.inr "turn", .int 0)]) b = H b := fun b e => by
            cases q : H b with
            | none => exact absurd q e
            | some o => exact far b o q
          have fl : (p ++ [[T, L, C]]).flatten = p.flatten ++ [T, L, C] := by simp
          refine h1 (.ref T) (p ++ [[T, L, C]]) G _ ⟨T, [L, C], by rw [← r.len, List.getElem?_append_right (Nat.le_refl _), Nat.sub_self]; rfl, rfl⟩ ⟨fun b o e => far b o (r.sub b o e), by simp [r.len], fun i as o e1 e2 => ?_, ?_, fun b hb => ?_⟩ ⟨Same.refl _, fun _ z _ => z, fun b o e _ => far b o e, fun b e => by rw [old b e]; exact e, [[T, L, C]], rfl, fun b hb => new b (by simpa using hb)⟩
          · by_cases hi : i < p.length
            · rw [List.getElem?_append_left hi] at e1
              rw [List.getElem?_append_left (by rw [← r.len]; exact hi)] at e2
              have m := r.mo i as o e1 e2
              exact m.mono ⟨_, rfl⟩ (Same.refl _) fun b hb => old b (m.dom b hb)
            · have hi2 : i = p.length := by
                have := (List.getElem?_eq_some_iff.mp e1).1
                rw [List.length_append, List.length_singleton] at this
                omega
              subst hi2
              rw [List.getElem?_append_right (Nat.le_refl _), Nat.sub_self] at e1
              rw [r.len, List.getElem?_append_right (Nat.le_refl _), Nat.sub_self] at e2
              cases e1
              cases e2
              refine ⟨upd_same, ?_, ?_⟩
              · rw [upd_ne nLT, upd_same]
                unfold begun
                rw [List.map_map]
                rfl
              · rw [upd_ne nT, upd_ne nLC.symm, upd_ne nT, upd_same]
                unfold begun
                rw [List.map_map]
                rfl
          · rw [fl]
            refine List.nodup_append.mpr ⟨r.nd, by simp; exact ⟨⟨nLT.symm, nT.symm⟩, nLC⟩, fun b hb b' hb' e => ?_⟩
            subst e
            exact r.dom hb (new b hb')
          · rw [fl] at hb
            rcases List.mem_append.mp hb with z | z
            · exact r.gn b z
            · exact r.gfree (new b z)
    · rw [if_neg hl] at h1
      exact h1.elim
end RM

/-! RM: repr of data; an own list handed to a def; len and items of own lists. -/
namespace RM
open PySem PySem.Spec PyProof.Rows L2

def reprD : List D → M D
  | [d] => match toPy d with
    | some x => if x.showable = true ∧ x.depth ≤ 64 ∧ x.shown.length ≤ sizeLine then pure (.str x.shown) else stuck
    | none => stuck
  | _ => stuck
mutual
theorem toPy_noDict : ∀ {d : D} {x : PyData}, toPy d = some x → x.hasDict = false
  | .non, _, e => by cases e; rfl
  | .bl _, _, e => by cases e; rfl
  | .int _, _, e => by cases e; rfl
  | .str _, _, e => by cases e; rfl
  | .tup xs, _, e => by
    obtain ⟨ys, e1, e2⟩ := Option.map_eq_some_iff.mp (show (toPyL xs).map PyData.tuple = some _ from e)
    subst e2
    exact toPyL_noDict e1
  | .lst xs, _, e => by
    obtain ⟨ys, e1, e2⟩ := Option.map_eq_some_iff.mp (show (toPyL xs).map PyData.list = some _ from e)
    subst e2
    exact toPyL_noDict e1
  | .ins _ _ _, _, e => by cases e
  | .mref _, _, e => by cases e
  | .dic _ _, _, e => by cases e
  | .scr _, _, e => by cases e
  | .xcp _ _ _, _, e => by cases e
theorem toPyL_noDict : ∀ {d : List D} {x : List PyData}, toPyL d = some x → PyData.hasDictAll x = false
  | [], _, e => by cases e; rfl
  | y :: ys, _, e => by
    have e' : (match toPy y, toPyL ys with
      | some y, some ys => some (y :: ys)
      | _, _ => none) = some _ := e
    cases q1 : toPy y with
    | none => rw [q1] at e'; cases e'
    | some z =>
      cases q2 : toPyL ys with
      | none => rw [q1, q2] at e'; cases e'
      | some zs =>
        rw [q1, q2] at e'
        cases e'
        show (z.hasDict || PyData.hasDictAll zs) = false
        rw [toPy_noDict q1, toPyL_noDict q2]
        rfl
end
def rRepr (K : PySem.W.Frag) : List V → Hp → VK → Prop := fun xs H Q => ∃ v d, xs = [v] ∧ Dp K H v d ∧ d.showable = true ∧ d.depth ≤ 64 ∧ d.shown.length ≤ sizeLine ∧ d.hasDict = false ∧ Q (.str d.shown) H
theorem call_repr {X : Cx} (hG : X.A.guards = some []) (hu : X.A.units + 66 < cLine) : CallR X (.builtin "repr") (rRepr X.K) := by
  intro pins s σ H xs us Q I r h
  obtain ⟨v, d, rfl, dp, h1, h2, h3, h4, q⟩ := h
  obtain ⟨u, rfl, rv⟩ := vals1 r
  obtain ⟨as, rd⟩ := Dp.reads I d v u dp rv
  have fin : ∀ {a : Addr}, Reads s.heap (.ref a) d as → wpAny (model X.prog X.w) X.A (call (.builtin "repr") [.ref a]) (EP X pins σ Q) X.xe s := fun {a} rd =>
    repr_of_reads' rd h1 (PyData.noDict_hsm h4) hG (by omega) (fun _ _ e => e) (fun h' u tk k => ⟨.str d.shown, H, I.kept k, ⟨_, rfl⟩, q⟩) h3
  cases dp with
  | non =>
    cases rv
    exact PySem.P.repr_of_none ⟨.str _, H, I.tok _, ⟨_, rfl⟩, q⟩
  | bl b =>
    cases rv
    exact PySem.P.repr_of_bool ⟨.str _, H, I.tok _, ⟨_, rfl⟩, q⟩
  | int i =>
    obtain ⟨t, rfl⟩ := rv
    exact PySem.P.repr_of_int (of_decide_eq_true h1) ⟨.str _, H, I.tok _, ⟨_, rfl⟩, q⟩
  | str x =>
    obtain ⟨t, rfl⟩ := rv
    exact PySem.P.repr_of_str ⟨.str _, H, I.tok _, ⟨_, rfl⟩, q⟩ h3
  | lst _ _ =>
    cases rv
    exact fin rd
  | tup _ _ =>
    cases rv
    exact fin rd
theorem by_repr {K : PySem.W.Frag} : ByA K (rRepr K) reprD := by
  intro ds vs p G H S W Q hd r h
  unfold reprD at h
  split at h
  · rename_i d
    obtain ⟨v, rfl, dv⟩ := denL1 hd
    cases e : toPy d with
    | none => rw [e] at h; exact h.elim
    | some x =>
      rw [e] at h
      dsimp only at h
      by_cases hz : x.showable = true ∧ x.depth ≤ 64 ∧ x.shown.length ≤ sizeLine
      · rw [if_pos hz] at h
        exact ⟨v, x, rfl, toPy_dp r.sub dv e, hz.1, hz.2.1, hz.2.2, toPy_noDict e, okR.fin (v := V.str _) h rfl r⟩
      · rw [if_neg hz] at h
        exact h.elim
  · exact h.elim
section
variable {X : Cx} {W : WX} {a b : Expr} {es : List Expr} {ma mb : DSt → M D} {ms : DSt → M (List D)} {pos p p1 p2 : Pos} {x : Str}
theorem de_repr (hG : X.A.guards = some []) (hu : X.A.units + 66 < cLine) (hg : Gl X "repr") (hm : X.mg "repr" = none) (ha : DA X W [a] ms) (he : starEach [a] X.env = [(false, eval a X.env)] := by rfl) : DE X W (.Call (.Name "repr" p) [a] [] pos) (fun t => do let xs ← ms t; reprD xs) :=
  de_callB (call_repr hG hu) by_repr hg hm (by decide +kernel) ha (by decide) (by decide) he rfl
/-! ### len(x), x[e] where x is an own list -/
theorem own_in {K : PySem.W.Frag} {p : List (List Addr)} {G H : Hp} {S : Sto} {t : DSt} {σ : L2.St} {ow : List Addr} {i : Nat} (r : RelS K p G S H t σ ow) {β : Type} {f : List D → M β} {Z : Res β → Prop} (hZ : ¬ Z .stuck) (h : Z ((do let xs ← getO t i; f xs : M β) S)) :
    ∃ xs a vs, t[i]? = some (some (.own xs)) ∧ σ[i]? = some (some (.ref a)) ∧ a ∈ ow ∧ H a = some (.lst vs) ∧ DenL K p G xs vs ∧ Z (f xs S) := by
  rcases getO_of t i with ⟨xs, e, q⟩ | q
  · rw [q] at h
    obtain ⟨a, vs, e1, e2, e3, e4⟩ := r.sl.getO e
    exact ⟨xs, a, vs, e, e1, e2, e3, e4, h⟩
  · rw [q] at h
    exact absurd h hZ
theorem de_lenO (i : Nat) (hg : Gl X "len") (hm : X.mg "len" = none) (hN : X.N[i]? = some x := by rfl) (hv : Vis X.env.scope x := by first | exact Or.inl rfl | exact Or.inr (Or.inl rfl) | exact Or.inr (Or.inr rfl)) (hd : (x == ("__debug__" : Str)) = false := by decide)
    (hcd : (x == ("__classdict__" : Str)) = false := by decide) (he : starEach [.Name x p1] X.env = [(false, eval (.Name x p1) X.env)] := by rfl) : DE X W (.Call (.Name "len" p2) [.Name x p1] [] pos) (fun t => do let xs ← getO t i; pure (.int xs.length)) := by
  refine PE.imp (pe_callB call_len hg hm boot_len (pa_cons (pe_var hN hv hd hcd) pa_nil he) (by decide) (by decide) he rfl) fun σ H Q ⟨t, p, G, S, ow, r, h⟩ => ?_
  obtain ⟨xs, l, vs, e1, e2, e3, e4, e5, h⟩ := own_in (Z := fun z => okR (Den X.K) X.K p G H (fun c d H' => W c d σ H') z Q) r (fun z => z) h
  refine ⟨_, e2, V.ref l, vs.length, rfl, (Or.inl ⟨_, SqL.of e4, rfl⟩ : LenV X.K (.ref l) H vs.length), ?_⟩
  rw [e5.length]
  exact okR.fin (v := V.int _) h rfl r.rel
theorem de_idxO (i : Nat) (hb : DE X W b mb) (hs : PlainIx b) (hN : X.N[i]? = some x := by rfl) (hv : Vis X.env.scope x := by first | exact Or.inl rfl | exact Or.inr (Or.inl rfl) | exact Or.inr (Or.inr rfl)) (hd : (x == ("__debug__" : Str)) = false := by decide)
    (hcd : (x == ("__classdict__" : Str)) = false := by decide) : DE X W (.Subscript (.Name x p1) b pos) (fun t => do let xs ← getO t i; let y ← mb t; idxD (.lst xs) y) := by
  refine PE.imp (pe_ix ix_list (pe_var hN hv hd hcd) hb hs) fun σ H Q ⟨t, p, G, S, ow, r, h⟩ => ?_
  obtain ⟨xs, l, vs, e1, e2, e3, e4, e5, h⟩ := own_in (Z := fun z => okR (Den X.K) X.K p G H (fun c d H' => W c d σ H') z Q) r (fun z => z) h
  refine ⟨_, e2, tD.next r (Ext.refl _ _ _) r.rel (okR.seq h fun y S1 yv p1 G1 H1 ey dy r1 x1 h1 => ?_)⟩
  have h1' : H1 l = some (.lst vs) := x1.h l _ e4 fun z => (List.nodup_append.mp r.nd).2.2 l z l e3 rfl
  cases y <;> try exact h1.elim
  rename_i k
  unfold idxD at h1
  dsimp only at h1
  cases q : atI xs k with
  | none => rw [q] at h1; exact h1.elim
  | some d =>
    rw [q] at h1
    obtain ⟨w, f1, f2⟩ := atI_den (e5.mono x1.pp x1.g) q
    exact ⟨l, vs, k, w, rfl, dy, SqL.of h1', f1, okR.fin h1 f2 r1⟩
end
/-! ### f(e, x): x an own list, the answer flat -/
def isTape : MO → Bool
  | .tape _ => true
  | _ => false
def flatOnly (d : D) : M D := fun S => if flatD d = true ∧ S.all isTape = true then .ok d S else .stuck
theorem MoAt.any {K : PySem.W.Frag} {p p' : List (List Addr)} {G G' H : Hp} : ∀ {as : List Addr} {o : MO}, MoAt K p G H as o → isTape o = true → MoAt K p' G' H as o
  | [_, _, _], .tape _, h, _ => h
  | [_], .inst _ _ _, _, e => by cases e
  | [_], .tab _ _, _, e => by cases e
theorem flat_any {K : PySem.W.Frag} {p q : List (List Addr)} {G G' : Hp} {d : D} {v : V} (h : Den K p G d v) (f : flatD d = true) : Den K q G' d v := by
  cases d <;> first | exact h | cases f
section
variable {X : Cx} {W : WX} {a : Expr} {ma : DSt → M D} {pos p1 pp : Pos} {k : Nat} {f : Addr} {fd : FuncData} {ps : List Str} {g : List D → M D} {x y : Str}
theorem de_callO (i : Nat) (F : FnD X.prog X.w X.K X.mg X.base k f fd ps g) (hps : ps.length = 2) (hr : Room k X.A) (hG : X.A.guards = some []) (tk : Takes X W) (hg : Gl X y) (hm : X.mg y = some (.ref f)) (hk : PySem.W.keepIn X.K (.ref f) = true) (hb : Binds X.K fd ps [])
    (ha : DE X W a ma) (hN : X.N[i]? = some x := by rfl) (hv : Vis X.env.scope x := by first | exact Or.inl rfl | exact Or.inr (Or.inl rfl) | exact Or.inr (Or.inr rfl)) (hd : (x == ("__debug__" : Str)) = false := by decide) (hcd : (x == ("__classdict__" : Str)) = false := by decide)
    (hdb : (y == ("__debug__" : Str)) = false := by decide) (he : starEach [a, .Name x p1] X.env = (false, eval a X.env) :: starEach [.Name x p1] X.env := by rfl) (he2 : starEach [.Name x p1] X.env = [(false, eval (.Name x p1) X.env)] := by rfl) (hpl : (backTo pos (starEach [.Name x p1] X.env)).any (·.1) = false := by rfl) :
    DE X W (.Call (.Name y pp) [a, .Name x p1] [] pos) (fun t => do let d ← ma t; let xs ← getO t i; let v ← noE (g [d, .lst xs]); flatOnly v) := by
  refine ⟨fun pins s σ H Q I ⟨t, q, G, S, ow, r, h⟩ => ?_⟩
  refine wpAny_Call_Name_kw (ld_glob I hg hm (PySem.W.callWith_K (h₀ := X.base) I.ok.mod.kin hk ?_ he hpl) hdb)
  refine thn ((pa_cons ha (pa_cons (pe_var hN hv hd hcd) pa_nil he2) he).run pos pins s σ H (fun vs H1 => spD X.K ps.length g (vs ++ []) H1 Q fun c d H' => W c d σ H') I ⟨t, q, G, S, ow, r, okR.seq h fun d S1 v q1 G1 H1 e1 dn r1 x1 h1 => ?_⟩) fun us s1 ⟨vs, H1, I1, rv, q1⟩ => ⟨I1.kIn, ?_⟩
  · have rs1 := r.ext x1 r1
    obtain ⟨xs, l, ws, f1, f2, f3, f4, f5, h1⟩ := own_in (Z := fun z => okR (Den X.K) X.K q1 G1 H1 (fun c d H' => W c d σ H') z Q) rs1 (fun z => z) h1
    refine ⟨_, f2, ?_⟩
    show spD X.K ps.length g [v, V.ref l] H1 Q fun c d H' => W c d σ H'
    have gl := rs1.gn l f3
    have pl : l ∉ q1.flatten := fun z => (List.nodup_append.mp rs1.nd).2.2 l z l f3 rfl
    have sm : Same G1 (upd G1 l (.lst ws)) := Same.upd_of gl
    refine ⟨[d, .lst xs], q1, upd G1 l (.lst ws), S1, hps.symm, DenL.cons (dn.upd gl) (DenL.one ⟨l, ws, rfl, upd_same, f5.upd gl⟩), ⟨fun b o z => ?_, r1.len, fun j as o z1 z2 => (r1.mo j as o z1 z2).ice sm, r1.nd, fun b hb => ?_⟩, ?_⟩
    · by_cases w : b = l
      · subst w; rw [upd_same] at z; cases z; exact f4
      · rw [upd_ne w] at z; exact r1.sub b o z
    · rw [upd_ne (by rintro rfl; exact pl hb)]; exact r1.gn b hb
    · have h2 : okR (Den X.K) X.K q1 G1 H1 (fun c d H' => W c d σ H') ((noE (g [d, .lst xs]) S1).andThen flatOnly) Q := h1
      unfold noE at h2
      cases eg : g [d, .lst xs] S1 with
      | stuck => rw [eg] at h2; exact h2.elim
      | exc z S2 => rw [eg] at h2; exact h2.elim
      | ok w S2 =>
        rw [eg] at h2
        have h3 : okR (Den X.K) X.K q1 G1 H1 (fun c d H' => W c d σ H') (flatOnly w S2) Q := h2
        unfold flatOnly at h3
        by_cases hf : flatD w = true ∧ S2.all isTape = true
        · rw [if_pos hf] at h3
          intro v2 p2 G2 H2 dv r2 x2
          obtain ⟨rr, ep, fr⟩ := x2.p
          refine h3 v2 p2 G1 H2 (flat_any dv hf.1) ⟨fun b o z => x2.h b o (r1.sub b o z) (fun w => by rw [r1.gn b w] at z; cases z), r2.len, fun j as o z1 z2 => (r2.mo j as o z1 z2).any (List.all_eq_true.mp hf.2 o (List.mem_of_getElem? z2)), r2.nd, fun b hb => ?_⟩ ⟨Same.refl _, fun _ z _ => z, x2.h, x2.d, x2.p⟩
          rw [ep, List.flatten_append, List.mem_append] at hb
          rcases hb with z | z
          · exact r1.gn b z
          · exact r1.gfree (fr b z)
        · rw [if_neg hf] at h3
          exact h3.elim
  · exact call_G F hr hG tk I1 (hb s1 us I1.kIn (by rw [List.append_nil, ← rv.length]; simpa using F.arity _ _ _ _ q1)) (rv.append .nil) q1
end
end RM

/-! RM: tuple targets, chains of comparisons, dict displays. -/
namespace RM
open PySem PySem.Spec PyProof.Rows L2
section
variable {X : Cx} {W : Wf} {e tg : Expr} {pos : Pos} {ma mb mc : DSt → M D}
/-- target = e, the target names or a tuple of names -/
theorem ds_asg (T : Tgt) (he : DE X W.x e ma) (hg : PG X tg (T.tg X.K)) (hs : swapsWithSole [tg] e pos.line X.env = pure false := by rfl) (hw : swappedStores [tg] e X.env = pure none := by rfl) (h1 : (assignEach [tg] X.env).map (·.2) = [assign tg X.env] := by rfl) :
    DS X W (.Assign [tg] e pos) (fun t => do let d ← ma t; let t' ← liftO (T.set d t); pure (.nx t')) := by
  refine PS.imp (ps_asg he (dg_tgt (W := W) hg) hs hw h1) fun E σ H ⟨n, t, p, G, S, ow, r, h⟩ => ?_
  refine ⟨t, p, G, S, ow, r.rs, okS.seq h r fun d S1 v p1 G1 H1 e1 dn r1 x1 h1 => ?_⟩
  cases eg : T.set d t with
  | none =>
    rw [eg] at h1
    exact h1.elim
  | some t' =>
    rw [eg] at h1
    exact ⟨n, d, t, p1, G1, S1, ow, r1, dn, t', eg, fun p' G' H' σ' ow' r' => h1 p' G' H' σ' ow' r'⟩
theorem setVs_ok {K : PySem.W.Frag} {n : Snap} {p : List (List Addr)} {G H : Hp} {S : Sto} : ∀ {is : List Nat} {t t' : DSt} {σ : L2.St} {ow : List Addr} {ds : List D} {vs : List V}, RelF K n p G S H t σ ow → DenL K p G ds vs → setVs t is ds = some t' →
    ∃ ow', RelF K n p G S H t' ((is.zip vs).foldl (fun s q => s.set q.1 (some q.2)) σ) ow'
  | [], t, t', σ, ow, ds, vs, r, dn, e => by
    cases ds with
    | nil =>
      cases e
      exact ⟨ow, r⟩
    | cons => cases e
  | i :: is, t, t', σ, ow, [], vs, r, dn, e => by cases e
  | i :: is, t, t', σ, ow, d :: ds, _, r, ⟨v, vs, rfl, dv, dn⟩, e => by
    unfold setVs setV at e
    by_cases hi : i < t.length
    · rw [if_pos hi] at e
      obtain ⟨ow', r'⟩ := r.set0 hi (s := some (.val d)) (v := some v) ⟨rfl, v, rfl, dv⟩
      exact setVs_ok (is := is) r' dn (show setVs (t.set i (some (.val d))) is ds = some t' from e)
    · rw [if_neg hi] at e
      cases e
theorem setVs_length : ∀ {is : List Nat} {t t' : DSt} {ds : List D}, setVs t is ds = some t' → ds.length = is.length
  | [], _, _, [], _ => rfl
  | [], _, _, _ :: _, e => by cases e
  | _ :: _, _, _, [], e => by cases e
  | i :: is, t, t', d :: ds, e => by
    unfold setVs at e
    cases h : setV t i d with
    | none => rw [h] at e; cases e
    | some t2 =>
      rw [h] at e
      rw [List.length_cons, List.length_cons, setVs_length (show setVs t2 is ds = some t' from e)]
theorem len2 {α : Type} {l : List α} (h : l.length = 2) : ∃ a b, l = [a, b] := by
  match l, h with
  | [a, b], _ => exact ⟨a, b, rfl⟩
theorem len3 {α : Type} {l : List α} (h : l.length = 3) : ∃ a b c, l = [a, b, c] := by
  match l, h with
  | [a, b, c], _ => exact ⟨a, b, c, rfl⟩
/-- a, b = e, f -/
theorem ds_par2 (i j : Nat) {x y : Str} {a b : Expr} {ms : DSt → M (List D)} {px py pt : Pos} {kt k2 pt2} (hc : X.calm = true) (hN : X.N.Nodup) (hi : X.N[i]? = some x) (hj : X.N[j]? = some y) (hij : i ≠ j) (hx : X.env.scope.names.lookup x = some .local) (hy : X.env.scope.names.lookup y = some .local) (ha : DA X W.x [a, b] ms)
    (hw : swappedStores [.Tuple [.Name x px, .Name y py] kt pt] (.Tuple [a, b] k2 pt2) X.env = pure (some [x, y]) := by rfl) (hs : swapsWithSole [.Tuple [.Name x px, .Name y py] kt pt] (.Tuple [a, b] k2 pt2) pos.line X.env = pure false := by rfl) :
    DS X W (.Assign [.Tuple [.Name x px, .Name y py] kt pt] (.Tuple [a, b] k2 pt2) pos) (fun t => do let xs ← ms t; let t' ← liftO (setVs t [i, j] xs); pure (.nx t')) := by
  refine PS.imp (ps_par hc hN hi hj hij hx hy ha hw hs) fun E σ H ⟨n, t, p, G, S, ow, r, h⟩ => ?_
  refine ⟨t, p, G, S, ow, r.rs, okS.seq h r fun d S1 v p1 G1 H1 e1 dn r1 x1 h1 => ?_⟩
  cases eg : setVs t [i, j] d with
  | none =>
    rw [eg] at h1
    exact h1.elim
  | some t' =>
    rw [eg] at h1
    obtain ⟨ow', r'⟩ := setVs_ok r1 dn eg
    obtain ⟨d1, d2, rfl⟩ := len2 (setVs_length eg)
    obtain ⟨v1, w1, rfl, _, dn⟩ := dn
    obtain ⟨v2, w2, rfl, _, dn⟩ := dn
    cases (show w2 = [] from dn)
    exact ⟨v1, v2, rfl, h1 p1 G1 H1 _ ow' r'⟩
/-- a, b, c = e, f, g -/
theorem ds_par3 (i j l : Nat) {x y z : Str} {a b c : Expr} {ms : DSt → M (List D)} {px py pz pt : Pos} {kt k2 pt2} (hc : X.calm = true) (hN : X.N.Nodup) (hi : X.N[i]? = some x) (hj : X.N[j]? = some y) (hl : X.N[l]? = some z) (hij : i ≠ j) (hil : i ≠ l) (hjl : j ≠ l) (hx : X.env.scope.names.lookup x = some .local) (hy : X.env.scope.names.lookup y = some .local) (hz : X.env.scope.names.lookup z = some .local) (ha : DA X W.x [a, b, c] ms)
    (hw : swappedStores [.Tuple [.Name x px, .Name y py, .Name z pz] kt pt] (.Tuple [a, b, c] k2 pt2) X.env = pure (some [x, y, z]) := by rfl) (hs : swapsWithSole [.Tuple [.Name x px, .Name y py, .Name z pz] kt pt] (.Tuple [a, b, c] k2 pt2) pos.line X.env = pure false := by rfl) :
    DS X W (.Assign [.Tuple [.Name x px, .Name y py, .Name z pz] kt pt] (.Tuple [a, b, c] k2 pt2) pos) (fun t => do let xs ← ms t; let t' ← liftO (setVs t [i, j, l] xs); pure (.nx t')) := by
  refine PS.imp (ps_par3 hc hN hi hj hl hij hil hjl hx hy hz ha hw hs) fun E σ H ⟨n, t, p, G, S, ow, r, h⟩ => ?_
  refine ⟨t, p, G, S, ow, r.rs, okS.seq h r fun d S1 v p1 G1 H1 e1 dn r1 x1 h1 => ?_⟩
  cases eg : setVs t [i, j, l] d with
  | none =>
    rw [eg] at h1
    exact h1.elim
  | some t' =>
    rw [eg] at h1
    obtain ⟨ow', r'⟩ := setVs_ok r1 dn eg
    obtain ⟨d1, d2, d3, rfl⟩ := len3 (setVs_length eg)
    obtain ⟨v1, w1, rfl, _, dn⟩ := dn
    obtain ⟨v2, w2, rfl, _, dn⟩ := dn
    obtain ⟨v3, w3, rfl, _, dn⟩ := dn
    cases (show w3 = [] from dn)
    exact ⟨v1, v2, v3, rfl, h1 p1 G1 H1 _ ow' r'⟩
end
section
variable {X : Cx} {W : WX} {a b c : Expr} {pos : Pos} {ma mb mc : DSt → M D} {op op' : CmpOp} {r r' : R2} {f f' : D → D → M D}
/-- a op b op' c -/
abbrev mChain (f f' : D → D → M D) (ma mb mc : DSt → M D) : DSt → M D := fun t => do let x ← ma t; let y ← mb t; let z ← f x y; if ← asB z then (do let w ← mc t; f' y w) else pure (.bl false)
theorem tChain_ok {K : PySem.W.Frag} (hb : By2 K r f) (hb' : By2 K r' f') {σ : L2.St} {H : Hp} {Q : VK} (h : tD K W (mChain f f' ma mb mc) σ H Q) : tChain r r' (tD K W ma) (tD K W mb) (tD K W mc) σ H Q := by
  obtain ⟨t, p, G, S, ow, rs, h⟩ := h
  refine ⟨t, p, G, S, ow, rs, okR.seq h fun d S1 v p1 G1 H1 e1 dn r1 x1 h1 => ?_⟩
  refine tD.next rs x1 r1 (okR.seq h1 fun d2 S2 v2 p2 G2 H2 e2 dn2 r2 x2 h2 => ?_)
  refine hb d d2 v v2 p2 G2 H2 S2 _ _ (dn.mono x2.pp x2.g) dn2 r2 (okR.seq h2 fun d3 S3 v3 p3 G3 H3 e3 dn3 r3 x3 h3 => ?_)
  cases d3 with
  | bl k =>
    cases (show v3 = V.bl k from dn3)
    refine ⟨k, rfl, ?_⟩
    cases k with
    | true =>
      rw [if_pos rfl]
      refine tD.next rs ((x1.trans x2).trans x3) r3 (okR.seq (show okR (Den K) K p3 G3 H3 _ ((do let w ← mc t; f' d2 w : M D) S3) Q from h3) fun d4 S4 v4 p4 G4 H4 e4 dn4 r4 x4 h4 => ?_)
      exact hb' d2 d4 v2 v4 p4 G4 H4 S4 _ Q (dn2.mono (x3.trans x4).pp (x3.trans x4).g) dn4 r4 h4
    | false =>
      rw [if_neg (by decide)]
      exact okR.fin (d := D.bl false) h3 rfl r3
  | _ => exact (h3 : False).elim
theorem de_chain (ho : OpR X (compareOp op) r) (ho' : OpR X (compareOp op') r') (hb : By2 X.K r f) (hb' : By2 X.K r' f') (h1 : DE X W a ma) (h2 : DE X W b mb) (h3 : DE X W c mc) (hm : lastMarks [op, op'] [b, c] = false := by with_unfolding_all rfl) :
    DE X W (.Compare a [op, op'] [b, c] pos) (mChain f f' ma mb mc) := PE.imp (pe_chain ho ho' h1 h2 h3 hm) fun _ _ _ h => tChain_ok hb hb' h
theorem dt_chain (ho : OpR X (compareOp op) r) (ho' : OpR X (compareOp op') r') (hb : By2 X.K r f) (hb' : By2 X.K r' f') (h1 : DE X W a ma) (h2 : DE X W b mb) (h3 : DE X W c mc) (hm : lastMarks [op, op'] [b, c] = false := by with_unfolding_all rfl) :
    DT X W (.Compare a [op, op'] [b, c] pos) (fun t => do let x ← mChain f f' ma mb mc t; asB x) := by
  refine PT.imp (pt_chain ho ho' h1 h2 h3 hm) fun σ H Q ⟨t, p, G, S, ow, rs, h⟩ => ?_
  refine tChain_ok hb hb' ⟨t, p, G, S, ow, rs, okR.seq h fun d S1 v p1 G1 H1 e1 dn r1 x1 h1 => ?_⟩
  cases d with
  | bl k => exact ⟨k, dn, okR.fin (d := k) h1 rfl r1⟩
  | _ => exact (h1 : False).elim
end
/-! ### dict displays -/
section
variable {X : Cx} {W : WX} {pos : Pos}
def dicD (ks : List Key) (xs : List D) : M D := if ks.Nodup ∧ ks.length ≤ 15 ∧ xs.length = ks.length then pure (.dic ks xs) else stuck
theorem mergeK_nodup : ∀ {ks : List Key} {vs : List V} {acc : List (Key × V)}, ks.Nodup → (∀ k ∈ ks, valV acc k = none) → mergeK acc (ks.zip vs) = acc ++ ks.zip vs
  | [], vs, acc, _, _ => by simp [mergeK]
  | k :: ks, [], acc, _, _ => by simp [mergeK]
  | k :: ks, v :: vs, acc, nd, h => by
    have nd' := List.nodup_cons.mp nd
    show mergeK (putK acc k v) (ks.zip vs) = _
    rw [putK_new v (h k (by simp)), mergeK_nodup nd'.2 fun z hz => ?_]
    · simp
    · have h1 := h z (by simp [hz])
      have ne : k ≠ z := by rintro rfl; exact nd'.1 hz
      unfold valV at h1 ⊢
      rw [List.find?_append]
      cases q : List.find? (fun kv => decide (kv.1 = z)) acc with
      | none => simp [List.find?_cons, ne]
      | some y => rw [q] at h1; simp at h1
theorem frozen_at {K : PySem.W.Frag} {p p' : List (List Addr)} {G H G' H' : Hp} {S' : Sto} {a : Addr} (o : HO) (x : Ext p G H p' G' H') (r : Rel0 K p' S' G' H') (h0 : H a = none) (h3 : G' a = none) (h4 : a ∉ p'.flatten) : Rel0 K p' S' (upd G' a o) (upd H' a o) ∧ Ext p G H p' (upd G' a o) (upd H' a o) := by
  refine ⟨⟨fun b u e => ?_, r.len, fun i as u e1 e2 => (r.mo i as u e1 e2).mono ⟨[], by simp⟩ (Same.upd_of h3) fun b hb => ?_, r.nd, fun b hb => ?_⟩, ⟨x.g.trans (Same.upd_of h3), fun b hb1 hb2 => ?_, fun b u hb1 hb2 => ?_, fun b hb => ?_, x.p⟩⟩
  · by_cases q : b = a
    · subst q; rw [upd_same] at e ⊢; exact e
    · rw [upd_ne q] at e ⊢; exact r.sub b u e
  · have : b ≠ a := by
      rintro rfl
      exact h4 (List.mem_flatten.mpr ⟨as, List.mem_of_getElem? e1, hb⟩)
    exact upd_ne this
  · have : b ≠ a := by rintro rfl; exact h4 hb
    rw [upd_ne this]; exact r.gn b hb
  · have : b ≠ a := by rintro rfl; exact hb2 h0
    rw [upd_ne this]; exact x.gn b hb1 hb2
  · have : b ≠ a := by rintro rfl; rw [h0] at hb1; cases hb1
    rw [upd_ne this]; exact x.h b u hb1 hb2
  · by_cases q : b = a
    · subst q; rw [upd_same]; simp
    · rw [upd_ne q]; exact x.d b hb
structure DP (X : Cx) (W : WX) (pos : Pos) (keys : List (Option Expr)) (values : List Expr) (ks : List Key) (m : DSt → M (List D)) : Prop where
  ex : ∃ trs, PPs X pos keys values trs ∧ ∀ σ H Q, (tDA X.K W m) σ H (fun vs H' => vs.length = ks.length → Q ((ks.zip vs).map fun kv => (kV kv.1, kv.2)) H') → tPairs trs σ H Q
  len : ∀ t S xs S', m t S = .ok xs S' → xs.length = ks.length
theorem dp_nil : DP X W pos [] [] [] (fun _ => pure []) := ⟨⟨[], pps_nil, fun σ H Q ⟨t, p, G, S, ow, r, h⟩ => okR.fin (d := []) h DenL.nil r.rel rfl⟩, fun t S xs S' e => by cases e; rfl⟩
theorem dp_cons {ke ve : Expr} {keys : List (Option Expr)} {values : List Expr} {k : Key} {ks : List Key} {mv : DSt → M D} {m : DSt → M (List D)} (hk : PE X ke (tC (kV k))) (hv : DE X W ve mv) (hr : DP X W pos keys values ks m) :
    DP X W pos (some ke :: keys) (ve :: values) (k :: ks) (fun t => do let x ← mv t; let xs ← m t; pure (x :: xs)) := by
  obtain ⟨⟨trs, h1, h2⟩, hl⟩ := hr
  refine ⟨⟨_, pps_cons hk hv h1, fun σ H Q ⟨t, p, G, S, ow, r, h⟩ => ?_⟩, fun t S xs S' e => ?_⟩
  · refine ⟨t, p, G, S, ow, r, okR.seq h fun d S1 v p1 G1 H1 e1 dn r1 x1 h1 => ?_⟩
    refine h2 _ _ _ (tDA.next r x1 r1 (okR.seq h1 fun d2 S2 v2 p2 G2 H2 e2 dn2 r2 x2 h3 => ?_))
    intro hz
    exact okR.fin (d := d :: d2) h3 (DenL.cons (dn.mono x2.pp x2.g) dn2) r2 (by rw [List.length_cons, List.length_cons, hz])
  · have e' : ((mv t S).andThen fun x => (do let xs ← m t; pure (x :: xs) : M (List D))) = .ok xs S' := e
    cases q : mv t S with
    | ok x S1 =>
      rw [q] at e'
      have e2 : ((m t S1).andThen fun xs => (pure (x :: xs) : M (List D))) = .ok xs S' := e'
      cases q2 : m t S1 with
      | ok ys S2 =>
        rw [q2] at e2
        cases e2
        rw [List.length_cons, List.length_cons, hl _ _ _ _ q2]
      | exc z S2 => rw [q2] at e2; cases e2
      | stuck => rw [q2] at e2; cases e2
    | exc z S1 => rw [q] at e'; cases e'
    | stuck => rw [q] at e'; cases e'
theorem de_dict {keys : List (Option Expr)} {values : List Expr} {ks : List Key} {m : DSt → M (List D)} (h : DP X W pos keys values ks m) (hall : keys.all (·.isSome) = true := by rfl) (hl : keys.length = values.length := by rfl) (h0 : keys ≠ [] := by intro h; cases h) (h15 : keys.length ≤ 15 := by decide) :
    DE X W (.Dict keys values pos) (fun t => do let xs ← m t; dicD ks xs) := by
  obtain ⟨⟨trs, h1, h2⟩, hlen⟩ := h
  refine PE.imp (pe_disp h1 hall hl h0 h15) fun σ H Q ⟨t, p, G, S, ow, r, h⟩ a ha => ?_
  have ga := r.rel.gfree ha
  have pa : a ∉ p.flatten := fun z => r.rel.dom z ha
  have aow : a ∉ ow := fun z => r.sl.dom a z ha
  have x0 : Ext p G H p G (upd H a (.dK [])) := ⟨Same.refl _, fun _ h _ => h, fun b o e _ => by rw [upd_ne (ne_of_none e ha)]; exact e, fun b hb => by
    by_cases q : b = a
    · subst q; rw [upd_same]; simp
    · rw [upd_ne q]; exact hb, [], by simp, by simp⟩
  have r0 := r.rel.own (.dK []) pa ga
  have rs0 := r.ext x0 r0
  refine h2 _ _ _ ⟨t, p, G, S, ow, rs0, ?_⟩
  have h' : okR (Den X.K) X.K p G H (fun c d H' => W c d σ H') ((m t S).andThen (dicD ks)) Q := h
  cases e : m t S with
  | stuck =>
    rw [e] at h'
    exact h'
  | exc z S1 =>
    rw [e] at h'
    exact fun cls dd p' G' H' y1 y2 y3 => h' cls dd p' G' H' y1 y2 (x0.trans y3)
  | ok xs S1 =>
    rw [e] at h'
    intro vs p' G' H' dn r' x' hvl
    have hH : H' a = some (.dK []) := x'.h a _ upd_same pa
    have hG : G' a = none := x'.gn a ga (by rw [upd_same]; simp)
    obtain ⟨q, eq, fq⟩ := x'.p
    have hp : a ∉ p'.flatten := by
      rw [eq, List.flatten_append, List.mem_append]
      rintro (z | z)
      · exact pa z
      · have := fq a z
        rw [upd_same] at this
        cases this
    have h3 : okR (Den X.K) X.K p G H (fun c d H' => W c d σ H') (dicD ks xs S1) Q := h'
    unfold dicD at h3
    split at h3
    · rename_i cond
      have zz := List.length_zip (l₁ := ks) (l₂ := vs)
      refine ⟨hH, ks.zip vs, rfl, by omega, ?_⟩
      rw [mergeK_nodup cond.1 (fun _ _ => rfl), List.nil_append]
      obtain ⟨R1, R2⟩ := frozen_at (.dK (ks.zip vs)) (x0.trans x') r' ha hG hp
      exact h3 (.ref a) p' _ _ ⟨a, vs, rfl, upd_same, hvl, dn.upd hG⟩ R1 R2
    · exact (h3 : False).elim
theorem de_dict0 : DE X W (.Dict [] [] pos) (fun _ => pure (.dic [] [])) := by
  refine PE.imp pe_dnewK fun σ H Q ⟨t, p, G, S, ow, r, h⟩ a ha => ?_
  obtain ⟨R1, R2⟩ := r.rel.new (.dK []) ha
  exact h (.ref a) p _ _ ⟨a, [], rfl, upd_same, rfl, rfl⟩ R1 R2
end
end RM

/-! RM: a, b = e, f where some of the values are new lists for their slots alone. -/
namespace RM
open PySem PySem.Spec PyProof.Rows L2
def okM (K : PySem.W.Frag) (p : List (List Addr)) (G H : Hp) (W : Value → Option Addr → Hp → Prop) (r : Res (List DV)) (Q : List V → Hp → Prop) : Prop := match r with
  | .ok xs S' => ∀ vs p' G' H' ow', SlotsR K p' G' H' (xs.map some) (vs.map some) ow' → (p'.flatten ++ ow').Nodup → (∀ a ∈ ow', G' a = none ∧ H a = none) → Rel0 K p' S' G' H' → Ext p G H p' G' H' → Q vs H'
  | .exc e S' => ∀ cls dd p' G' H', ExcAt K p' G' e cls dd → Rel0 K p' S' G' H' → Ext p G H p' G' H' → W cls dd H'
  | .stuck => False
def tDM (K : PySem.W.Frag) (W : WX) (m : DSt → M (List DV)) : TA := fun σ H Q => ∃ t p G S ow, RelS K p G S H t σ ow ∧ okM K p G H (fun c d H' => W c d σ H') (m t S) Q
abbrev DM (X : Cx) (W : WX) (es : List Expr) (m : DSt → M (List DV)) : Prop := PA X es (tDM X.K W m)
section
variable {K : PySem.W.Frag} {p p1 : List (List Addr)} {G H G1 H1 : Hp} {W : Value → Option Addr → Hp → Prop} {Q : List V → Hp → Prop}
theorem Ext.none {a : Addr} (e : Ext p G H p1 G1 H1) (h : H1 a = none) : H a = none := by
  cases q : H a with
  | none => rfl
  | some o => exact absurd h (e.d a (by rw [q]; simp))
theorem okM.ext {r : Res (List DV)} (h : okM K p G H W r Q) (e : Ext p G H p1 G1 H1) : okM K p1 G1 H1 W r Q := by
  cases r with
  | ok d S' => exact fun vs p' G' H' ow' a1 a2 a3 a4 a5 => h vs p' G' H' ow' a1 a2 (fun b hb => ⟨(a3 b hb).1, e.none (a3 b hb).2⟩) a4 (e.trans a5)
  | exc x S' => exact fun cls dd p' G' H' a b c => h cls dd p' G' H' a b (e.trans c)
  | stuck => exact h
theorem okM.seq {α β : Type} {R1 : List (List Addr) → Hp → α → β → Prop} {S : Sto} {m : M α} {f : α → M (List DV)} {Q1 : β → Hp → Prop} (h : okM K p G H W ((m >>= f) S) Q)
    (k : ∀ d S1 v p1 G1 H1, R1 p1 G1 d v → Rel0 K p1 S1 G1 H1 → Ext p G H p1 G1 H1 → okM K p1 G1 H1 W (f d S1) Q → Q1 v H1) : okR R1 K p G H W (m S) Q1 := by
  have h' : okM K p G H W ((m S).andThen f) Q := h
  cases e : m S with
  | ok d S1 =>
    rw [e] at h'
    exact fun v p1 G1 H1 a b c => k d S1 v p1 G1 H1 a b c (okM.ext h' c)
  | exc x S1 => rw [e] at h'; exact h'
  | stuck => rw [e] at h'; exact h'
theorem okM.seqF {S : Sto} {m : M (List D)} {f : List D → M (List DV)} {Q1 : VK} (h : okM K p G H W ((m >>= f) S) Q)
    (k : ∀ xs S1 l vs p1 G1 H1, H l = none → H1 l = some (.lst vs) → DenL K p1 G1 xs vs → G1 l = none → l ∉ p1.flatten → Rel0 K p1 S1 G1 H1 → Ext p G H p1 G1 H1 → okM K p G H W (f xs S1) Q → Q1 (.ref l) H1) : okF K p G H W (m S) Q1 := by
  have h' : okM K p G H W ((m S).andThen f) Q := h
  cases e : m S with
  | ok d S1 =>
    rw [e] at h'
    exact fun l vs p1 G1 H1 h0 h1 h2 h3 h4 r1 x1 => k d S1 l vs p1 G1 H1 h0 h1 h2 h3 h4 r1 x1 h'
  | exc x S1 => rw [e] at h'; exact h'
  | stuck => rw [e] at h'; exact h'
end
section
variable {X : Cx} {W : WX} {a : Expr} {es : List Expr} {ma : DSt → M D} {mf : DSt → M (List D)} {ms : DSt → M (List DV)}
theorem dm_nil : DM X W [] (fun _ => pure []) := PA.imp pa_nil fun σ H Q ⟨t, p, G, S, ow, r, h⟩ => h [] p G H [] ⟨rfl, rfl⟩ (by rw [List.append_nil]; exact r.rel.nd) (fun _ hb => by cases hb) r.rel (Ext.refl _ _ _)
theorem dm_val (ha : DE X W a ma) (hr : DM X W es ms) (hs : starEach (a :: es) X.env = (false, eval a X.env) :: starEach es X.env := by rfl) : DM X W (a :: es) (fun t => do let x ← ma t; let xs ← ms t; pure (.val x :: xs)) := by
  refine PA.imp (pa_cons ha hr hs) fun σ H Q ⟨t, p, G, S, ow, r, h⟩ => ⟨t, p, G, S, ow, r, okM.seq h fun d S1 v p1 G1 H1 dn r1 x1 h1 => ⟨t, p1, G1, S1, ow, r.ext x1 r1, ?_⟩⟩
  have h2 : okM X.K p1 G1 H1 (fun c d H' => W c d σ H') ((ms t S1).andThen fun xs => pure (.val d :: xs)) Q := h1
  cases e : ms t S1 with
  | ok xs S2 =>
    rw [e] at h2
    intro vs p2 G2 H2 ow2 a1 a2 a3 a4 a5
    exact h2 (v :: vs) p2 G2 H2 ow2 ⟨some v, vs.map some, [], ow2, rfl, rfl, ⟨rfl, v, rfl, dn.mono a5.pp a5.g⟩, a1⟩ a2 a3 a4 a5
  | exc x S2 => rw [e] at h2; exact h2
  | stuck => rw [e] at h2; exact h2
theorem dm_own (ha : DF X W a mf) (hr : DM X W es ms) (hs : starEach (a :: es) X.env = (false, eval a X.env) :: starEach es X.env := by rfl) : DM X W (a :: es) (fun t => do let x ← mf t; let xs ← ms t; pure (.own x :: xs)) := by
  refine PA.imp (pa_cons ha hr hs) fun σ H Q ⟨t, p, G, S, ow, r, h⟩ => ⟨t, p, G, S, ow, r, okM.seqF h fun zs S1 l us p1 G1 H1 h0 hl dn gl pl r1 x1 h1 => ⟨t, p1, G1, S1, ow, r.ext x1 r1, ?_⟩⟩
  have h2 : okM X.K p G H (fun c d H' => W c d σ H') ((ms t S1).andThen fun xs => pure (.own zs :: xs)) Q := h1
  cases e : ms t S1 with
  | ok xs S2 =>
    rw [e] at h2
    intro vs p2 G2 H2 ow2 a1 a2 a3 a4 a5
    have l2 : H2 l = some (.lst us) := a5.h l _ hl pl
    have g2 : G2 l = none := a5.gn l gl (by rw [hl]; simp)
    have p2l : l ∉ p2.flatten := by
      obtain ⟨q, eq, fq⟩ := a5.p
      rw [eq, List.flatten_append, List.mem_append]
      rintro (z | z)
      · exact pl z
      · rw [fq l z] at hl; cases hl
    have l3 : l ∉ ow2 := fun z => by rw [(a3 l z).2] at hl; cases hl
    refine h2 (.ref l :: vs) p2 G2 H2 (l :: ow2) ⟨some (.ref l), vs.map some, [l], ow2, rfl, rfl, ⟨l, us, rfl, rfl, l2, dn.mono a5.pp a5.g⟩, a1⟩ ?_ (fun b hb => ?_) a4 (x1.trans a5)
    · refine (List.perm_middle.nodup_iff).mpr (List.nodup_cons.mpr ⟨?_, a2⟩)
      rw [List.mem_append]
      rintro (z | z)
      · exact p2l z
      · exact l3 z
    · rcases List.mem_cons.mp hb with rfl | hb
      · exact ⟨g2, h0⟩
      · exact ⟨(a3 b hb).1, x1.none (a3 b hb).2⟩
  | exc x S2 =>
    rw [e] at h2
    exact fun cls dd p' G' H' y1 y2 y3 => h2 cls dd p' G' H' y1 y2 (x1.trans y3)
  | stuck => rw [e] at h2; exact h2
end
def setMs : DSt → List Nat → List DV → Option DSt
  | t, [], [] => some t
  | t, i :: is, v :: vs => if i < t.length then setMs (t.set i (some v)) is vs else none
  | _, _, _ => none
theorem setMs_len : ∀ {is : List Nat} {t t' : DSt} {ds : List DV}, setMs t is ds = some t' → ds.length = is.length
  | [], _, _, [], _ => rfl
  | [], _, _, _ :: _, e => by cases e
  | _ :: _, _, _, [], e => by cases e
  | i :: is, t, t', d :: ds, e => by
    unfold setMs at e
    by_cases h : i < t.length
    · rw [if_pos h] at e
      rw [List.length_cons, List.length_cons, setMs_len e]
    · rw [if_neg h] at e; cases e
theorem setMs_ok {K : PySem.W.Frag} {n : Snap} {p : List (List Addr)} {G H : Hp} {S : Sto} : ∀ {is : List Nat} {t t' : DSt} {σ : L2.St} {ow ow2 : List Addr} {ds : List DV} {vs : List V}, RelF K n p G S H t σ ow → SlotsR K p G H (ds.map some) (vs.map some) ow2 → (p.flatten ++ (ow ++ ow2)).Nodup → (∀ a ∈ ow2, G a = none ∧ n.H a = none) → setMs t is ds = some t' →
    ∃ ow', RelF K n p G S H t' ((is.zip vs).foldl (fun s q => s.set q.1 (some q.2)) σ) ow'
  | [], t, t', σ, ow, ow2, ds, vs, r, sl, nd, fr, e => by
    cases ds with
    | nil =>
      cases e
      exact ⟨ow, r⟩
    | cons => cases e
  | i :: is, t, t', σ, ow, ow2, [], vs, r, sl, nd, fr, e => by cases e
  | i :: is, t, t', σ, ow, ow2, d :: ds, vs, r, sl, nd, fr, e => by
    obtain ⟨v, w, l, k, h1, h2, h3, h4⟩ := sl
    cases vs with
    | nil => cases h1
    | cons v0 vs =>
      have e1 : v = some v0 ∧ w = vs.map some := by
        rw [List.map_cons] at h1
        cases h1
        exact ⟨rfl, rfl⟩
      obtain ⟨rfl, rfl⟩ := e1
      unfold setMs at e
      by_cases hi : i < t.length
      · rw [if_pos hi] at e
        obtain ⟨u, l0, b, eo, q⟩ := SlotsR.set (s := some d) (v := some v0) (l' := l) h3 i hi r.rs.sl
        subst eo
        subst h2
        have perm : (p.flatten ++ (u ++ l0 ++ b ++ (l ++ k))).Perm ((p.flatten ++ (u ++ l ++ b ++ k)) ++ l0) := by
          rw [List.perm_iff_count]
          intro x
          simp only [List.count_append]
          omega
        have nd2 : (p.flatten ++ (u ++ l ++ b ++ k)).Nodup := (List.nodup_append.mp (perm.nodup_iff.mp nd)).1
        have nd3 : (p.flatten ++ (u ++ l ++ b)).Nodup := by
          rw [← List.append_assoc] at nd2
          exact (List.nodup_append.mp nd2).1
        have mem : ∀ x ∈ u ++ l ++ b, x ∈ u ++ l0 ++ b ∨ x ∈ l := fun x hx => by
          simp only [List.mem_append] at hx ⊢
          rcases hx with (z | z) | z
          · exact .inl (.inl (.inl z))
          · exact .inr z
          · exact .inl (.inr z)
        have r2 : RelF K n p G S H (t.set i (some d)) (σ.set i (some v0)) (u ++ l ++ b) := by
          refine ⟨⟨r.rs.rel, q, nd3, fun x hx => ?_⟩, r.ext, fun x hx => ?_, r.fp, r.fg⟩
          · rcases mem x hx with z | z
            · exact r.rs.gn x z
            · exact (fr x (List.mem_append_left _ z)).1
          · rcases mem x hx with z | z
            · exact r.own x z
            · exact (fr x (List.mem_append_left _ z)).2
        exact setMs_ok (is := is) r2 h4 nd2 (fun x hx => fr x (List.mem_append_right _ hx)) e
      · rw [if_neg hi] at e
        cases e
section
variable {X : Cx} {W : Wf} {pos : Pos}
theorem okS.parM {K : PySem.W.Frag} {n : Snap} {E : Ends} {p : List (List Addr)} {G H : Hp} {S : Sto} {t : DSt} {σ : L2.St} {ow : List Addr} {m : M (List DV)} {is : List Nat} (h : okS K W n ((do let xs ← m; let t' ← liftO (setMs t is xs); pure (.nx t') : M Ctl) S) E) (r : RelF K n p G S H t σ ow) {Q : List V → Hp → Prop}
    (k : ∀ (vs : List V) (H' : Hp), vs.length = is.length → E.nx ((is.zip vs).foldl (fun s q => s.set q.1 (some q.2)) σ) H' → Q vs H') : okM K p G H (fun c d H' => W c d H') (m S) Q := by
  have h' : okS K W n ((m S).andThen fun xs => (do let t' ← liftO (setMs t is xs); pure (.nx t') : M Ctl)) E := h
  cases e : m S with
  | ok xs S1 =>
    rw [e] at h'
    intro vs p1 G1 H1 ow1 a1 a2 a3 a4 a5
    have h2 : okS K W n ((do let t' ← liftO (setMs t is xs); pure (.nx t') : M Ctl) S1) E := h'
    cases eg : setMs t is xs with
    | none => rw [eg] at h2; exact h2.elim
    | some t' =>
      rw [eg] at h2
      have r1 := r.step a5 a4
      have dom : ∀ x ∈ ow, H x ≠ none := r.rs.sl.dom
      have nd : (p1.flatten ++ (ow ++ ow1)).Nodup := by
        have perm : (p1.flatten ++ (ow ++ ow1)).Perm (ow ++ (p1.flatten ++ ow1)) := by
          rw [List.perm_iff_count]
          intro x
          simp only [List.count_append]
          omega
        refine perm.nodup_iff.mpr (List.nodup_append.mpr ⟨(List.nodup_append.mp r1.rs.nd).2.1, a2, fun x hx y hy exy => ?_⟩)
        subst exy
        rcases List.mem_append.mp hy with z | z
        · exact (List.nodup_append.mp r1.rs.nd).2.2 x z x hx rfl
        · exact dom x hx (a3 x z).2
      obtain ⟨ow', r2⟩ := setMs_ok r1 a1 nd (fun x hx => ⟨(a3 x hx).1, r.ext.none (a3 x hx).2⟩) eg
      have vl : vs.length = is.length := by
        have key : ∀ (xs : List DV) (vs : List V) (ow1 : List Addr), SlotsR K p1 G1 H1 (xs.map some) (vs.map some) ow1 → vs.length = xs.length := by
          intro xs
          induction xs with
          | nil =>
            intro vs ow1 h
            have : vs.map some = [] := h.1
            simpa using this
          | cons x xs ih =>
            intro vs ow1 ⟨v, w, l, k, h1, h2, h3, h4⟩
            cases vs with
            | nil => cases h1
            | cons v0 vs =>
              rw [List.map_cons] at h1
              cases h1
              rw [List.length_cons, List.length_cons, ih vs _ h4]
        rw [key _ _ _ a1, setMs_len eg]
      exact k vs H1 vl (h2 p1 G1 H1 _ ow' r2)
  | exc x S1 =>
    rw [e] at h'
    exact fun cls dd p1 G1 H1 a b c => h' cls dd p1 G1 H1 a b (r.ext.trans c)
  | stuck => rw [e] at h'; exact h'
theorem ds_parM2 (i j : Nat) {x y : Str} {a b : Expr} {ms : DSt → M (List DV)} {px py pt : Pos} {kt k2 pt2} (hc : X.calm = true) (hN : X.N.Nodup) (hi : X.N[i]? = some x) (hj : X.N[j]? = some y) (hij : i ≠ j) (hx : X.env.scope.names.lookup x = some .local) (hy : X.env.scope.names.lookup y = some .local) (ha : DM X W.x [a, b] ms)
    (hw : swappedStores [.Tuple [.Name x px, .Name y py] kt pt] (.Tuple [a, b] k2 pt2) X.env = pure (some [x, y]) := by rfl) (hs : swapsWithSole [.Tuple [.Name x px, .Name y py] kt pt] (.Tuple [a, b] k2 pt2) pos.line X.env = pure false := by rfl) :
    DS X W (.Assign [.Tuple [.Name x px, .Name y py] kt pt] (.Tuple [a, b] k2 pt2) pos) (fun t => do let xs ← ms t; let t' ← liftO (setMs t [i, j] xs); pure (.nx t')) := by
  refine PS.imp (ps_par hc hN hi hj hij hx hy ha hw hs) fun E σ H ⟨n, t, p, G, S, ow, r, h⟩ => ?_
  refine ⟨t, p, G, S, ow, r.rs, okS.parM h r fun vs H' hl q => ?_⟩
  obtain ⟨v1, v2, rfl⟩ := len2 hl
  exact ⟨v1, v2, rfl, q⟩
theorem ds_parM3 (i j l : Nat) {x y z : Str} {a b c : Expr} {ms : DSt → M (List DV)} {px py pz pt : Pos} {kt k2 pt2} (hc : X.calm = true) (hN : X.N.Nodup) (hi : X.N[i]? = some x) (hj : X.N[j]? = some y) (hl : X.N[l]? = some z) (hij : i ≠ j) (hil : i ≠ l) (hjl : j ≠ l) (hx : X.env.scope.names.lookup x = some .local) (hy : X.env.scope.names.lookup y = some .local) (hz : X.env.scope.names.lookup z = some .local) (ha : DM X W.x [a, b, c] ms)
    (hw : swappedStores [.Tuple [.Name x px, .Name y py, .Name z pz] kt pt] (.Tuple [a, b, c] k2 pt2) X.env = pure (some [x, y, z]) := by rfl) (hs : swapsWithSole [.Tuple [.Name x px, .Name y py, .Name z pz] kt pt] (.Tuple [a, b, c] k2 pt2) pos.line X.env = pure false := by rfl) :
    DS X W (.Assign [.Tuple [.Name x px, .Name y py, .Name z pz] kt pt] (.Tuple [a, b, c] k2 pt2) pos) (fun t => do let xs ← ms t; let t' ← liftO (setMs t [i, j, l] xs); pure (.nx t')) := by
  refine PS.imp (ps_par3 hc hN hi hj hl hij hil hjl hx hy hz ha hw hs) fun E σ H ⟨n, t, p, G, S, ow, r, h⟩ => ?_
  refine ⟨t, p, G, S, ow, r.rs, okS.parM h r fun vs H' hl q => ?_⟩
  obtain ⟨v1, v2, v3, rfl⟩ := len3 hl
  exact ⟨v1, v2, v3, rfl, q⟩
end
end RM

/-! RM: an own list lent to a call or a comparison. -/
namespace RM
open PySem PySem.Spec PyProof.Rows L2
def era (G : Hp) (l : Addr) : Hp := fun a => if a = l then none else G a
theorem era_ne {G : Hp} {l a : Addr} (h : a ≠ l) : era G l a = G a := if_neg h
theorem era_same {G : Hp} {l : Addr} : era G l l = none := if_pos rfl
mutual
theorem Den.era {K : PySem.W.Frag} {p : List (List Addr)} {G : Hp} {l : Addr} {ws : List V} (hl : G l = some (.lst ws)) : ∀ {d : D} {v : V}, noLst d = true → Den K p G d v → Den K p (RM.era G l) d v
  | .non, _, _, h => h
  | .bl _, _, _, h => h
  | .int _, _, _, h => h
  | .str _, _, _, h => h
  | .tup xs, _, n, ⟨a, vs, h1, h2, h3⟩ => by
    refine ⟨a, vs, h1, ?_, DenL.era hl (show noLstL xs = true from n) h3⟩
    rcases h2 with (h | ⟨o, h⟩) | h
    · exact .inl (.inl ((era_ne (by rintro rfl; rw [hl] at h; cases h)).trans h))
    · exact .inl (.inr ⟨o, (era_ne (by rintro rfl; rw [hl] at h; cases h)).trans h⟩)
    · exact .inr h
  | .lst _, _, n, _ => by cases n
  | .ins _ _ fs, _, n, ⟨a, dx, vs, h1, h2, h4, h3⟩ => ⟨a, dx, vs, h1, (era_ne (by rintro rfl; rw [hl] at h2; cases h2)).trans h2, h4, DenL.era hl (show noLstL fs = true from n) h3⟩
  | .mref _, _, _, h => h
  | .dic _ xs, _, n, ⟨a, vs, h1, h2, h4, h3⟩ => ⟨a, vs, h1, (era_ne (by rintro rfl; rw [hl] at h2; cases h2)).trans h2, h4, DenL.era hl (show noLstL xs = true from n) h3⟩
  | .scr _, _, n, _ => by cases n
  | .xcp _ _ fs, _, n, ⟨a, dd, vs, h1, h2, h3, h4, h5⟩ => ⟨a, dd, vs, h1, (era_ne (by rintro rfl; rw [hl] at h2; unfold XcO at h2; cases h2)).trans h2, h3.imp id fun ⟨d, q1, q2⟩ => ⟨d, q1, (era_ne (by rintro rfl; rw [hl] at q2; cases q2)).trans q2⟩, h4, DenL.era hl (show noLstL fs = true from n) h5⟩
theorem DenL.era {K : PySem.W.Frag} {p : List (List Addr)} {G : Hp} {l : Addr} {ws : List V} (hl : G l = some (.lst ws)) : ∀ {ds : List D} {vs : List V}, noLstL ds = true → DenL K p G ds vs → DenL K p (RM.era G l) ds vs
  | [], _, _, h => h
  | d :: ds, _, n, ⟨v, r, h1, h2, h3⟩ => by
    have n' := Bool.and_eq_true_iff.mp (show (noLst d && noLstL ds) = true from n)
    exact ⟨v, r, h1, Den.era hl n'.1 h2, DenL.era hl n'.2 h3⟩
end
theorem MoAt.era {K : PySem.W.Frag} {p : List (List Addr)} {G H : Hp} {l : Addr} {ws : List V} (hl : G l = some (.lst ws)) : ∀ {as : List Addr} {o : MO}, MoAt K p G H as o → MoAt K p (RM.era G l) H as o
  | [_, _, _], .tape _, h => h
  | [_], .inst _ _ fs, ⟨n, dx, vs, h1, h2, h3⟩ => ⟨n, dx, vs, h1, h2, h3.era hl n⟩
  | [_], .tab _ _, ⟨h0, ps, h1, h2, h3⟩ => ⟨h0, ps, h1, h2, fun pos cv z => let ⟨c, e1, e2⟩ := h3 pos cv z; ⟨c, e1, (era_ne (by rintro rfl; rw [hl] at e2; unfold LamX.CodeO at e2; cases e2)).trans e2⟩⟩
def checked {β : Type} (ok : β → Bool) : Res β → Res β
  | .ok d S' => if ok d = true then .ok d S' else .stuck
  | _ => .stuck
/-! ### any expression that reads an own list and whose value holds no list -/
section
variable {K : PySem.W.Frag} {p : List (List Addr)} {G H : Hp} {S : Sto} {t : DSt} {σ : L2.St} {ow : List Addr} {i : Nat} {xs : List D}
theorem RelS.lend (r : RelS K p G S H t σ ow) (e : t[i]? = some (some (.own xs))) : ∃ l ws ow', G l = none ∧ l ∉ p.flatten ∧ RelS K p (upd G l (.lst ws)) S H (t.set i (some (.val (.lst xs)))) σ ow' := by
  obtain ⟨a, vs, x, y, eo, hH, dn, q⟩ := r.sl.ice e
  have ha : a ∈ ow := by rw [eo]; simp
  have ga := r.gn a ha
  have pa : a ∉ p.flatten := fun z => (List.nodup_append.mp r.nd).2.2 a z a ha rfl
  have ndo := (List.nodup_append.mp r.nd).2.1
  have sub : ∀ b ∈ x ++ y, b ∈ ow ∧ b ≠ a := fun b hb => by
    rw [eo] at ndo ⊢
    refine ⟨by simp at hb ⊢; rcases hb with z | z <;> simp [z], ?_⟩
    rintro rfl
    exact (List.nodup_cons.mp (List.perm_middle.nodup_iff.mp ndo)).1 hb
  have sm : Same G (upd G a (.lst vs)) := Same.upd_of ga
  refine ⟨a, vs, x ++ y, ga, pa, ⟨fun b o z => ?_, r.rel.len, fun i as o e1 e2 => (r.rel.mo i as o e1 e2).ice sm, r.rel.nd, fun b hb => ?_⟩, q ga, ?_, fun b hb => ?_⟩
  · by_cases w : b = a
    · subst w; rw [upd_same] at z; cases z; exact hH
    · rw [upd_ne w] at z; exact r.rel.sub b o z
  · rw [upd_ne (by rintro rfl; exact pa hb)]; exact r.rel.gn b hb
  · rw [eo] at r
    have : (p.flatten ++ (x ++ y)).Sublist (p.flatten ++ (x ++ a :: y)) := List.Sublist.append (List.Sublist.refl _) (List.Sublist.append (List.Sublist.refl _) (List.sublist_cons_self a y))
    exact r.nd.sublist this
  · rw [upd_ne (sub b hb).2]
    exact r.gn b (sub b hb).1
theorem lent_back {β γ : Type} {R : List (List Addr) → Hp → β → γ → Prop} {W W' : Value → Option Addr → Hp → Prop} {Q : γ → Hp → Prop} {l : Addr} {ws : List V} {r : Res β} {ok : β → Bool} (hR : ∀ p G d v, ok d = true → G l = some (.lst ws) → R p G d v → R p (era G l) d v) (gl : G l = none)
    (h : okR R K p G H W (checked ok r) Q) : okR R K p (upd G l (.lst ws)) H W' r Q := by
  cases r with
  | stuck => exact h.elim
  | exc e S' => exact (show False from h).elim
  | ok w S2 =>
    have h3 : okR R K p G H W (if ok w = true then .ok w S2 else .stuck) Q := h
    by_cases hf : ok w = true
    · rw [if_pos hf] at h3
      intro v2 p2 G2 H2 dv r2 x2
      have gl2 : G2 l = some (.lst ws) := x2.g l _ upd_same
      refine h3 v2 p2 (era G2 l) H2 (hR _ _ _ _ hf gl2 dv) ⟨fun b o z => ?_, r2.len, fun j as o z1 z2 => (r2.mo j as o z1 z2).era gl2, r2.nd, fun b hb => ?_⟩ ⟨fun b o z => ?_, fun b z1 z2 => ?_, x2.h, x2.d, x2.p⟩
      · by_cases w : b = l
        · subst w; rw [era_same] at z; cases z
        · rw [era_ne w] at z; exact r2.sub b o z
      · by_cases w : b = l
        · subst w; exact era_same
        · rw [era_ne w]; exact r2.gn b hb
      · have w : b ≠ l := by rintro rfl; rw [gl] at z; cases z
        rw [era_ne w]
        exact x2.g b o (by rw [upd_ne w]; exact z)
      · by_cases w : b = l
        · subst w; exact era_same
        · rw [era_ne w]
          exact x2.gn b (by rw [upd_ne w]; exact z1) z2
    · rw [if_neg hf] at h3
      exact h3.elim
end
/-- the i-th slot's list is lent -/
def lend (i : Nat) (m : DSt → M D) (t : DSt) : M D := fun S => match t[i]? with
  | some (some (.own xs)) => checked noLst (m (t.set i (some (.val (.lst xs)))) S)
  | _ => m t S
def lendT (i : Nat) (m : DSt → M Bool) (t : DSt) : M Bool := fun S => match t[i]? with
  | some (some (.own xs)) => checked (fun _ => true) (m (t.set i (some (.val (.lst xs)))) S)
  | _ => m t S
section
variable {X : Cx} {W : WX} {e : Expr} {m : DSt → M D} {mt : DSt → M Bool}
theorem de_lent (i : Nat) (h : DE X W e m) : DE X W e (lend i m) := by
  refine PE.imp h fun σ H Q ⟨t, p, G, S, ow, r, q⟩ => ?_
  unfold lend at q
  split at q
  · rename_i xs ei
    obtain ⟨l, ws, ow', gl, pl, r'⟩ := r.lend ei
    exact ⟨_, p, _, S, ow', r', lent_back (ok := noLst) (fun p G d v n g dn => dn.era g n) gl q⟩
  · exact ⟨t, p, G, S, ow, r, q⟩
theorem dt_lent (i : Nat) (h : DT X W e mt) : DT X W e (lendT i mt) := by
  refine PT.imp h fun σ H Q ⟨t, p, G, S, ow, r, q⟩ => ?_
  unfold lendT at q
  split at q
  · rename_i xs ei
    obtain ⟨l, ws, ow', gl, pl, r'⟩ := r.lend ei
    exact ⟨_, p, _, S, ow', r', lent_back (ok := fun _ => true) (fun p G d v n g dn => dn) gl q⟩
  · exact ⟨t, p, G, S, ow, r, q⟩
end
end RM

/-! RM: the end of a law, the head's facts. -/
namespace RM
open PySem PySem.Spec PyProof.Rows L2

/-- the law's call, by its promise over data -/
theorem law_G {P : Program} {w : World} {K : PySem.W.Frag} {mg mb : Str → Option Value} {k : Nat} {fa a : Addr} {fd : FuncData} {x : Str} {g : List D → M D} {s : Shared} {us : List Value} {ns : List Int} {S' : Sto}
    (kin : K.In s.heap) (gl : s.heap.Ns mainGlobals mg) (bl : s.heap.Ns builtinsNs mb) (bb : ∀ x : Str, x ≠ "__name__" → mb x = bootBuiltins x) (lim : s.heap.NoLimit) (gens : s.gens = #[])
    (ha : s.heap.get? a = some { cls := .type "list", data := .seq us.toArray }) (hi : IntsAre us ns) (hl : ns.length ≤ sizeLine) (hr : Room k callerA)
    (F : ∀ base : Heap, K.In base → base.Ns mainGlobals mg → FnD P w K mg base k fa fd [x] g) (bd : ∀ (s : Shared) (u : Value), BindsTo s fd ⟨[u], []⟩ [(x, u)]) (hm : g [.scr ns] [] = .ok (.bl true) S') :
    codeAny (model P w) callerA (.call (.ref fa) ⟨[.ref a], []⟩) (fun r s' => r = .ok (.ret (.bool true)) ∧ OldK s.heap s'.heap ∧ s'.os = s.os ∧ AllBare s'.gens) s := by
  have rv := vals_ints hi
  -- only the script may be tracked; its place
  have main : ∀ H : Hp, (∀ b o, H b = some o → b = a ∧ o = .frz { cls := .type "list", data := .seq us.toArray } (.lst (ns.map V.int))) → SqL K H a (ns.map V.int) → (H a ≠ none → K.lookup a = none) →
      codeAny (model P w) callerA (.call (.ref fa) ⟨[.ref a], []⟩) (fun r s' => r = .ok (.ret (.bool true)) ∧ OldK s.heap s'.heap ∧ s'.os = s.os ∧ AllBare s'.gens) s := by
    intro H only seq far
    have hok : HOk P w H s.heap := fun b o e => by
      obtain ⟨rfl, rfl⟩ := only b o e
      exact ⟨ha, by rw [List.length_map]; exact hl, us, _, rv, ha⟩
    have free : ∀ {b : Addr} {o : Obj}, s.heap.get? b = some o → (∀ es ep, o.data = .dict es ep → H b = none) := fun {b o} e es ep d => by
      cases q : H b with
      | none => rfl
      | some u =>
        obtain ⟨rfl, _⟩ := only b u q
        rw [ha] at e
        cases e
        cases d
    have nsK : ∀ {b : Addr} {m : Str → Option Value}, s.heap.Ns b m → (hidT s.heap H).Ns b m := fun {b m} h => by
      obtain ⟨o, es, ep, e, d, rest⟩ := h
      exact ⟨o, es, ep, hidT_get e (free e es ep d), d, rest⟩
    have kb : K.In (hidT s.heap H) := fun b o e => by
      refine hidT_get (kin b o e) ?_
      cases q : H b with
      | none => rfl
      | some u =>
        obtain ⟨rfl, _⟩ := only b u q
        rw [far (by rw [q]; simp)] at e
        cases e
    obtain ⟨mc, l1, l2⟩ := lim
    have hM : Mod K mg (hidT s.heap H) := ⟨kb, nsK gl, ⟨mb, nsK bl, bb⟩, ⟨mc, nsK l1, l2⟩⟩
    have e0 : Env0 P w K mg (hidT s.heap H) callerA [] s H := ⟨rfl, hM, fun b o e => of_hidT e, Nat.le_of_eq (hidT_size _ _), trivial, (fun b hb => nomatch (show b ∈ ([] : List Addr) from hb)), hok, AllBare.of_eq gens⟩
    have want : spD K 1 g [.ref a] H (fun v _ => v = .bl true) fun _ _ _ => False := by
      refine ⟨[.scr ns], [], H, [], rfl, DenL.one ⟨a, rfl, seq⟩, ⟨Same.refl _, rfl, fun i as o e1 _ => by simp at e1, by simp, by simp⟩, ?_⟩
      rw [hm]
      exact fun v p' G' H' dv _ _ => dv
    refine codeAny_mono ((F _ kb (nsK gl)).go callerA [] s H ⟨[.ref a], []⟩ [.ref a] [.ref a] _ _ rfl hr e0 (bd s (.ref a)) (.cons rfl .nil) want) fun r s2 q => ?_
    match r, q with
    | .error e, q =>
      obtain ⟨_, _, _, _, _, _, _, _, _, _, _, _, z⟩ := q
      exact z.elim
    | .ok .next, q => exact False.elim q
    | .ok .brk, q => exact False.elim q
    | .ok .cont, q => exact False.elim q
    | .ok (.ret u), ⟨v, H', os, bare, un, hok', r', q⟩ =>
      have q' : v = .bl true := q
      subst q'
      cases (show u = Value.bool true from r')
      refine ⟨rfl, OldK.of_keep fun b o e => ?_, os, bare⟩
      cases q : H b with
      | none => exact un.keep b o e q (fun z => nomatch (show b ∈ ([] : List Addr) from z)) (by simp)
      | some z =>
        obtain ⟨rfl, rfl⟩ := only b z q
        obtain ⟨e2, _⟩ := hok' b _ (un.frzs b _ _ q)
        rw [ha] at e
        cases e
        exact e2
  cases hk : K.lookup a with
  | some o =>
    have e := kin a o hk
    rw [ha] at e
    cases e
    exact main (fun _ => none) (fun b o z => nomatch (show (none : Option HO) = some o from z)) (.inr ⟨_, us.toArray, _, hk, rfl, rfl, rfl, by rw [List.size_toArray, hi.length]; exact hl, by simpa using rv⟩) fun z => absurd rfl z
  | none =>
    refine main (fun b => if b = a then some (.frz { cls := .type "list", data := .seq us.toArray } (.lst (ns.map V.int))) else none) (fun b o z => ?_) (.inl (.inr ⟨_, if_pos rfl⟩)) fun _ => hk
    by_cases hb : b = a
    · have z' := (if_pos hb).symm.trans z
      cases z'
      exact ⟨hb, rfl⟩
    · have z' := (if_neg hb).symm.trans z
      cases z'
/-- a law row by its mirror -/
theorem walk_G {l : PySem.W.OpenLaw} {n k : Nat} {q : Program} {loose : List Str} {XP : (Str → Option Value) → Heap → Prop} {YP : World → Heap → Prop} {d : DefRec} {x : Str} {g : List D → M D}
    (hn : l.most = some n) (hn2 : n ≤ sizeLine) (hdf : d.params.defaults = []) (hr : Room k callerA)
    (F : ∀ (w : World) (mg : Str → Option Value) (fa : Addr) (h : Heap), YP w h → h.Ns mainGlobals mg → mg d.name = some (.ref fa) →
      ∃ (K : PySem.W.Frag) (fd : FuncData), K.In h ∧ (∀ (s : Shared) (u : Value), BindsTo s fd ⟨[u], []⟩ [(x, u)]) ∧ ∀ base : Heap, K.In base → base.Ns mainGlobals mg → FnD l.prog w K mg base k fa fd [x] g)
    (law : ∀ ns : List Int, ns.length ≤ n → (∀ z ∈ ns, Builtin.Int.intBits z ≤ 1048576) → ∃ S', g [.scr ns] [] = .ok (.bl true) S') :
    PySem.W.WalkO q loose XP YP l.row.toRowW d [] (fun f vs => PySem.call f vs) := by
  refine Att.attach_callB hn hdf fun w s₀ s₁ mg mb fa o pm cd doc a vs ns G Y ho hd hcd hmg hobj hints hlen hbits hg => ?_
  obtain ⟨K, fd, kin, hb, hF⟩ := F w mg fa _ Y G.T.g hmg
  obtain ⟨S', e⟩ := law ns hlen hbits
  exact law_G kin G.T.g G.T.b G.T.builtins G.T.nolimit hg hobj hints (Nat.le_trans hlen hn2) hr hF hb e
/-! ### the head's facts with a check of one's own -/
abbrev AlR : Type := He.AlD × Bool
def obsR (fa : List He.Fa) (fn : List He.DefD) (chk : PySem.W.Frag → Bool) (K : PySem.W.Frag) : AlR := (He.obsD fa fn K, chk K)
def obsRG (n : Nat) (fa : List He.Fa) (fn : List He.DefD) (chk : PySem.W.Frag → Bool) (g : Addr → Option Obj) : AlR := obsR fa fn chk (He.frG g (He.asD g n))
structure SaysR (fa : List He.Fa) (fn : List He.DefD) (chk : PySem.W.Frag → Bool) (K : PySem.W.Frag) : Prop where
  d : He.SaysD fa fn K
  c : chk K = true
def hookR (n : Nat) (fa : List He.Fa) (fn : List He.DefD) (chk : PySem.W.Frag → Bool) : PySem.W.Hook where
  α := AlR
  obs := fun s => obsRG n fa fn chk s.heap.get?
  val := fun _ => (He.valD fn, true)
  says := fun _ h => ∃ K : PySem.W.Frag, K.In h ∧ SaysR fa fn chk K
  of := fun _ _ e => ⟨_, He.frG_in, congrArg Prod.fst e, congrArg Prod.snd e⟩
  keeps := fun _ _ _ ⟨K, hK, c⟩ k => ⟨K, PySem.W.Frag.In.keeps hK k, c⟩
theorem obsRG_eq {n : Nat} {fa : List He.Fa} {fn : List He.DefD} {chk : PySem.W.Frag → Bool} {g : Addr → Option Obj} {s : Shared} (h : ∀ a, g a = s.heap.get? a) : obsRG n fa fn chk g = (hookR n fa fn chk).obs s := by
  have e : g = s.heap.get? := funext h
  rw [e] <;> rfl
/-- a written tuple at an address -/
def tupAt (K : PySem.W.Frag) (a : Addr) (vs : List V) : Bool := match K.lookup a with
  | some ⟨.type c, _, .seq its _, _⟩ => decide (c = "tuple") && (decide (its.size ≤ sizeLine) && He.relAll vs its.toList)
  | _ => false
theorem tupAt_ok {K : PySem.W.Frag} {a : Addr} {vs : List V} (h : tupAt K a vs = true) (H : Hp) : SqT K H a vs := by
  unfold tupAt at h
  split at h
  · rename_i c dd its n sl e
    have h1 := Bool.and_eq_true_iff.mp h
    have h2 := Bool.and_eq_true_iff.mp h1.2
    exact .inr ⟨_, its, n, e, congrArg Value.type (of_decide_eq_true h1.1), rfl, of_decide_eq_true h2.1, He.relAll_ok h2.2⟩
  · cases h
/-! ### the mirror's words -/
abbrev MD := DSt → M D
abbrev mVar (i : Nat) : MD := fun t => getV t i
abbrev mC (d : D) : MD := fun _ => pure d
abbrev m1 (f : D → M D) (a : MD) : MD := fun t => do let x ← a t; f x
abbrev m2 (f : D → D → M D) (a b : MD) : MD := fun t => do let x ← a t; let y ← b t; f x y
abbrev mNil : DSt → M (List D) := fun _ => pure []
abbrev mCons (a : MD) (b : DSt → M (List D)) : DSt → M (List D) := fun t => do let x ← a t; let xs ← b t; pure (x :: xs)
abbrev mA (f : List D → M D) (a : DSt → M (List D)) : MD := fun t => do let xs ← a t; f xs
abbrev mT (a : MD) : DSt → M Bool := fun t => do let x ← a t; asB x
abbrev tNotM (a : DSt → M Bool) : DSt → M Bool := fun t => do let x ← a t; pure (!x)
abbrev tAndM (a b : DSt → M Bool) : DSt → M Bool := fun t => do if ← a t then b t else pure false
abbrev tOrM (a b : DSt → M Bool) : DSt → M Bool := fun t => do if ← a t then pure true else b t
abbrev mAnd (a b : MD) : MD := fun t => do let x ← a t; if ← asB x then b t else pure (.bl false)
abbrev mOr (a b : MD) : MD := fun t => do let x ← a t; if ← asB x then pure (.bl true) else b t
abbrev mNot (a : MD) : MD := fun t => do let x ← a t; let b ← asB x; pure (.bl (!b))
abbrev mIf (c : DSt → M Bool) (a b : MD) : MD := fun t => do if ← c t then a t else b t
abbrev SD := DSt → M Ctl
abbrev sSeq (a b : SD) : SD := fun t => do let c ← a t; seqC b c
abbrev sNil : SD := fun t => pure (.nx t)
abbrev sRet (a : MD) : SD := fun t => do let x ← a t; pure (.rt x)
abbrev sExpr (a : MD) : SD := fun t => do let _ ← a t; pure (.nx t)
abbrev sIf (c : DSt → M Bool) (a b : SD) : SD := fun t => do if ← c t then a t else b t
abbrev sSet (i : Nat) (a : MD) : SD := fun t => do let d ← a t; let t' ← liftO (setV t i d); pure (.nx t')
abbrev sSetO (i : Nat) (a : DSt → M (List D)) : SD := fun t => do let xs ← a t; let t' ← liftO (setO t i xs); pure (.nx t')
abbrev sFor (T : Tgt) (it : DSt → M (List D)) (b : SD) : SD := fun t => do let ds ← it t; forD (stepD T.set b) ds t
abbrev sIce (i : Nat) (a : SD) : SD := fun t => a (freeze i t)
abbrev iAny (a : MD) : DSt → M (List D) := fun t => do let x ← a t; iterD x
abbrev iRange1 (a : MD) : DSt → M (List D) := fun t => do let x ← a t; rangeD [x]
abbrev iRange2 (a b : MD) : DSt → M (List D) := fun t => do let x ← a t; let y ← b t; rangeD [x, y]
abbrev lcF (ws : List Nat) (T : Tgt) (it : DSt → M (List D)) (c : DSt → M Bool) (e : MD) : DSt → M (List D) := fun t => do let ds ← it t; noE (lcD ws T c e ds [] t)
abbrev mLst (a : DSt → M (List D)) : MD := fun t => do let xs ← a t; pure (.lst xs)
abbrev tYesM : DSt → M Bool := fun _ => pure true
abbrev mCall (n : Nat) (g : List D → M D) (a : DSt → M (List D)) (dds : List D) : MD := fun t => do let xs ← a t; argsD n g (xs ++ dds)
abbrev mMake (n : Nat) (c : Str) (g : List D → M D) (a : DSt → M (List D)) (dds : List D) : MD := fun t => do let xs ← a t; argsM n c g (xs ++ dds)
abbrev oNone : DSt → M (Option Int) := fun _ => pure none
abbrev oSome (a : MD) : DSt → M (Option Int) := fun t => do let x ← a t; partD x
abbrev mSlice (a : MD) (l h : DSt → M (Option Int)) : MD := fun t => do let x ← a t; let l ← l t; let h ← h t; sliceD x l h
/-- a test that is always met -/
theorem pts_yes {X : Cx} : PTs X [] (tDT X.K W0 tYesM) := ⟨fun pins s σ H Q I ⟨t, p, G, S, ow, r, h⟩ => pts_nil.run pins s σ H Q I (okR.fin (d := true) h rfl r.rel)⟩
theorem pts_of {X : Cx} {c : Expr} {m : DSt → M Bool} (h : DT X W0 c m) : PTs X [c] (tDT X.K W0 m) := pts_one h
end RM

/-! RM: what the printed walk leans on. -/
namespace RM
open PySem PySem.Spec PyProof.Rows L2
section
variable {K : PySem.W.Frag} {x qual : Str} {params : Arguments} {body : List Stmt} {scope : Scope} {dvs : List V} {kws : List (Str × V)} {f : Addr} {fd : FuncData} {ps : List Str}
/-- an own def with its promise -/
structure Own (P : Program) (w : World) (K : PySem.W.Frag) (mg : Str → Option Value) (base : Heap) (k : Nat) (f : Addr) (fd : FuncData) (ps : List Str) (g : List D → M D) : Prop where
  fn : FnD P w K mg base k f fd ps g
  kp : PySem.W.keepIn K (.ref f) = true
theorem funSame {x' qual' : Str} {params' : Arguments} {body' : List Stmt} {scope' : Scope} {dvs' : List V} {kws' : List (Str × V)} {fd' : FuncData} (F : FunD K x qual params body scope dvs kws f fd) (F' : FunD K x' qual' params' body' scope' dvs' kws' f fd') : fd' = fd := by
  obtain ⟨oc, od, dV, kV, doc, pm, an, cdv, ct, osl, _, lk, _⟩ := F.ex
  obtain ⟨oc', od', dV', kV', doc', pm', an', cdv', ct', osl', _, lk', _⟩ := F'.ex
  rw [lk] at lk'
  cases lk'
  rfl
def arK : {α : Type} → List α → List α → List α → List α := fun _ ws _ => ws
theorem kwAll (F : FunD K x qual params body scope [] kws f fd)
    (h : ∀ (kV doc pm : Value) (an : Option Addr) (cdv ct : Value) (ws : List Value), ws.length = ps.length → bindArgs (PySem.W.fnOf x qual params body scope .none kV doc pm an cdv ct) ⟨[], ps.zip ws⟩ = pure (ps.zip ws)) : KwTo K fd ps ps 0 arK [] [] := by
  refine ⟨fun s us ws _ h1 h2 => ?_, fun {vs zs us ws} _ _ _ r => r, fun {q G xs ys dd vs zs} _ _ _ d _ => d⟩
  obtain ⟨oc, od, dV, kV, doc, pm, an, cdv, ct, osl, rfl, lk, hcd, hD, hK⟩ := F.ex
  rcases hD with ⟨_, rfl⟩ | ⟨e, _⟩
  · cases (List.length_eq_zero_iff.mp h1)
    exact .of_eq (h kV doc pm an cdv ct ws h2)
  · exact absurd rfl e
end
abbrev mIdxO (i : Nat) (b : MD) : MD := fun t => do let xs ← getO t i; let y ← b t; idxD (.lst xs) y
abbrev mLenO (i : Nat) : MD := fun t => do let xs ← getO t i; pure (.int xs.length)
abbrev mCallK (n : Nat) (g : List D → M D) (a : DSt → M (List D)) : MD := fun t => do let ys ← a t; argsK 0 n n arK [] g [] ys
abbrev mCallO (i : Nat) (g : List D → M D) (a : MD) : MD := fun t => do let d ← a t; let xs ← getO t i; let v ← noE (g [d, .lst xs]); flatOnly v
abbrev mVal (a : MD) (b : DSt → M (List DV)) : DSt → M (List DV) := fun t => do let x ← a t; let xs ← b t; pure (.val x :: xs)
abbrev mOwn (a : DSt → M (List D)) (b : DSt → M (List DV)) : DSt → M (List DV) := fun t => do let x ← a t; let xs ← b t; pure (.own x :: xs)
abbrev sParM (is : List Nat) (a : DSt → M (List DV)) : SD := fun t => do let xs ← a t; let t' ← liftO (setMs t is xs); pure (.nx t')
abbrev sPar (is : List Nat) (a : DSt → M (List D)) : SD := fun t => do let xs ← a t; let t' ← liftO (setVs t is xs); pure (.nx t')
abbrev sAsg (T : Tgt) (a : MD) : SD := fun t => do let d ← a t; let t' ← liftO (T.set d t); pure (.nx t')
abbrev sFldT (tab : List (Str × Str)) (f : Str) (o e : MD) : SD := fun t => do let d ← e t; let o ← o t; putFld tab f d o; pure (.nx t)
abbrev sPut (i : Nat) (e b : MD) : SD := fun t => do let y ← e t; let xs ← getO t i; let k ← b t; let zs ← liftO (putO xs y k); pure (.nx (t.set i (some (.own zs))))
abbrev sApp (i : Nat) (e : MD) : SD := fun t => do let xs ← getO t i; let y ← e t; if xs.length < sizeLine then pure (.nx (t.set i (some (.own (xs ++ [y]))))) else stuck
abbrev sPop (i : Nat) (e : MD) : SD := fun t => do let xs ← getO t i; let k ← e t; let r ← liftO (popO xs k); pure (.nx (t.set i (some (.own r.2))))
abbrev mJoin (a b : MD) : MD := fun t => do let x ← a t; let s ← strD x; let y ← b t; joinD (.str s) y
theorem units1 {k : Nat} {A : Around} (r : Room k A) : A.units + 1 < cLine := by have := r.un; omega
theorem units66 {k : Nat} {A : Around} (r : Room k A) : A.units + 66 < cLine := by have := r.un; omega
/-- one draw: the mirror -/
def drawB : SD :=
  sSeq (fun t => whileD (tAndM (mT (m2 eqD (fun t => do let o ← getV t 0; let tp ← tapeOf o; pure (.int tp.rest)) (mC (.int 0)))) (fun t => do let o ← getV t 0; let tp ← tapeOf o; pure (!tp.large.isEmpty))) (fun t => do let o ← getV t 0; popLarge o; pure (.nx t)) 1100 t)
  (sSeq (sIf (mT (m2 gtD (fun t => do let o ← getV t 0; let tp ← tapeOf o; pure (.int tp.rest)) (mC (.int 0))))
    (sSeq (sSet 2 (m2 modD (mA intD (mCons (fun t => do let o ← getV t 0; let tp ← tapeOf o; pure (.int tp.rest)) mNil)) (mVar 1)))
      (sSeq (fun t => do let v ← m2 fdivD (fun t => do let o ← getV t 0; let tp ← tapeOf o; pure (.int tp.rest)) (mVar 1) t; let o ← getV t 0; restD o v; pure (.nx t))
        (sRet (mVar 2)))) sNil)
  (sSeq (sSet 3 (m2 addD (fun t => do let o ← getV t 0; let tp ← tapeOf o; pure (.int tp.turn)) (mC (.int 1))))
  (sSeq (fun t => do let v ← mVar 3 t; let o ← getV t 0; turnD o v; pure (.nx t))
  (sSeq (sSet 4 (mIf (fun t => do let o ← getV t 0; let tp ← tapeOf o; pure (!tp.cells.isEmpty)) (fun t => do let o ← getV t 0; let _ ← tapeOf o; let k ← m2 modD (mA intD (mCons (mVar 3) mNil)) (fun t => do let o ← getV t 0; let tp ← tapeOf o; pure (.int tp.cells.length)) t; let tp ← tapeOf o; cellD tp k) (mC (.int 0))))
  (sSeq (sSet 5 (m2 modD (mA intD (mCons (m2 powD (m2 addD (m2 addD (m2 modD (mA intD (mCons (mVar 4) mNil)) (mC (.int 2147483629))) (m2 mulD (mC (.int 48271)) (mVar 3))) (mC (.int 13579))) (mC (.int 3))) mNil)) (mC (.int 2147483647))))
  (sRet (m2 modD (mA intD (mCons (m2 fdivD (m2 modD (mA intD (mCons (m2 powD (m2 addD (mVar 5) (m2 mulD (mC (.int 99991)) (mVar 3))) (mC (.int 5))) mNil)) (mC (.int 2147483587))) (mC (.int 23))) mNil)) (mVar 1))))))))
def drawM : List D → M D := runB 6 drawB
end RM

/-! RM: the plain side: no program in sight. -/
namespace RM
open PySem PySem.Spec PyProof.Rows L2
@[simp] theorem run_bind {a b : Type} (m : M a) (f : a → M b) (s : Sto) : (m >>= f) s = (m s).andThen f := Eq.trans rfl rfl
@[simp] theorem run_pure {a : Type} (x : a) (s : Sto) : (pure x : M a) s = .ok x s := Eq.trans rfl rfl
@[simp] theorem run_stuck {a : Type} (s : Sto) : (stuck : M a) s = .stuck := Eq.trans rfl rfl
@[simp] theorem getV_0 (d : D) (t : DSt) : getV (some (.val d) :: t) 0 = pure d := Eq.trans rfl rfl
@[simp] theorem getV_s (x : Option DV) (t : DSt) (i : Nat) : getV (x :: t) (i + 1) = getV t i := Eq.trans rfl rfl
@[simp] theorem getO_0 (d : List D) (t : DSt) : getO (some (.own d) :: t) 0 = pure d := Eq.trans rfl rfl
@[simp] theorem getO_s (x : Option DV) (t : DSt) (i : Nat) : getO (x :: t) (i + 1) = getO t i := Eq.trans rfl rfl
@[simp] theorem setV_0 (d : D) (x : Option DV) (t : DSt) : setV (x :: t) 0 d = some (some (.val d) :: t) := Eq.trans rfl rfl
@[simp] theorem setV_s (d : D) (x : Option DV) (t : DSt) (i : Nat) : setV (x :: t) (i + 1) d = (setV t i d).map (x :: ·) := by
  unfold setV
  rw [List.length_cons]
  by_cases h : i < t.length
  · rw [if_pos h, if_pos (by omega)]; rfl
  · rw [if_neg h, if_neg (by omega)]; rfl
@[simp] theorem setO_0 (d : List D) (x : Option DV) (t : DSt) : setO (x :: t) 0 d = some (some (.own d) :: t) := Eq.trans rfl rfl
@[simp] theorem setO_s (d : List D) (x : Option DV) (t : DSt) (i : Nat) : setO (x :: t) (i + 1) d = (setO t i d).map (x :: ·) := by
  unfold setO
  rw [List.length_cons]
  by_cases h : i < t.length
  · rw [if_pos h, if_pos (by omega)]; rfl
  · rw [if_neg h, if_neg (by omega)]; rfl
@[simp] theorem liftO_some {α : Type} (x : α) : (liftO (some x) : M α) = pure x := Eq.trans rfl rfl
@[simp] theorem seqC_nx (u : DSt → M Ctl) (t : DSt) : seqC u (.nx t) = u t := Eq.trans rfl rfl
@[simp] theorem seqC_rt (u : DSt → M Ctl) (d : D) : seqC u (.rt d) = pure (.rt d) := Eq.trans rfl rfl
@[simp] theorem endC_rt (d : D) : endC (.rt d) = pure d := Eq.trans rfl rfl
@[simp] theorem endC_nx (t : DSt) : endC (.nx t) = pure .non := Eq.trans rfl rfl
@[simp] theorem asB_bl (b : Bool) : asB (.bl b) = pure b := Eq.trans rfl rfl
/-- what lies in the store ahead of the tape -/
class Pre where
  pre : Sto
  ix : Nat
  hx : pre.length = ix
section
variable [Pre]
abbrev onT (tp : Tape) : Sto := Pre.pre ++ [.tape tp]
theorem onT_get (tp : Tape) : (onT tp)[Pre.ix]? = some (.tape tp) := by
  rw [← Pre.hx, List.getElem?_append_right (Nat.le_refl _), Nat.sub_self]; rfl
theorem onT_set (tp tq : Tape) : (onT tp).set Pre.ix (.tape tq) = onT tq := by
  rw [← Pre.hx]
  show (Pre.pre ++ [MO.tape tp]).set Pre.pre.length (.tape tq) = _
  rw [List.set_append_right _ _ (Nat.le_refl _), Nat.sub_self]; rfl
@[simp] theorem tapeOf_0 (tp : Tape) : tapeOf (.mref Pre.ix) (onT tp) = .ok tp (onT tp) := by
  unfold tapeOf
  dsimp only
  rw [onT_get]
@[simp] theorem tapeSet_0 (tp tq : Tape) : tapeSet (.mref Pre.ix) tq (onT tp) = .ok () (onT tq) := by
  unfold tapeSet
  dsimp only
  rw [onT_get]
  dsimp only
  rw [onT_set]
end
@[simp] theorem freeze_own (xs : List D) (t : DSt) : freeze 0 (some (.own xs) :: t) = some (.val (.lst xs)) :: t := Eq.trans rfl rfl
@[simp] theorem freeze_s (x : Option DV) (t : DSt) (i : Nat) : freeze (i + 1) (x :: t) = x :: freeze i t := by
  unfold freeze
  show (match (x :: t)[i + 1]? with | some (some (.own xs)) => _ | _ => _) = _
  rw [List.getElem?_cons_succ]
  cases h : t[i]? with
  | none => rfl
  | some o =>
    cases o with
    | none => rfl
    | some v => cases v <;> rfl
@[simp] theorem run_map {a b : Type} (f : a → b) (m : M a) (s : Sto) : (f <$> m) s = (m s).andThen fun x => pure (f x) := Eq.trans rfl rfl
@[simp] theorem eqD_int (i j : Int) : eqD (.int i) (.int j) = pure (.bl (i == j)) := Eq.trans rfl rfl
@[simp] theorem eqD_str (i j : Str) : eqD (.str i) (.str j) = pure (.bl (i == j)) := Eq.trans rfl rfl
@[simp] theorem eqD_bl (i j : Bool) : eqD (.bl i) (.bl j) = pure (.bl (i == j)) := Eq.trans rfl rfl
@[simp] theorem neD_int (i j : Int) : neD (.int i) (.int j) = pure (.bl (!(i == j))) := Eq.trans rfl rfl
@[simp] theorem neD_str (i j : Str) : neD (.str i) (.str j) = pure (.bl (!(i == j))) := Eq.trans rfl rfl
@[simp] theorem neD_bl (i j : Bool) : neD (.bl i) (.bl j) = pure (.bl (!(i == j))) := Eq.trans rfl rfl
@[simp] theorem ltD_int (i j : Int) : ltD (.int i) (.int j) = pure (.bl (decide (i < j))) := Eq.trans rfl rfl
@[simp] theorem leD_int (i j : Int) : leD (.int i) (.int j) = pure (.bl (decide (i ≤ j))) := Eq.trans rfl rfl
@[simp] theorem gtD_int (i j : Int) : gtD (.int i) (.int j) = pure (.bl (decide (j < i))) := Eq.trans rfl rfl
@[simp] theorem geD_int (i j : Int) : geD (.int i) (.int j) = pure (.bl (decide (j ≤ i))) := Eq.trans rfl rfl
@[simp] theorem addD_int (i j : Int) : addD (.int i) (.int j) = pure (.int (i + j)) := Eq.trans rfl rfl
@[simp] theorem subD_int (i j : Int) : subD (.int i) (.int j) = pure (.int (i - j)) := Eq.trans rfl rfl
@[simp] theorem negD_int (i : Int) : negD (.int i) = pure (.int (-i)) := Eq.trans rfl rfl
@[simp] theorem intD_int (i : Int) : intD [.int i] = pure (.int i) := Eq.trans rfl rfl
@[simp] theorem notD (d : D) (h : d ≠ .non) : notNonD d .non = pure (.bl true) := by cases d <;> first | rfl | exact absurd rfl h
@[simp] theorem isD_non : isNonD .non .non = pure (.bl true) := Eq.trans rfl rfl
@[simp] theorem notD_non : notNonD .non .non = pure (.bl false) := Eq.trans rfl rfl
theorem modD_int {i j : Int} (h : 0 < j) : modD (.int i) (.int j) = pure (.int (i % j)) := if_pos h
theorem fdivD_int {i j : Int} (h : 0 < j) (h2 : j.natAbs.log2 < 9000) : fdivD (.int i) (.int j) = pure (.int (i / j)) := if_pos ⟨h, h2⟩
theorem powD_int {i j : Int} (h : 0 ≤ j) (h2 : j ≤ 1000000) (h3 : i.natAbs < 2 ^ 64) : powD (.int i) (.int j) = pure (.int (i ^ j.toNat)) := if_pos ⟨h, h2, h3⟩
theorem mulD_int {i j : Int} (h : -(2 ^ 64) < i ∧ i < 2 ^ 64) : mulD (.int i) (.int j) = pure (.int (i * j)) := if_pos (.inl h)
theorem atI_in {α : Type} {xs : List α} {i : Int} (h0 : 0 ≤ i) (h1 : i < xs.length) : ∃ x, x ∈ xs ∧ xs[i.toNat]? = some x ∧ atI xs i = some x := by
  have hlt : i.toNat < xs.length := by omega
  refine ⟨xs[i.toNat], List.getElem_mem hlt, List.getElem?_eq_getElem hlt, ?_⟩
  unfold atI ixN
  rw [if_pos h0, if_pos h1]
  exact List.getElem?_eq_getElem hlt
@[simp] theorem argsD_ok {n : Nat} {g : List D → M D} {xs : List D} (h : xs.length = n) : argsD n g xs = g xs := if_pos h
@[simp] theorem argsK_ok {n : Nat} {g : List D → M D} {xs : List D} (h : xs.length = n) : argsK 0 n n arK [] g [] xs = g xs := by
  unfold argsK
  rw [if_pos ⟨rfl, h⟩]
  exact argsD_ok h
@[simp] theorem partD_int (i : Int) : partD (.int i) = pure (some i) := Eq.trans rfl rfl
@[simp] theorem strD_str (x : Str) : strD (.str x) = pure x := Eq.trans rfl rfl
theorem lstD_ok {xs : List D} (h : xs.length ≤ sizeLine) : lstD xs = pure (.lst xs) := if_pos h
theorem tupD_ok {xs : List D} (h : xs.length ≤ sizeLine) : tupD xs = pure (.tup xs) := if_pos h
theorem sizeL_ok {xs : List D} (h : xs.length ≤ sizeLine) : sizeL xs = pure xs := if_pos h
theorem size_big (n : Nat) (h : n ≤ 1000000) : n ≤ sizeLine := Nat.le_trans h (by decide)
theorem addD_str {x y : Str} (h : x.length + y.length ≤ sizeLine) : addD (.str x) (.str y) = pure (.str (x ++ y)) := if_pos h
theorem addD_lst {x y : List D} (h : x.length + y.length ≤ sizeLine) : addD (.lst x) (.lst y) = pure (.lst (x ++ y)) := if_pos h
theorem lenD_str {x : Str} (h : x.length ≤ sizeLine) : lenD [.str x] = pure (.int x.length) := if_pos h
@[simp] theorem lenD_lst (xs : List D) : lenD [.lst xs] = pure (.int xs.length) := Eq.trans rfl rfl
@[simp] theorem lenD_tup (xs : List D) : lenD [.tup xs] = pure (.int xs.length) := Eq.trans rfl rfl
@[simp] theorem lenD_scr (xs : List Int) : lenD [.scr xs] = pure (.int xs.length) := Eq.trans rfl rfl
@[simp] theorem iterD_str (x : Str) : iterD (.str x) = pure (signs x) := Eq.trans rfl rfl
@[simp] theorem iterD_lst (x : List D) : iterD (.lst x) = pure x := Eq.trans rfl rfl
@[simp] theorem iterD_tup (x : List D) : iterD (.tup x) = pure x := Eq.trans rfl rfl
/-- the tape is in order -/
structure Good (t : Tape) : Prop where
  large : ∀ z ∈ t.large, 0 ≤ z
  cells : ∀ z ∈ t.cells, 0 ≤ z
  rest : 0 ≤ t.rest
  turn : 0 ≤ t.turn
  len : t.large.length ≤ 1000
section
variable [Pre]
/-- m draws at most n times and ends with a P -/
def HT {α : Type} (n : Nat) (m : M α) (P : α → Prop) : Prop := ∀ t : Tape, Good t → t.turn + n ≤ 1000000000000 → ∃ a t', m (onT t) = .ok a (onT t') ∧ Good t' ∧ t'.turn ≤ t.turn + n ∧ P a
theorem HT.mono {α : Type} {n k : Nat} {m : M α} {P Q : α → Prop} (h : HT n m P) (hn : n ≤ k) (hp : ∀ a, P a → Q a) : HT k m Q := fun t g b =>
  let ⟨a, t', e, g', b', p⟩ := h t g (by omega)
  ⟨a, t', e, g', by omega, hp a p⟩
theorem HT.pure {α : Type} {P : α → Prop} {x : α} (h : P x) : HT 0 (pure x : M α) P := fun t g _ => ⟨x, t, rfl, g, by omega, h⟩
theorem HT.bind {α β : Type} {n k : Nat} {m : M α} {f : α → M β} {P : α → Prop} {Q : β → Prop} (h : HT n m P) (hf : ∀ a, P a → HT k (f a) Q) : HT (n + k) (m >>= f) Q := fun t g b => by
  obtain ⟨a, t1, e1, g1, b1, p1⟩ := h t g (by omega)
  obtain ⟨c, t2, e2, g2, b2, p2⟩ := hf a p1 t1 g1 (by omega)
  refine ⟨c, t2, ?_, g2, by omega, p2⟩
  rw [run_bind, e1]
  exact e2
theorem HT.noE {α : Type} {n : Nat} {m : M α} {P : α → Prop} (h : HT n m P) : HT n (RM.noE m) P := fun t g b => by
  obtain ⟨a, t', e, r⟩ := h t g b
  exact ⟨a, t', by unfold RM.noE; rw [e], r⟩
theorem ht_lc {ws : List Nat} {T : Tgt} {me : DSt → M D} {n : Nat} {P : D → Prop} {t : DSt} : ∀ (ds acc : List D), (∀ d ∈ ds, ∃ t', T.set d (wipeD t ws) = some t' ∧ HT n (me t') P) → acc.length + ds.length ≤ sizeLine →
    HT (ds.length * n) (lcD ws T tYesM me ds acc t) fun r => ∃ ys, r = acc ++ ys ∧ ys.length = ds.length ∧ ∀ y ∈ ys, P y
  | [], acc, _, _ => fun t g b => ⟨acc, t, rfl, g, by simp, [], by simp, rfl, fun y hy => by cases hy⟩
  | d :: ds, acc, h, hl => fun tp g b => by
    obtain ⟨t', e1, e2⟩ := h d (List.mem_cons_self ..)
    rw [List.length_cons] at hl
    have sz : (d :: ds).length * n = n + ds.length * n := by rw [List.length_cons, Nat.add_mul, Nat.one_mul, Nat.add_comm]
    rw [sz] at b ⊢
    obtain ⟨y, tp1, f1, f2, f3, f4⟩ := e2 tp g (by omega)
    obtain ⟨r, tp2, k1, k2, k3, ys, k4, k5, k6⟩ := ht_lc (ws := ws) (T := T) (me := me) (t := t) ds (acc ++ [y]) (fun z hz => h z (List.mem_cons_of_mem _ hz)) (by rw [List.length_append]; simp; omega) tp1 f2 (by omega)
    refine ⟨r, tp2, ?_, k2, by omega, y :: ys, by rw [k4]; simp, by rw [List.length_cons, k5, List.length_cons], fun z hz => ?_⟩
    · unfold lcD
      rw [e1]
      simp only [liftO_some, run_bind, run_pure, andThen_ok]
      rw [if_pos trivial, run_bind, f1, andThen_ok, if_pos (by omega)]
      exact k1
    · rcases List.mem_cons.mp hz with rfl | hz
      · exact f4
      · exact k6 z hz
omit [Pre] in
theorem lc_pure {ws : List Nat} {T : Tgt} {mt : DSt → M Bool} {me : DSt → M D} {t : DSt} {S : Sto} (f : D → D) (c : D → Bool) : ∀ (ds acc : List D), (∀ d ∈ ds, ∃ t', T.set d (wipeD t ws) = some t' ∧ mt t' S = .ok (c d) S ∧ (c d = true → me t' S = .ok (f d) S)) → acc.length + ds.length ≤ sizeLine →
    lcD ws T mt me ds acc t S = .ok (acc ++ (ds.filter c).map f) S
  | [], acc, _, _ => by simp [lcD]
  | d :: ds, acc, h, hl => by
    obtain ⟨t', e1, e2, e3⟩ := h d (List.mem_cons_self ..)
    rw [List.length_cons] at hl
    unfold lcD
    rw [e1]
    simp only [liftO_some, run_bind, run_pure, andThen_ok]
    rw [e2, andThen_ok]
    by_cases q : c d = true
    · rw [if_pos q, run_bind, e3 q, andThen_ok, if_pos (by omega), lc_pure f c ds (acc ++ [f d]) (fun z hz => h z (List.mem_cons_of_mem _ hz)) (by rw [List.length_append]; simp; omega), List.filter_cons_of_pos q]
      simp
    · rw [if_neg q, lc_pure f c ds acc (fun z hz => h z (List.mem_cons_of_mem _ hz)) (by omega), List.filter_cons_of_neg q]
theorem ht_for {step : D → DSt → M Ctl} {I : DSt → Prop} {n : Nat} : ∀ (ds : List D) (t : DSt), I t → (∀ d ∈ ds, ∀ t, I t → HT n (step d t) fun c => ∃ t', c = .nx t' ∧ I t') → HT (ds.length * n) (forD step ds t) fun c => ∃ t', c = .nx t' ∧ I t'
  | [], t, i, _ => fun tp g b => ⟨.nx t, tp, rfl, g, by simp, t, rfl, i⟩
  | d :: ds, t, i, h => fun tp g b => by
    have sz : (d :: ds).length * n = n + ds.length * n := by rw [List.length_cons, Nat.add_mul, Nat.one_mul, Nat.add_comm]
    rw [sz] at b ⊢
    obtain ⟨_, tp1, f1, f2, f3, t', rfl, i'⟩ := h d (List.mem_cons_self ..) t i tp g (by omega)
    obtain ⟨c, tp2, k1, k2, k3, k4⟩ := ht_for ds t' i' (fun z hz => h z (List.mem_cons_of_mem _ hz)) tp1 f2 (by omega)
    refine ⟨c, tp2, ?_, k2, by omega, k4⟩
    unfold forD
    rw [run_bind, f1]
    exact k1
theorem draw_while {c : DSt → M Bool} {b : DSt → M Ctl} {t : DSt} (hc : ∀ tp, c t (onT tp) = .ok (tp.rest == 0 && !tp.large.isEmpty) (onT tp)) (hb : ∀ tp k l, tp.large = k :: l → b t (onT tp) = .ok (.nx t) (onT { tp with rest := k, large := l })) :
    ∀ (fuel : Nat) (tp : Tape), Good tp → tp.large.length < fuel → ∃ tp', whileD c b fuel t (onT tp) = .ok (.nx t) (onT tp') ∧ Good tp' ∧ tp'.turn = tp.turn
  | 0, tp, _, h => by omega
  | n + 1, tp, g, h => by
    unfold whileD
    rw [run_bind, hc, andThen_ok]
    by_cases q : (tp.rest == 0 && !tp.large.isEmpty) = true
    · rw [if_pos q]
      cases hl : tp.large with
      | nil => rw [hl] at q; simp at q
      | cons k l =>
        rw [run_bind, hb tp k l hl, andThen_ok]
        obtain ⟨tp', e, g', tu⟩ := draw_while hc hb n { tp with rest := k, large := l } ⟨fun z hz => g.large z (by rw [hl]; exact List.mem_cons_of_mem _ hz), g.cells, g.large k (by rw [hl]; exact List.mem_cons_self ..), g.turn, by have := g.len; rw [hl] at this; simp at this ⊢; omega⟩ (by rw [hl] at h; simp at h ⊢; omega)
        exact ⟨tp', e, g', tu⟩
    · rw [if_neg q]
      exact ⟨tp, rfl, g, rfl⟩
theorem drawM_ok {n : Int} (hn : 0 < n) (hl : n.natAbs.log2 < 9000) : HT 1 (drawM [.mref Pre.ix, .int n]) fun d => ∃ k, d = .int k ∧ 0 ≤ k ∧ k < n := by
  intro tp g hb
  unfold drawM runB drawB
  obtain ⟨tp1, e1, g1, tu⟩ := draw_while (t := startD 6 [.mref Pre.ix, .int n]) (c := tAndM (mT (m2 eqD (fun t => do let o ← getV t 0; let tp ← tapeOf o; pure (.int tp.rest)) (mC (.int 0)))) (fun t => do let o ← getV t 0; let tp ← tapeOf o; pure (!tp.large.isEmpty))) (b := fun t => do let o ← getV t 0; popLarge o; pure (.nx t))
    (fun tp => by
      by_cases q : tp.rest = 0
      · simp [startD, q]
      · simp [startD, q]) (fun tp k l h => by simp [startD, popLarge, h]) 1100 tp g (by have := g.len; omega)
  have tt := g1.turn
  simp only [run_bind, e1, andThen_ok, seqC_nx]
  by_cases q : 0 < tp1.rest
  · exact ⟨.int (tp1.rest % n), { tp1 with rest := tp1.rest / n }, by simp [startD, q, modD_int hn, fdivD_int hn hl, restD], ⟨g1.large, g1.cells, Int.ediv_nonneg (by omega) (by omega), g1.turn, g1.len⟩, by show tp1.turn ≤ _; omega, _, rfl, Int.emod_nonneg _ (by omega), Int.emod_lt_of_pos _ hn⟩
  · have tail : ∀ c : Int, 0 ≤ c → ∃ m k : Int, 0 ≤ k ∧ k < n ∧ powD (.int (c % 2147483629 + 48271 * (tp1.turn + 1) + 13579)) (.int 3) = pure (.int ((c % 2147483629 + 48271 * (tp1.turn + 1) + 13579) ^ 3)) ∧ (c % 2147483629 + 48271 * (tp1.turn + 1) + 13579) ^ 3 % 2147483647 = m
        ∧ powD (.int (m + 99991 * (tp1.turn + 1))) (.int 5) = pure (.int ((m + 99991 * (tp1.turn + 1)) ^ 5)) ∧ ((m + 99991 * (tp1.turn + 1)) ^ 5 % 2147483587 / 23) % n = k := by
      intro c hc
      have a1 := Int.emod_nonneg c (b := 2147483629) (by omega)
      have a2 := Int.emod_lt_of_pos c (b := 2147483629) (by omega)
      have p1 : powD (.int (c % 2147483629 + 48271 * (tp1.turn + 1) + 13579)) (.int 3) = pure (.int ((c % 2147483629 + 48271 * (tp1.turn + 1) + 13579) ^ 3)) := powD_int (by omega) (by omega) (by omega)
      obtain ⟨m, em⟩ : ∃ m, m = (c % 2147483629 + 48271 * (tp1.turn + 1) + 13579) ^ 3 % 2147483647 := ⟨_, rfl⟩
      have a3 := Int.emod_nonneg ((c % 2147483629 + 48271 * (tp1.turn + 1) + 13579) ^ 3) (b := 2147483647) (by omega)
      have a4 := Int.emod_lt_of_pos ((c % 2147483629 + 48271 * (tp1.turn + 1) + 13579) ^ 3) (b := 2147483647) (by omega)
      rw [← em] at a3 a4
      have p2 : powD (.int (m + 99991 * (tp1.turn + 1))) (.int 5) = pure (.int ((m + 99991 * (tp1.turn + 1)) ^ 5)) := powD_int (by omega) (by omega) (by omega)
      exact ⟨m, _, Int.emod_nonneg _ (by omega), Int.emod_lt_of_pos _ hn, p1, em.symm, p2, rfl⟩
    have mo : ∀ i : Int, modD (.int i) (.int 2147483629) = pure (.int (i % 2147483629)) ∧ modD (.int i) (.int 2147483647) = pure (.int (i % 2147483647)) ∧ modD (.int i) (.int 2147483587) = pure (.int (i % 2147483587)) ∧ modD (.int i) (.int n) = pure (.int (i % n)) ∧ fdivD (.int i) (.int 23) = pure (.int (i / 23)) ∧ mulD (.int 48271) (.int i) = pure (.int (48271 * i)) ∧ mulD (.int 99991) (.int i) = pure (.int (99991 * i)) := fun i =>
      ⟨modD_int (by omega), modD_int (by omega), modD_int (by omega), modD_int hn, fdivD_int (by omega) (by decide), mulD_int (by decide), mulD_int (by decide)⟩
    have g2 : Good { tp1 with turn := tp1.turn + 1 } := ⟨g1.large, g1.cells, g1.rest, by show 0 ≤ tp1.turn + 1; omega, g1.len⟩
    cases hcs : tp1.cells with
    | nil =>
      obtain ⟨m, k, k0, k1, p1, em, p2, ek⟩ := tail 0 (by omega)
      refine ⟨.int k, { tp1 with turn := tp1.turn + 1 }, ?_, g2, by show tp1.turn + 1 ≤ _; omega, k, rfl, k0, k1⟩
      have p1' : powD (.int (0 % 2147483629 + 48271 * (tp1.turn + 1) + 13579)) (.int 3) = pure (.int ((0 % 2147483629 + 48271 * (tp1.turn + 1) + 13579) ^ 3)) := p1
      simp only [show (0 : Int) % 2147483629 = 0 from rfl, Int.zero_add] at p1' em
      simp [startD, q, turnD, hcs, mo, p1', em, p2, ek]
    | cons x xs =>
      have h1 := Int.emod_lt_of_pos (tp1.turn + 1) (b := ((x :: xs).length : Int)) (by rw [List.length_cons]; omega)
      have h2 := Int.emod_nonneg (tp1.turn + 1) (b := ((x :: xs).length : Int)) (by rw [List.length_cons]; omega)
      obtain ⟨c, hm, _, ha⟩ := atI_in h2 h1
      obtain ⟨m, k, k0, k1, p1, em, p2, ek⟩ := tail c (g1.cells c (by rw [hcs]; exact hm))
      refine ⟨.int k, { tp1 with turn := tp1.turn + 1 }, ?_, g2, by show tp1.turn + 1 ≤ _; omega, k, rfl, k0, k1⟩
      have ha' : atI (x :: xs) ((tp1.turn + 1) % ((xs.length : Int) + 1)) = some c := by rw [List.length_cons] at ha; simpa using ha
      simp [startD, q, turnD, hcs, modD_int (show (0 : Int) < (xs.length : Int) + 1 by omega), cellD, ha', mo, p1, em, p2, ek]
end
end RM

/-! RX: judgements at given slots: the mirror in direct style. -/
namespace RM
open PySem PySem.Spec PyProof.Rows L2
/-! ### a bind that simp does not look behind -/
structure Dep {α : Type} (f : α) : Type where
  mk ::
def B {α β : Type} (m : M α) (f : α → M β) (_d : Dep f := Dep.mk) : M β := m >>= f
theorem B_eq {α β : Type} (m : M α) (f : α → M β) (d : Dep f) : B m f d = m >>= f := rfl
@[simp] theorem B_pure {α β : Type} (x : α) (f : α → M β) (d : Dep f) : B (pure x) f d = f x := Eq.trans rfl rfl
@[simp] theorem B_stuck {α β : Type} (f : α → M β) (d : Dep f) : B stuck f d = stuck := Eq.trans rfl rfl
@[simp] theorem B_raise {α β : Type} (e : Exc) (f : α → M β) (d : Dep f) : B (raise e) f d = raise e := Eq.trans rfl rfl
theorem B_B {α β γ : Type} (m : M α) (f : α → M β) (g : β → M γ) (d : Dep f) (e : Dep g) : B (B m f d) g e = B m (fun x => B (f x) g e) := by
  unfold B; exact bind_assoc m f g
theorem B_id {α : Type} (m : M α) (d : Dep (fun x : α => (pure x : M α))) : B m (fun x => pure x) d = m := by
  unfold B; exact bind_pure m
def runA : List (M D) → M (List D)
  | [] => pure []
  | m :: ms => do let x ← m; let xs ← runA ms; pure (x :: xs)
def argsB {β : Type} : List (M D) → (List D → M β) → M β
  | [], k => k []
  | m :: ms, k => B m (fun x => argsB ms (fun xs => k (x :: xs)))
abbrev callB {β : Type} (ms : List (M D)) (gf : List D → M β) (dds : List D) : M β := argsB ms fun xs => gf (xs ++ dds)
@[simp] theorem argsB_nil {β : Type} (k : List D → M β) : argsB [] k = k [] := Eq.trans rfl rfl
@[simp] theorem argsB_cons {β : Type} (m : M D) (ms : List (M D)) (k : List D → M β) : argsB (m :: ms) k = B m fun x => argsB ms fun xs => k (x :: xs) := Eq.trans rfl rfl
theorem argsB_eq {β : Type} : ∀ (ms : List (M D)) (k : List D → M β), argsB ms k = runA ms >>= k
  | [], k => (pure_bind _ _).symm
  | m :: ms, k => by
    show (m >>= fun x => argsB ms fun xs => k (x :: xs)) = (m >>= fun x => runA ms >>= fun xs => pure (x :: xs)) >>= k
    rw [bind_assoc]
    congr 1
    funext x
    rw [argsB_eq ms, bind_assoc]
    congr 1
/-! ### at given slots -/
open Classical in
noncomputable def AtG {α : Type} (g : DSt) (m : M α) : DSt → M α := fun t => if t = g then m else stuck
theorem AtG_self {α : Type} (g : DSt) (m : M α) : AtG g m g = m := if_pos rfl
theorem AtG_ne {α : Type} {g t : DSt} (m : M α) (h : t ≠ g) : AtG g m t = stuck := if_neg h
def tXE (K : PySem.W.Frag) (W : WX) (g : DSt) (m : M D) : TE := fun σ H Q => ∃ p G S ow, RelS K p G S H g σ ow ∧ okR (Den K) K p G H (fun c d H' => W c d σ H') (m S) Q
def tXT (K : PySem.W.Frag) (W : WX) (g : DSt) (m : M Bool) : TT := fun σ H Q => ∃ p G S ow, RelS K p G S H g σ ow ∧ okR rB K p G H (fun c d H' => W c d σ H') (m S) Q
def tXA (K : PySem.W.Frag) (W : WX) (g : DSt) (m : M (List D)) : TA := fun σ H Q => ∃ p G S ow, RelS K p G S H g σ ow ∧ okR (DenL K) K p G H (fun c d H' => W c d σ H') (m S) Q
def tXI (K : PySem.W.Frag) (W : WX) (g : DSt) (m : M (List D)) : TI := fun σ H R => ∃ p G S ow, RelS K p G S H g σ ow ∧ okR (ItOk K) K p G H (fun c d H' => W c d σ H') (m S) R
def tXF (K : PySem.W.Frag) (W : WX) (g : DSt) (m : M (List D)) : TE := fun σ H Q => ∃ p G S ow, RelS K p G S H g σ ow ∧ okF K p G H (fun c d H' => W c d σ H') (m S) Q
abbrev XE (X : Cx) (W : WX) (g : DSt) (e : Expr) (m : M D) : Prop := PE X e (tXE X.K W g m)
abbrev XT (X : Cx) (W : WX) (g : DSt) (e : Expr) (m : M Bool) : Prop := PT X e (tXT X.K W g m)
abbrev XW (X : Cx) (W : WX) (g : DSt) (e : Expr) (m : M Bool) : Prop := PW X e (tXT X.K W g m)
abbrev XA (X : Cx) (W : WX) (g : DSt) (es : List Expr) (ms : List (M D)) : Prop := PA X es (tXA X.K W g (runA ms))
abbrev XKw (X : Cx) (W : WX) (g : DSt) (kw : List Keyword) (ms : List (M D)) : Prop := PK X kw (tXA X.K W g (runA ms))
abbrev XI (X : Cx) (W : WX) (g : DSt) (tg e : Expr) (m : M (List D)) : Prop := PI X tg e (tXI X.K W g m)
abbrev XF (X : Cx) (W : WX) (g : DSt) (e : Expr) (m : M (List D)) : Prop := PE X e (tXF X.K W g m)
section
variable {X : Cx} {W : WX} {g : DSt} {e a b c tg : Expr} {es : List Expr} {kw : List Keyword} {m ma mb mc : M D} {mt mu : M Bool} {ml : M (List D)} {ms : List (M D)} {u : DSt → M D} {ut : DSt → M Bool} {ul : DSt → M (List D)} {pos : Pos}
theorem XE.de (h : XE X W g e m) : DE X W e (AtG g m) := PE.imp h fun σ H Q ⟨t, p, G, S, ow, r, q⟩ => by
  by_cases e : t = g
  · subst e; rw [AtG_self] at q; exact ⟨p, G, S, ow, r, q⟩
  · rw [AtG_ne m e] at q; exact q.elim
theorem XE.by (h : DE X W e u) (q : u g = m) : XE X W g e m := PE.imp h fun σ H Q ⟨p, G, S, ow, r, k⟩ => ⟨g, p, G, S, ow, r, by rw [q]; exact k⟩
theorem XT.dt (h : XT X W g e mt) : DT X W e (AtG g mt) := PT.imp h fun σ H Q ⟨t, p, G, S, ow, r, q⟩ => by
  by_cases e : t = g
  · subst e; rw [AtG_self] at q; exact ⟨p, G, S, ow, r, q⟩
  · rw [AtG_ne mt e] at q; exact q.elim
theorem XT.by (h : DT X W e ut) (q : ut g = mt) : XT X W g e mt := PT.imp h fun σ H Q ⟨p, G, S, ow, r, k⟩ => ⟨g, p, G, S, ow, r, by rw [q]; exact k⟩
theorem XW.dw (h : XW X W g e mt) : DW X W e (AtG g mt) := PW.imp h fun σ H Q ⟨t, p, G, S, ow, r, q⟩ => by
  by_cases e : t = g
  · subst e; rw [AtG_self] at q; exact ⟨p, G, S, ow, r, q⟩
  · rw [AtG_ne mt e] at q; exact q.elim
theorem XW.by (h : DW X W e ut) (q : ut g = mt) : XW X W g e mt := PW.imp h fun σ H Q ⟨p, G, S, ow, r, k⟩ => ⟨g, p, G, S, ow, r, by rw [q]; exact k⟩
theorem XA.da (h : XA X W g es ms) : DA X W es (AtG g (runA ms)) := PA.imp h fun σ H Q ⟨t, p, G, S, ow, r, q⟩ => by
  by_cases e : t = g
  · subst e; rw [AtG_self] at q; exact ⟨p, G, S, ow, r, q⟩
  · rw [AtG_ne _ e] at q; exact q.elim
theorem XA.by (h : DA X W es ul) (q : ul g = runA ms) : XA X W g es ms := PA.imp h fun σ H Q ⟨p, G, S, ow, r, k⟩ => ⟨g, p, G, S, ow, r, by rw [q]; exact k⟩
theorem XKw.dk (h : XKw X W g kw ms) : DK X W kw (AtG g (runA ms)) := PK.imp h fun σ H Q ⟨t, p, G, S, ow, r, q⟩ => by
  by_cases e : t = g
  · subst e; rw [AtG_self] at q; exact ⟨p, G, S, ow, r, q⟩
  · rw [AtG_ne _ e] at q; exact q.elim
theorem XKw.by (h : DK X W kw ul) (q : ul g = runA ms) : XKw X W g kw ms := PK.imp h fun σ H Q ⟨p, G, S, ow, r, k⟩ => ⟨g, p, G, S, ow, r, by rw [q]; exact k⟩
theorem XI.di (h : XI X W g tg e ml) : DI X W tg e (AtG g ml) := PI.imp h fun σ H Q ⟨t, p, G, S, ow, r, q⟩ => by
  by_cases e : t = g
  · subst e; rw [AtG_self] at q; exact ⟨p, G, S, ow, r, q⟩
  · rw [AtG_ne ml e] at q; exact q.elim
theorem XI.by (h : DI X W tg e ul) (q : ul g = ml) : XI X W g tg e ml := PI.imp h fun σ H Q ⟨p, G, S, ow, r, k⟩ => ⟨g, p, G, S, ow, r, by rw [q]; exact k⟩
theorem XF.df (h : XF X W g e ml) : DF X W e (AtG g ml) := PE.imp h fun σ H Q ⟨t, p, G, S, ow, r, q⟩ => by
  by_cases e : t = g
  · subst e; rw [AtG_self] at q; exact ⟨p, G, S, ow, r, q⟩
  · rw [AtG_ne ml e] at q; exact q.elim
theorem XF.by (h : DF X W e ul) (q : ul g = ml) : XF X W g e ml := PE.imp h fun σ H Q ⟨p, G, S, ow, r, k⟩ => ⟨g, p, G, S, ow, r, by rw [q]; exact k⟩
/-- one way by rewriting -/
theorem XF.xe (h : XF X W g e ml) : XE X W g e (B ml fun xs => pure (.lst xs)) := XE.by (DF.de h.df) (by rw [AtG_self]; rfl)

/-! ### names, constants -/
theorem xe_var (i : Nat) {x : Str} {d : D} (hg : g[i]? = some (some (.val d)) := by rfl) (hN : X.N[i]? = some x := by rfl) (hv : Vis X.env.scope x := by first | exact Or.inl rfl | exact Or.inr (Or.inl rfl) | exact Or.inr (Or.inr rfl)) (hd : (x == ("__debug__" : Str)) = false := by decide)
    (hcd : (x == ("__classdict__" : Str)) = false := by decide) : XE X W g (.Name x pos) (pure d) := XE.by (de_var i hN hv hd hcd) (by unfold getV; rw [hg])
theorem xe_int {i j} : XE X W g (.Constant (.int i) j pos) (pure (.int i)) := XE.by de_int rfl
theorem xe_bl {i j} : XE X W g (.Constant (.bool i) j pos) (pure (.bl i)) := XE.by de_bl rfl
theorem xe_non {j} : XE X W g (.Constant .none j pos) (pure .non) := XE.by de_non rfl
theorem xe_str {x j} : XE X W g (.Constant (.str x) j pos) (pure (.str x)) := XE.by de_str rfl
theorem xe_glob {x : Str} {v : V} {w : Value} (d : D) (hg : Gl X x) (hm : X.mg x = some w) (r : RelV v w) (hd : ∀ p G, Den X.K p G d v) (hdb : (x == ("__debug__" : Str)) = false := by decide) : XE X W g (.Name x pos) (pure d) := XE.by (de_glob d hg hm r hd hdb) rfl
/-- from a reading of two parts, three parts -/
theorem XE.by1 {e : Expr} {f : D → M D} (h : DE X W a (AtG g ma) → DE X W e (fun t => do let x ← AtG g ma t; f x)) (ha : XE X W g a ma) : XE X W g e (B ma f) := XE.by (h ha.de) (by rw [AtG_self]; rfl)
theorem XE.by2 {e : Expr} {f : D → D → M D} (h : DE X W a (AtG g ma) → DE X W b (AtG g mb) → DE X W e (fun t => do let x ← AtG g ma t; let y ← AtG g mb t; f x y)) (ha : XE X W g a ma) (hb : XE X W g b mb) : XE X W g e (B ma fun x => B mb fun y => f x y) := XE.by (h ha.de hb.de) (by rw [AtG_self, AtG_self]; rfl)
def tst (m : M D) : M Bool := B m asB
theorem XT.by2 {e : Expr} {f : D → D → M D} (h : DE X W a (AtG g ma) → DE X W b (AtG g mb) → DT X W e (fun t => do let x ← (do let x ← AtG g ma t; let y ← AtG g mb t; f x y); asB x)) (ha : XE X W g a ma) (hb : XE X W g b mb) : XT X W g e (tst (B ma fun x => B mb fun y => f x y)) := XT.by (h ha.de hb.de) (by rw [AtG_self, AtG_self]; rfl)
theorem XE.byA {e : Expr} {f : List D → M D} (h : DA X W es (AtG g (runA ms)) → DE X W e (fun t => do let xs ← AtG g (runA ms) t; f xs)) (ha : XA X W g es ms) : XE X W g e (argsB ms f) := XE.by (h ha.da) (by rw [AtG_self, argsB_eq])
/-! ### arguments -/
theorem xa_nil : XA X W g [] [] := XA.by da_nil rfl
theorem xa_cons (ha : XE X W g a ma) (hr : XA X W g es ms) (hs : starEach (a :: es) X.env = (false, eval a X.env) :: starEach es X.env := by rfl) : XA X W g (a :: es) (ma :: ms) := XA.by (da_cons ha.de hr.da hs) (by rw [AtG_self, AtG_self]; rfl)
theorem xk_nil : XKw X W g [] [] := XKw.by dk_nil rfl
theorem xk_cons {nm : Option Str} {kpos : Pos} (ha : XE X W g a ma) (hr : XKw X W g kw ms) : XKw X W g (⟨nm, a, kpos⟩ :: kw) (ma :: ms) := XKw.by (dk_cons ha.de hr.dk) (by rw [AtG_self, AtG_self]; rfl)
theorem xe_tup {x1} (h : XA X W g es ms) : XE X W g (.Tuple es x1 pos) (argsB ms tupD) := XE.byA de_tup h
theorem xe_lst (h : XA X W g es ms) : XE X W g (.List es pos) (argsB ms lstD) := XE.byA de_lst h
theorem xf_lst (h : XA X W g es ms) : XF X W g (.List es pos) (argsB ms sizeL) := XF.by (df_lst h.da) (by rw [AtG_self, argsB_eq])
/-! ### operators -/
theorem xe_add (ha : XE X W g a ma) (hb : XE X W g b mb) : XE X W g (.BinOp a .Add b pos) (B ma fun x => B mb fun y => addD x y) := XE.by2 de_add ha hb
theorem xe_sub (ha : XE X W g a ma) (hb : XE X W g b mb) : XE X W g (.BinOp a .Sub b pos) (B ma fun x => B mb fun y => subD x y) := XE.by2 de_sub ha hb
theorem xe_mul (ha : XE X W g a ma) (hb : XE X W g b mb) : XE X W g (.BinOp a .Mult b pos) (B ma fun x => B mb fun y => mulD x y) := XE.by2 de_mul ha hb
theorem xe_mod (ha : XE X W g a ma) (hb : XE X W g b mb) : XE X W g (.BinOp a .Mod b pos) (B ma fun x => B mb fun y => modD x y) := XE.by2 de_mod ha hb
theorem xe_fdiv (ha : XE X W g a ma) (hb : XE X W g b mb) : XE X W g (.BinOp a .FloorDiv b pos) (B ma fun x => B mb fun y => fdivD x y) := XE.by2 de_fdiv ha hb
theorem xe_pow (ha : XE X W g a ma) (hb : XE X W g b mb) : XE X W g (.BinOp a .Pow b pos) (B ma fun x => B mb fun y => powD x y) := XE.by2 de_pow ha hb
theorem xe_neg (ha : XE X W g a ma) : XE X W g (.UnaryOp .USub a pos) (B ma negD) := XE.by1 de_neg ha
theorem xe_eq (hu : X.A.units + 64 < cLine) (ha : XE X W g a ma) (hb : XE X W g b mb) : XE X W g (.Compare a [.Eq] [b] pos) (B ma fun x => B mb fun y => eqD x y) := XE.by2 (de_eq hu) ha hb
theorem xe_ne (hu : X.A.units + 64 < cLine) (ha : XE X W g a ma) (hb : XE X W g b mb) : XE X W g (.Compare a [.NotEq] [b] pos) (B ma fun x => B mb fun y => neD x y) := XE.by2 (de_ne hu) ha hb
theorem xe_lt (ha : XE X W g a ma) (hb : XE X W g b mb) : XE X W g (.Compare a [.Lt] [b] pos) (B ma fun x => B mb fun y => ltD x y) := XE.by2 de_lt ha hb
theorem xe_le (ha : XE X W g a ma) (hb : XE X W g b mb) : XE X W g (.Compare a [.LtE] [b] pos) (B ma fun x => B mb fun y => leD x y) := XE.by2 de_le ha hb
theorem xe_gt (ha : XE X W g a ma) (hb : XE X W g b mb) : XE X W g (.Compare a [.Gt] [b] pos) (B ma fun x => B mb fun y => gtD x y) := XE.by2 de_gt ha hb
theorem xe_ge (ha : XE X W g a ma) (hb : XE X W g b mb) : XE X W g (.Compare a [.GtE] [b] pos) (B ma fun x => B mb fun y => geD x y) := XE.by2 de_ge ha hb
theorem xe_is (ha : XE X W g a ma) (hb : XE X W g b mb) : XE X W g (.Compare a [.Is] [b] pos) (B ma fun x => B mb fun y => isNonD x y) := XE.by2 de_is ha hb
theorem xe_isnot (ha : XE X W g a ma) (hb : XE X W g b mb) : XE X W g (.Compare a [.IsNot] [b] pos) (B ma fun x => B mb fun y => notNonD x y) := XE.by2 de_isnot ha hb
theorem xe_in (ha : XE X W g a ma) (hb : XE X W g b mb) (hm : behindInMarks .In b = false := by rfl) : XE X W g (.Compare a [.In] [b] pos) (B ma fun x => B mb fun y => inD false x y) := XE.by2 (fun h h' => de_in h h' hm) ha hb
theorem xe_notin (ha : XE X W g a ma) (hb : XE X W g b mb) (hm : behindInMarks .NotIn b = false := by rfl) : XE X W g (.Compare a [.NotIn] [b] pos) (B ma fun x => B mb fun y => inD true x y) := XE.by2 (fun h h' => de_notin h h' hm) ha hb
theorem xt_eq (hu : X.A.units + 64 < cLine) (ha : XE X W g a ma) (hb : XE X W g b mb) : XT X W g (.Compare a [.Eq] [b] pos) (tst (B ma fun x => B mb fun y => eqD x y)) := XT.by2 (dt_eq hu) ha hb
theorem xt_ne (hu : X.A.units + 64 < cLine) (ha : XE X W g a ma) (hb : XE X W g b mb) : XT X W g (.Compare a [.NotEq] [b] pos) (tst (B ma fun x => B mb fun y => neD x y)) := XT.by2 (dt_ne hu) ha hb
theorem xt_lt (ha : XE X W g a ma) (hb : XE X W g b mb) : XT X W g (.Compare a [.Lt] [b] pos) (tst (B ma fun x => B mb fun y => ltD x y)) := XT.by2 dt_lt ha hb
theorem xt_le (ha : XE X W g a ma) (hb : XE X W g b mb) : XT X W g (.Compare a [.LtE] [b] pos) (tst (B ma fun x => B mb fun y => leD x y)) := XT.by2 dt_le ha hb
theorem xt_gt (ha : XE X W g a ma) (hb : XE X W g b mb) : XT X W g (.Compare a [.Gt] [b] pos) (tst (B ma fun x => B mb fun y => gtD x y)) := XT.by2 dt_gt ha hb
theorem xt_ge (ha : XE X W g a ma) (hb : XE X W g b mb) : XT X W g (.Compare a [.GtE] [b] pos) (tst (B ma fun x => B mb fun y => geD x y)) := XT.by2 dt_ge ha hb
theorem xt_is (ha : XE X W g a ma) (hb : XE X W g b mb) : XT X W g (.Compare a [.Is] [b] pos) (tst (B ma fun x => B mb fun y => isNonD x y)) := XT.by2 dt_is ha hb
theorem xt_isnot (ha : XE X W g a ma) (hb : XE X W g b mb) : XT X W g (.Compare a [.IsNot] [b] pos) (tst (B ma fun x => B mb fun y => notNonD x y)) := XT.by2 dt_isnot ha hb
theorem xt_in (ha : XE X W g a ma) (hb : XE X W g b mb) (hm : behindInMarks .In b = false := by rfl) : XT X W g (.Compare a [.In] [b] pos) (tst (B ma fun x => B mb fun y => inD false x y)) := XT.by2 (fun h h' => dt_in h h' hm) ha hb
theorem xt_notin (ha : XE X W g a ma) (hb : XE X W g b mb) (hm : behindInMarks .NotIn b = false := by rfl) : XT X W g (.Compare a [.NotIn] [b] pos) (tst (B ma fun x => B mb fun y => inD true x y)) := XT.by2 (fun h h' => dt_notin h h' hm) ha hb
/-! ### and, or, not, if -/
theorem xt_val (ha : XE X W g a ma) (he : ∀ whole, isTrue a X.env whole = (do let v ← whole; standAt a.pos; holding [v] (truthy v)) := by intro _; rfl) : XT X W g a (tst ma) := XT.by (dt_val ha.de he) (by rw [AtG_self]; rfl)
def tNot (m : M Bool) : M Bool := B m fun b => pure (!b)
def tAnd (m n : M Bool) : M Bool := B m fun b => if b then n else pure false
def tOr (m n : M Bool) : M Bool := B m fun b => if b then pure true else n
theorem xt_not (ha : XT X W g a mt) : XT X W g (.UnaryOp .Not a pos) (tNot mt) := XT.by (dt_not ha.dt) (by rw [AtG_self]; rfl)
theorem xw_and1 (ha : XT X W g a mt) : XW X W g (.BoolOp .And [a] pos) mt := XW.by (dw_and1 ha.dt) (AtG_self _ _)
theorem xw_or1 (ha : XT X W g a mt) : XW X W g (.BoolOp .Or [a] pos) mt := XW.by (dw_or1 ha.dt) (AtG_self _ _)
theorem xw_and {rest : List Expr} (ha : XT X W g a mt) (hb : XW X W g (.BoolOp .And (b :: rest) pos) mu) : XW X W g (.BoolOp .And (a :: b :: rest) pos) (tAnd mt mu) := XW.by (dw_and ha.dt hb.dw) (by rw [AtG_self, AtG_self]; rfl)
theorem xw_or {rest : List Expr} (ha : XT X W g a mt) (hb : XW X W g (.BoolOp .Or (b :: rest) pos) mu) : XW X W g (.BoolOp .Or (a :: b :: rest) pos) (tOr mt mu) := XW.by (dw_or ha.dt hb.dw) (by rw [AtG_self, AtG_self]; rfl)
theorem XW.xt (h : XW X W g a mt) : XT X W g a mt := h.pt
def eAnd (m n : M D) : M D := B m fun x => B (asB x) fun b => if b then n else pure (.bl false)
def eOr (m n : M D) : M D := B m fun x => B (asB x) fun b => if b then pure (.bl true) else n
def eNot (m : M D) : M D := B m fun x => B (asB x) fun b => pure (.bl (!b))
def ifM {α : Type} (m : M Bool) (x y : M α) : M α := B m fun b => if b then x else y
theorem xe_one {op} (h : XE X W g a ma) : XE X W g (.BoolOp op [a] pos) ma := XE.by (de_one h.de) (AtG_self _ _)
theorem xe_and {rest : List Expr} (ha : XE X W g a ma) (hb : XE X W g (.BoolOp .And (b :: rest) pos) mb) : XE X W g (.BoolOp .And (a :: b :: rest) pos) (eAnd ma mb) := XE.by (de_and ha.de hb.de) (by rw [AtG_self, AtG_self]; rfl)
theorem xe_or {rest : List Expr} (ha : XE X W g a ma) (hb : XE X W g (.BoolOp .Or (b :: rest) pos) mb) : XE X W g (.BoolOp .Or (a :: b :: rest) pos) (eOr ma mb) := XE.by (de_or ha.de hb.de) (by rw [AtG_self, AtG_self]; rfl)
theorem xe_not (ha : XE X W g a ma) : XE X W g (.UnaryOp .Not a pos) (eNot ma) := XE.by (de_not ha.de) (by rw [AtG_self]; rfl)
theorem xe_if (hc : XT X W g c mt) (ha : XE X W g a ma) (hb : XE X W g b mb) : XE X W g (.IfExp c a b pos) (ifM mt ma mb) := XE.by (de_if hc.dt ha.de hb.de) (by rw [AtG_self, AtG_self, AtG_self]; rfl)
end
end RM

/-! RX: statements at given slots. -/
namespace RM
open PySem PySem.Spec PyProof.Rows L2
/-! ### slots forgotten -/
def Wk : DSt → DSt → Prop
  | [], [] => True
  | a :: s, b :: t => (b = none ∨ a = b) ∧ Wk s t
  | _, _ => False
theorem Wk.refl : ∀ t : DSt, Wk t t
  | [] => trivial
  | _ :: t => ⟨.inr rfl, Wk.refl t⟩
theorem SlotsR.wk {K : PySem.W.Frag} {p : List (List Addr)} {G H : Hp} : ∀ {t t' : DSt} {σ : L2.St} {ow : List Addr}, SlotsR K p G H t σ ow → Wk t t' → ∃ ow', ow'.Sublist ow ∧ SlotsR K p G H t' σ ow'
  | [], [], _, ow, h, _ => ⟨ow, List.Sublist.refl _, h⟩
  | [], _ :: _, _, _, _, w => w.elim
  | _ :: _, [], _, _, _, w => w.elim
  | a :: s, b :: t, _, _, ⟨v, r, l, k, h1, h2, h3, h4⟩, ⟨w1, w2⟩ => by
    obtain ⟨ow', s', q⟩ := SlotsR.wk h4 w2
    rcases w1 with rfl | rfl
    · exact ⟨ow', by rw [h2]; exact s'.trans (List.sublist_append_right _ _), v, r, [], ow', h1, rfl, rfl, q⟩
    · exact ⟨l ++ ow', by rw [h2]; exact List.Sublist.append (List.Sublist.refl _) s', v, r, l, ow', h1, rfl, h3, q⟩
theorem RelS.wk {K : PySem.W.Frag} {p : List (List Addr)} {G H : Hp} {S : Sto} {t t' : DSt} {σ : L2.St} {ow : List Addr} (r : RelS K p G S H t σ ow) (w : Wk t t') : ∃ ow', ow'.Sublist ow ∧ RelS K p G S H t' σ ow' := by
  obtain ⟨ow', s, q⟩ := r.sl.wk w
  exact ⟨ow', s, r.rel, q, r.nd.sublist (List.Sublist.append (List.Sublist.refl _) s), fun a ha => r.gn a (s.subset ha)⟩
theorem RelF.wk {K : PySem.W.Frag} {n : Snap} {p : List (List Addr)} {G H : Hp} {S : Sto} {t t' : DSt} {σ : L2.St} {ow : List Addr} (r : RelF K n p G S H t σ ow) (w : Wk t t') : ∃ ow', RelF K n p G S H t' σ ow' := by
  obtain ⟨ow', s, q⟩ := r.rs.wk w
  exact ⟨ow', q, r.ext, fun a ha => r.own a (s.subset ha), r.fp, r.fg⟩
/-! ### the judgement -/
abbrev IC (α : Type) := α → Ctl → Prop
def okG {α : Type} (K : PySem.W.Frag) (W : Wf) (n : Snap) (I : IC α) (r : Res α) (E : Ends) : Prop := match r with
  | .ok a S' => ∀ c, I a c → okS K W n (.ok c S') E
  | .exc e S' => okS K W n (.exc e S') E
  | .stuck => False
def tXS {α : Type} (K : PySem.W.Frag) (W : Wf) (g : DSt) (I : IC α) (m : M α) : TS := fun E σ H => ∃ n p G S ow, RelF K n p G S H g σ ow ∧ okG K W n I (m S) E
abbrev XS {α : Type} (X : Cx) (W : Wf) (g : DSt) (I : IC α) (ss : List Stmt) (m : M α) : Prop := PSs X ss (tXS X.K W g I m)
abbrev XS1 {α : Type} (X : Cx) (W : Wf) (g : DSt) (I : IC α) (st : Stmt) (m : M α) : Prop := PS X st (tXS X.K W g I m)
/-- a body's end: its value, None if it falls off -/
def IB : IC D := fun d c => c = .rt d ∨ (d = .non ∧ ∃ t, c = .nx t)
/-- no falling through -/
def IR {α : Type} (I : IC α) : IC α := fun a c => I a c ∧ ((∃ d, c = .rt d) ∨ ∃ xs, c = .rl xs)
/-- falls through with the slots (e x) -/
def IN {τ : Type} (e : τ → DSt) : IC τ := fun x c => ∃ t, c = .nx t ∧ Wk t (e x)
/-- a value is returned, or it falls through -/
def IS {τ : Type} (e : τ → DSt) : IC (D ⊕ τ)
  | .inl d, c => c = .rt d
  | .inr x, c => ∃ t, c = .nx t ∧ Wk t (e x)
theorem fam {X : Cx} {ι : Type} {ss : List Stmt} {t : ι → TS} (h : ∀ i, PSs X ss (t i)) : PSs X ss (fun E σ H => ∃ i, t i E σ H) := ⟨fun pins s σ H E I ⟨i, q⟩ => (h i).run pins s σ H E I q⟩
theorem okG.mono {α : Type} {K : PySem.W.Frag} {W : Wf} {n : Snap} {I J : IC α} {r : Res α} {E : Ends} (h : okG K W n I r E) (k : ∀ a c, J a c → I a c) : okG K W n J r E := by
  cases r with
  | ok a S' => exact fun c hc => h c (k a c hc)
  | exc e S' => exact h
  | stuck => exact h
section
variable {α β τ : Type} {X : Cx} {W : Wf} {g : DSt} {I : IC α} {J : IC β} {st : Stmt} {rest xs ys : List Stmt} {m : M α} {mj : M β} {k : β → M α} {e c : Expr} {me : M D} {mt : M Bool} {pos : Pos} {u : DSt → M Ctl}
theorem XS.wk {t : DSt} (h : XS X W g I rest m) (w : Wk t g) : XS X W t I rest m := PSs.imp h fun E σ H ⟨n, p, G, S, ow, r, q⟩ => by
  obtain ⟨ow', r'⟩ := r.wk w
  exact ⟨n, p, G, S, ow', r', q⟩
theorem XS.ic {J : IC α} (h : XS X W g I rest m) (k : ∀ a c, I a c → J a c) : XS X W g J rest m := PSs.imp h fun E σ H ⟨n, p, G, S, ow, r, q⟩ => ⟨n, p, G, S, ow, r, q.mono k⟩
/-- a statement, then the rest -/
theorem xs_last (h : XS1 X W g I st m) : XS X W g I [st] m := pss_one h
theorem xs_seq (h : XS1 X W g J st mj) (hn : ∀ b t, J b (.nx t) → XS X W t I rest (k b)) (hr : ∀ b d, J b (.rt d) → ∃ a, k b = pure a ∧ I a (.rt d)) (hb : ∀ b t, J b (.bk t) → False) (hc : ∀ b t, J b (.ct t) → False) (hl : ∀ b xs, J b (.rl xs) → False) : XS X W g I (st :: rest) (B mj k) := by
  refine PSs.imp (pss_cons h (fam (ι := {q : β × DSt // J q.1 (.nx q.2)}) fun q => hn q.1.1 q.1.2 q.2)) fun E σ H ⟨n, p, G, S, ow, r, q⟩ => ?_
  have q : okG X.K W n I ((mj S).andThen k) E := q
  refine ⟨n, p, G, S, ow, r, ?_⟩
  cases em : mj S with
  | stuck => rw [em] at q; exact q
  | exc x S1 => rw [em] at q; exact q
  | ok b S1 =>
    rw [em] at q
    have q : okG X.K W n I (k b S1) E := q
    intro c hc'
    cases c with
    | nx t => exact fun p' G' H' σ' ow' r' => ⟨⟨(b, t), hc'⟩, n, p', G', S1, ow', r', q⟩
    | rt d =>
      obtain ⟨a, ea, ia⟩ := hr b d hc'
      rw [ea] at q
      exact q (.rt d) ia
    | bk t => exact (hb b t hc').elim
    | ct t => exact (hc b t hc').elim
    | rl t => exact (hl b t hc').elim
/-- it falls through; a value may be returned -/
theorem xs_then {e : τ → DSt} {mj : M τ} {k : τ → M α} (h : XS1 X W g (IN e) st mj) (hk : ∀ x, XS X W (e x) I rest (k x)) : XS X W g I (st :: rest) (B mj k) :=
  xs_seq h (fun b t ⟨t', e1, w⟩ => by cases e1; exact (hk b).wk w) (fun b d ⟨t', e1, _⟩ => by cases e1) (fun b t ⟨t', e1, _⟩ => by cases e1) (fun b t ⟨t', e1, _⟩ => by cases e1) (fun b t ⟨t', e1, _⟩ => by cases e1)
def orRet {α τ : Type} (r : D → α) (k : τ → M α) : D ⊕ τ → M α
  | .inl d => pure (r d)
  | .inr x => k x
theorem xs_thenS {e : τ → DSt} {mj : M (D ⊕ τ)} {r : D → α} {k : τ → M α} (h : XS1 X W g (IS e) st mj) (hr : ∀ d, I (r d) (.rt d)) (hk : ∀ x, XS X W (e x) I rest (k x)) : XS X W g I (st :: rest) (B mj (orRet r k)) :=
  xs_seq h (fun b t q => match b, q with | .inr x, ⟨t', e1, w⟩ => by cases e1; exact (hk x).wk w) (fun b d q => match b, q with | .inl d', e1 => by cases e1; exact ⟨r d, rfl, hr d⟩) (fun b t q => match b, q with | .inl _, e1 => by cases e1 | .inr _, ⟨_, e1, _⟩ => by cases e1) (fun b t q => match b, q with | .inl _, e1 => by cases e1 | .inr _, ⟨_, e1, _⟩ => by cases e1) (fun b t q => match b, q with | .inl _, e1 => by cases e1 | .inr _, ⟨_, e1, _⟩ => by cases e1)
theorem xs_nil {a : α} (h : I a (.nx g)) : XS X W g I [] (pure a) := PSs.imp pss_nil fun E σ H ⟨n, p, G, S, ow, r, q⟩ => q (.nx g) h p G H σ ow r
theorem xs_stuck : XS X W g I rest stuck := PSs.imp pss_never fun E σ H ⟨n, p, G, S, ow, r, q⟩ => q.elim
/-- what an expression's result is put to -/
theorem okG.seq {γ δ : Type} {R1 : List (List Addr) → Hp → γ → δ → Prop} {K : PySem.W.Frag} {n : Snap} {E : Ends} {p : List (List Addr)} {G H : Hp} {S : Sto} {σ : L2.St} {ow : List Addr} {mx : M γ} {f : γ → M α} {Q1 : δ → Hp → Prop} {d : Dep f}
    (h : okG K W n I (B mx f d S) E) (r : RelF K n p G S H g σ ow)
    (k : ∀ d S1 v p1 G1 H1, mx S = .ok d S1 → R1 p1 G1 d v → RelF K n p1 G1 S1 H1 g σ ow → Ext p G H p1 G1 H1 → okG K W n I (f d S1) E → Q1 v H1) : okR R1 K p G H (fun c d H' => W c d H') (mx S) Q1 := by
  have h' : okG K W n I ((mx S).andThen f) E := h
  cases e : mx S with
  | ok d S1 =>
    rw [e] at h'
    exact fun v p1 G1 H1 a b c => k d S1 v p1 G1 H1 e a (r.step c b) c h'
  | exc x S1 =>
    rw [e] at h'
    exact fun cls dd p1 G1 H1 a b c => h' cls dd p1 G1 H1 a b (r.ext.trans c)
  | stuck =>
    rw [e] at h'
    exact h'
theorem xs_ret {r : D → α} (he : XE X W.x g e me) (hr : ∀ d, I (r d) (.rt d)) : XS X W g I (.Return (some e) pos :: rest) (B me fun d => pure (r d)) := by
  refine PSs.imp (pss_cons (ps_ret he) pss_never) fun E σ H ⟨n, p, G, S, ow, r', q⟩ => ?_
  exact ⟨p, G, S, ow, r'.rs, okG.seq q r' fun d S1 v p1 G1 H1 e1 dn r1 x1 h1 => h1 (.rt d) (hr d) v p1 G1 H1 dn r1.rs.rel r1.ext⟩
theorem xs_retB (he : XE X W.x g e me) : XS X W g IB (.Return (some e) pos :: rest) me := by
  have := xs_ret (pos := pos) (rest := rest) (r := fun d => d) (I := IB) he fun d => .inl rfl
  rwa [B_id] at this
theorem xs_retR (he : XE X W.x g e me) : XS X W g (IR IB) (.Return (some e) pos :: rest) me := by
  have := xs_ret (pos := pos) (rest := rest) (r := fun d => d) (I := IR IB) he fun d => ⟨.inl rfl, .inl ⟨d, rfl⟩⟩
  rwa [B_id] at this
theorem xs_retN {a : α} (hr : I a (.rt .non)) : XS X W g I (.Return none pos :: rest) (pure a) :=
  PSs.imp (pss_cons ps_retN pss_never) fun E σ H ⟨n, p, G, S, ow, r', q⟩ => q (.rt .non) hr .non p G H rfl r'.rs.rel r'.ext
theorem xs_expr (he : XE X W.x g e me) (hk : XS X W g I rest m) (hs : swapsWith e none pos.line X.env = pure false := by rfl) : XS X W g I (.Expr e pos :: rest) (B me fun _ => m) := by
  refine PSs.imp (pss_cons (ps_expr he hs) hk) fun E σ H ⟨n, p, G, S, ow, r', q⟩ => ?_
  exact ⟨p, G, S, ow, r'.rs, okG.seq q r' fun d S1 v p1 G1 H1 e1 dn r1 x1 h1 => ⟨n, p1, G1, S1, ow, r1, h1⟩⟩
/-- if -/
theorem xs_if {mx my : M α} (hc : XT X W.x g c mt) (hx : XS X W g I xs mx) (hy : XS X W g I ys my) : XS1 X W g I (.If c xs ys pos) (ifM mt mx my) := by
  refine PS.imp (ps_if hc hx hy) fun E σ H ⟨n, p, G, S, ow, r', q⟩ => ?_
  refine ⟨p, G, S, ow, r'.rs, okG.seq q r' fun b S1 v p1 G1 H1 e1 dn r1 x1 h1 => ?_⟩
  cases dn
  cases b with
  | true => exact iteT ⟨n, p1, G1, S1, ow, r1, h1⟩
  | false => exact iteF ⟨n, p1, G1, S1, ow, r1, h1⟩
/-- if c: .. return, then the rest -/
theorem xs_if1 {mx my : M α} (hc : XT X W.x g c mt) (hx : XS X W g (IR I) xs mx) (hy : XS X W g I rest my) : XS X W g I (.If c xs [] pos :: rest) (ifM mt mx my) := by
  refine PSs.imp (pss_cons (ps_if hc hx pss_nil) hy) fun E σ H ⟨n, p, G, S, ow, r', q⟩ => ?_
  refine ⟨p, G, S, ow, r'.rs, okG.seq q r' fun b S1 v p1 G1 H1 e1 dn r1 x1 h1 => ?_⟩
  cases dn
  cases b with
  | true =>
    refine iteT ⟨n, p1, G1, S1, ow, r1, ?_⟩
    have h1 : okG X.K W n I (mx S1) E := h1
    cases em : mx S1 with
    | ok a S2 =>
      rw [em] at h1
      rintro c ⟨ic, ⟨d, rfl⟩ | ⟨ys, rfl⟩⟩
      · exact h1 (.rt d) ic
      · exact h1 (.rl ys) ic
    | exc _ _ => rw [em] at h1; exact h1
    | stuck => rw [em] at h1; exact h1
  | false => exact iteF ⟨n, p1, G1, S1, ow, r1, h1⟩
/-- a plain statement by its reading over slots: it falls through -/
theorem xs_next {γ : Type} {mx : M γ} {e : γ → DSt} {k : γ → M α} (h : DS X W st u) (q : u g = mx >>= fun x => pure (.nx (e x))) (hk : ∀ x, XS X W (e x) I rest (k x)) : XS X W g I (st :: rest) (B mx k) := by
  refine PSs.imp (pss_cons h (fam hk)) fun E σ H ⟨n, p, G, S, ow, r, z⟩ => ?_
  have z : okG X.K W n I ((mx S).andThen k) E := z
  refine ⟨n, g, p, G, S, ow, r, ?_⟩
  rw [q]
  show okS X.K W n ((mx S).andThen fun x => pure (.nx (e x))) _
  cases em : mx S with
  | stuck => rw [em] at z; exact z
  | exc x S1 => rw [em] at z; exact z
  | ok b S1 =>
    rw [em] at z
    exact fun p' G' H' σ' ow' r' => ⟨b, n, p', G', S1, ow', r', z⟩
theorem setV_at {i : Nat} {d : D} (hl : decide (i < g.length) = true) : setV g i d = some (g.set i (some (.val d))) := if_pos (of_decide_eq_true hl)
/-- name = e -/
theorem xs_set (i : Nat) {x : Str} {pos' : Pos} {k : D → M α} (hN : X.N.Nodup) (hi : X.N[i]? = some x) (hx : Loc X.env.scope x) (he : XE X W.x g e me) (hk : ∀ v, XS X W (g.set i (some (.val v))) I rest (k v)) (hl : decide (i < g.length) = true := by rfl) (hs : swapsWith e (some (.Name x pos')) pos.line X.env = pure false := by rfl) (hf : X.fn x = true ∨ X.env.scope.names.lookup x = some .local := by first | exact .inl rfl | exact .inr rfl | assumption) :
    XS X W g I (.Assign [.Name x pos'] e pos :: rest) (B me k) := by
  refine xs_next (e := fun v => g.set i (some (.val v))) (ds_set i hN hi hx he.de hs hf) ?_ hk
  rw [AtG_self]
  congr 1
  funext d
  rw [setV_at hl]; rfl
end
end RM

/-! RX: comprehensions, loops, own lists at given slots. -/
namespace RM
open PySem PySem.Spec PyProof.Rows L2
/-! ### targets -/
def tp2 {α : Type} (f : D → D → M α) : D → M α
  | .tup [a, b] => f a b
  | _ => stuck
def tp3 {α : Type} (f : D → D → D → M α) : D → M α
  | .tup [a, b, c] => f a b c
  | _ => stuck
def tp4 {α : Type} (f : D → D → D → D → M α) : D → M α
  | .tup [a, b, c, d] => f a b c d
  | _ => stuck
@[simp] theorem tp2_tup {α : Type} (f : D → D → M α) (a b : D) : tp2 f (.tup [a, b]) = f a b := Eq.trans rfl rfl
@[simp] theorem tp3_tup {α : Type} (f : D → D → D → M α) (a b c : D) : tp3 f (.tup [a, b, c]) = f a b c := Eq.trans rfl rfl
@[simp] theorem tp4_tup {α : Type} (f : D → D → D → D → M α) (a b c d : D) : tp4 f (.tup [a, b, c, d]) = f a b c d := Eq.trans rfl rfl
theorem setV_get {g t : DSt} {i : Nat} {d : D} (h : setV g i d = some t) : t = g.set i (some (.val d)) := by
  unfold setV at h
  split at h
  · cases h; rfl
  · cases h
theorem tgt1 {g : DSt} {i : Nat} {P : D → DSt → Prop} (h : ∀ d, P d (g.set i (some (.val d)))) : ∀ d t, (Tgt.nm i).set d g = some t → P d t := fun d t e => by
  rw [setV_get e]; exact h d
theorem setVs_get : ∀ {is : List Nat} {g t : DSt} {ds : List D}, setVs g is ds = some t → ds.length = is.length ∧ t = (is.zip ds).foldl (fun g q => g.set q.1 (some (.val q.2))) g
  | [], g, t, [], e => by cases e; exact ⟨rfl, rfl⟩
  | [], _, _, _ :: _, e => by cases e
  | _ :: _, _, _, [], e => by cases e
  | i :: is, g, t, d :: ds, e => by
    unfold setVs at e
    cases h : setV g i d with
    | none => rw [h] at e; cases e
    | some g2 =>
      rw [h] at e
      obtain ⟨h1, h2⟩ := setVs_get (show setVs g2 is ds = some t from e)
      rw [setV_get h] at h2
      exact ⟨by rw [List.length_cons, List.length_cons, h1], h2⟩
theorem tgtN {g : DSt} {is : List Nat} {P : D → DSt → Prop} (h : ∀ ds, ds.length = is.length → P (.tup ds) ((is.zip ds).foldl (fun g q => g.set q.1 (some (.val q.2))) g)) : ∀ d t, (Tgt.tp is).set d g = some t → P d t := fun d t e => by
  cases d <;> try cases e
  rename_i xs
  obtain ⟨h1, h2⟩ := setVs_get (show setVs g is xs = some t from e)
  rw [h2]
  exact h xs h1
theorem tgt2 {g : DSt} {i j : Nat} {P : D → DSt → Prop} (h : ∀ a b, P (.tup [a, b]) ((g.set i (some (.val a))).set j (some (.val b)))) : ∀ d t, (Tgt.tp [i, j]).set d g = some t → P d t := tgtN fun ds e => match ds, e with | [a, b], _ => h a b
theorem tgt3 {g : DSt} {i j k : Nat} {P : D → DSt → Prop} (h : ∀ a b c, P (.tup [a, b, c]) (((g.set i (some (.val a))).set j (some (.val b))).set k (some (.val c)))) : ∀ d t, (Tgt.tp [i, j, k]).set d g = some t → P d t := tgtN fun ds e => match ds, e with | [a, b, c], _ => h a b c
theorem tgt4 {g : DSt} {i j k l : Nat} {P : D → DSt → Prop} (h : ∀ a b c d, P (.tup [a, b, c, d]) ((((g.set i (some (.val a))).set j (some (.val b))).set k (some (.val c))).set l (some (.val d)))) : ∀ d t, (Tgt.tp [i, j, k, l]).set d g = some t → P d t := tgtN fun ds e => match ds, e with | [a, b, c, d], _ => h a b c d
theorem none1 {α : Type} {g : DSt} {i : Nat} {f : D → M α} (hl : decide (i < g.length) = true) : ∀ d, (Tgt.nm i).set d g = none → f d = stuck := fun d e => by
  have e : setV g i d = none := e
  rw [setV_at hl] at e; cases e
theorem setVs_some : ∀ {is : List Nat} {g : DSt} {ds : List D}, ds.length = is.length → (∀ i ∈ is, i < g.length) → ∃ t, setVs g is ds = some t
  | [], g, [], _, _ => ⟨g, rfl⟩
  | [], _, _ :: _, h, _ => by cases h
  | _ :: _, _, [], h, _ => by cases h
  | i :: is, g, d :: ds, h, k => by
    unfold setVs setV
    rw [if_pos (k i (List.mem_cons_self ..))]
    exact setVs_some (by simpa using h) fun j hj => by rw [List.length_set]; exact k j (List.mem_cons_of_mem _ hj)
theorem none2 {α : Type} {g : DSt} {i j : Nat} {f : D → D → M α} (hl : decide (i < g.length ∧ j < g.length) = true) : ∀ d, (Tgt.tp [i, j]).set d g = none → tp2 f d = stuck := fun d e => by
  unfold tp2
  split
  · rename_i a b
    obtain ⟨t, q⟩ := setVs_some (is := [i, j]) (g := g) (ds := [a, b]) rfl (by have := of_decide_eq_true hl; simp; exact this)
    have e : setVs g [i, j] [a, b] = none := e
    rw [q] at e; cases e
  · rfl
theorem none3 {α : Type} {g : DSt} {i j k : Nat} {f : D → D → D → M α} (hl : decide (i < g.length ∧ j < g.length ∧ k < g.length) = true) : ∀ d, (Tgt.tp [i, j, k]).set d g = none → tp3 f d = stuck := fun d e => by
  unfold tp3
  split
  · rename_i a b c
    obtain ⟨t, q⟩ := setVs_some (is := [i, j, k]) (g := g) (ds := [a, b, c]) rfl (by have := of_decide_eq_true hl; simp; exact this)
    have e : setVs g [i, j, k] [a, b, c] = none := e
    rw [q] at e; cases e
  · rfl
theorem none4 {α : Type} {g : DSt} {i j k l : Nat} {f : D → D → D → D → M α} (hl : decide (i < g.length ∧ j < g.length ∧ k < g.length ∧ l < g.length) = true) : ∀ d, (Tgt.tp [i, j, k, l]).set d g = none → tp4 f d = stuck := fun d e => by
  unfold tp4
  split
  · rename_i a b c d
    obtain ⟨t, q⟩ := setVs_some (is := [i, j, k, l]) (g := g) (ds := [a, b, c, d]) rfl (by have := of_decide_eq_true hl; simp; exact this)
    have e : setVs g [i, j, k, l] [a, b, c, d] = none := e
    rw [q] at e; cases e
  · rfl
/-! ### comprehensions -/
def lcX (mt : D → M Bool) (me : D → M D) : List D → List D → M (List D)
  | [], acc => pure acc
  | d :: ds, acc => B (mt d) fun b => if b then B (me d) fun y => if acc.length < sizeLine then lcX mt me ds (acc ++ [y]) else stuck else lcX mt me ds acc
def lc (mt : D → M Bool) (me : D → M D) (ds : List D) : M (List D) := noE (lcX mt me ds [])
def famT (K : PySem.W.Frag) (g : DSt) (ws : List Nat) (T : Tgt) (mt : D → M Bool) : TT := fun σ H Q => ∃ d t, T.set d (wipeD g ws) = some t ∧ tXT K W0 t (mt d) σ H Q
def famE (K : PySem.W.Frag) (g : DSt) (ws : List Nat) (T : Tgt) (me : D → M D) : TE := fun σ H Q => ∃ d t, T.set d (wipeD g ws) = some t ∧ tXE K W0 t (me d) σ H Q
theorem lcx_read {K : PySem.W.Frag} {V : WX} {g : DSt} {ws : List Nat} {T : Tgt} {mi : M (List D)} {mt : D → M Bool} {me : D → M D} {σ : L2.St} {H : Hp} {Q : VK} (hT : ∀ i ∈ T.slots, i ∈ ws) (hN : ∀ d, T.set d (wipeD g ws) = none → mt d = stuck)
    (h : tXF K V g (B mi fun ds => lc mt me ds) σ H Q) : tLc (tXI K V g mi) (T.tg K) (famT K g ws T mt) (famE K g ws T me) ws σ H Q := by
  obtain ⟨p, G, S, ow, r, h⟩ := h
  have h : okF K p G H (fun c d H' => V c d σ H') ((mi >>= fun ds => noE (lcX mt me ds [])) S) Q := h
  refine ⟨p, G, S, ow, r, okF.seq h fun ds S1 J p1 G1 H1 e1 dn r1 x1 h1 => ?_⟩
  have h1 : okF K p1 G1 H1 (fun _ _ _ => False) (lcX mt me ds [] S1) Q := h1.noE
  intro A hA
  have rs1 := r.ext x1 r1
  have gA : G1 A = none := r1.gfree hA
  have pA : A ∉ p1.flatten := fun z => r1.dom z hA
  refine ⟨fun i m H' => i + m = ds.length ∧ ∃ p' G' S' acc vacc, Rel0 K p' S' G' H' ∧ Ext p1 G1 H1 p' G' H' ∧ G' A = none ∧ A ∉ p'.flatten ∧ H' A = some (.lst vacc) ∧ DenL K p' G' acc vacc ∧
    okF K p1 G1 H1 (fun _ _ _ => False) (lcX mt me (ds.drop i) acc S') Q, ⟨ds.length, by simp, p1, G1, S1, [], [], r1.own _ pA gA, ⟨Same.refl _, fun _ h _ => h, fun b o e _ => by rw [upd_ne (ne_of_none e hA)]; exact e, fun b e => ?_, [], by simp, by simp⟩, gA, pA, upd_same, rfl, by simpa using h1⟩, ?_⟩
  · by_cases q : b = A
    · subst q; rw [upd_same]; simp
    · rw [upd_ne q]; exact e
  rintro i m H' ⟨hi', p', G', S', acc, vacc, r', x', gA', pA', hA', da, h'⟩
  have sm : Same G1 H' := x'.g.trans r'.sub
  by_cases hlt : i < ds.length
  · refine .inr ⟨dn.go i H' sm hlt, fun H2 => ∃ p' G' S' acc vacc, Rel0 K p' S' G' H2 ∧ Ext p1 G1 H1 p' G' H2 ∧ G' A = none ∧ A ∉ p'.flatten ∧ H2 A = some (.lst vacc) ∧ DenL K p' G' acc vacc ∧
      okF K p1 G1 H1 (fun _ _ _ => False) (lcX mt me (ds.drop (i + 1)) acc S') Q, fun H2 q => ⟨m - 1, by omega, by omega, q⟩, fun x H2 y => ?_⟩
    have ed : ds[i]? = some ds[i] := by simp [hlt]
    rw [List.drop_eq_getElem_cons hlt] at h'
    have fin : ∀ G2 H3, Rel0 K p' S' G2 H3 → Ext p' G' H' p' G2 H3 → Den K p' G2 ds[i] x → T.tg K x (wipe σ ws) H3 fun σ2 H2 => wipe σ2 ws = wipe σ ws ∧ famT K g ws T mt σ2 H2 fun b H3 => if b = true then famE K g ws T me σ2 H3 fun y H4 => ∃ acc, H4 A = some (.lst acc) ∧ acc.length < sizeLine ∧
          (∃ p' G' S' acc' vacc, Rel0 K p' S' G' (upd H4 A (.lst (acc ++ [y]))) ∧ Ext p1 G1 H1 p' G' (upd H4 A (.lst (acc ++ [y]))) ∧ G' A = none ∧ A ∉ p'.flatten ∧ (upd H4 A (.lst (acc ++ [y]))) A = some (.lst vacc) ∧ DenL K p' G' acc' vacc ∧ okF K p1 G1 H1 (fun _ _ _ => False) (lcX mt me (ds.drop (i + 1)) acc' S') Q)
        else (∃ p' G' S' acc vacc, Rel0 K p' S' G' H3 ∧ Ext p1 G1 H1 p' G' H3 ∧ G' A = none ∧ A ∉ p'.flatten ∧ H3 A = some (.lst vacc) ∧ DenL K p' G' acc vacc ∧ okF K p1 G1 H1 (fun _ _ _ => False) (lcX mt me (ds.drop (i + 1)) acc S') Q) := by
      intro G2 H3 r2 x2 dx
      have x12 := x'.trans x2
      obtain ⟨ow3, _, rw3⟩ := (rs1.ext x12 r2).wipe ws
      have h3 : okF K p1 G1 H1 (fun _ _ _ => False) ((mt ds[i] >>= fun b => if b = true then B (me ds[i]) fun y => if acc.length < sizeLine then lcX mt me (ds.drop (i + 1)) (acc ++ [y]) else stuck else lcX mt me (ds.drop (i + 1)) acc) S') Q := h'
      cases eT : T.set ds[i] (wipeD g ws) with
      | none =>
        rw [hN _ eT] at h3
        exact h3.elim
      | some t2 =>
        refine Tgt.ok rw3 dx eT fun σ2 ow2 _ rs2 hw => ⟨by rw [hw _ hT, wipe_idem], ds[i], t2, eT, p', G2, S', ow2, rs2, ?_⟩
        refine okF.seq (h3.ext x12) fun b S3 bv p3 G3 H4 e3 db r3 x3 h4 => ?_
        cases db
        have gA2 : G2 A = none := x2.gn A gA' (by rw [hA']; simp)
        have hA3 : H3 A = some (.lst vacc) := x2.h A _ hA' pA'
        have gA3 : G3 A = none := x3.gn A gA2 (by rw [hA3]; simp)
        have hA4 : H4 A = some (.lst vacc) := x3.h A _ hA3 pA'
        have pA3 : A ∉ p3.flatten := by
          obtain ⟨q, e, f⟩ := x3.p
          rw [e, List.flatten_append, List.mem_append]
          rintro (z | z)
          · exact pA' z
          · rw [f A z] at hA3; cases hA3
        have d3 := da.mono x2.pp x2.g |>.mono x3.pp x3.g
        have h5 : okF K p1 G1 H1 (fun _ _ _ => False) ((mt ds[i] S').andThen _) Q := h3
        rw [e3] at h5
        cases b with
        | false => exact iteF ⟨p3, G3, S3, acc, vacc, r3, x12.trans x3, gA3, pA3, hA4, d3, h5⟩
        | true =>
          have h6 : okF K p1 G1 H1 (fun _ _ _ => False) ((me ds[i] >>= _) S3) Q := h5
          refine iteT ⟨ds[i], t2, eT, p3, G3, S3, ow2, rs2.ext x3 r3, ?_⟩
          refine okF.seq (h6.ext (x12.trans x3)) fun y S4 yv p4 G4 H5 e4 dy r4 x4 h7 => ?_
          have h8 : okF K p1 G1 H1 (fun _ _ _ => False) ((me ds[i] S3).andThen _) Q := h6
          rw [e4] at h8
          have h9 : okF K p1 G1 H1 (fun _ _ _ => False) ((if acc.length < sizeLine then lcX mt me (ds.drop (i + 1)) (acc ++ [y]) else stuck) S4) Q := h8
          by_cases hz : acc.length < sizeLine
          · rw [if_pos hz] at h9
            have hA5 : H5 A = some (.lst vacc) := x4.h A _ hA4 pA3
            have gA4 : G4 A = none := x4.gn A gA3 (by rw [hA4]; simp)
            have pA4 : A ∉ p4.flatten := by
              obtain ⟨q, e, f⟩ := x4.p
              rw [e, List.flatten_append, List.mem_append]
              rintro (z | z)
              · exact pA3 z
              · rw [f A z] at hA4; cases hA4
            have x14 := (x12.trans x3).trans x4
            refine ⟨vacc, hA5, by rw [d3.length]; exact hz, p4, G4, S4, acc ++ [y], vacc ++ [yv], r4.own _ pA4 gA4, ⟨x14.g, x14.gn, fun b o e hb => ?_, fun b e => ?_, x14.p⟩, gA4, pA4, upd_same, (d3.mono x4.pp x4.g).append (DenL.one dy), h9⟩
            · rw [upd_ne (ne_of_none e hA)]
              exact x14.h b o e hb
            · by_cases q : b = A
              · subst q; rw [upd_same]; simp
              · rw [upd_ne q]; exact x14.d b e
          · rw [if_neg hz] at h9
            exact h9.elim
    rcases dn.yld i _ H' x H2 ed sm y with ⟨rfl, dx⟩ | ⟨Tn, vs, es, rfl, hTn, rfl, ees, dl⟩
    · exact fin G' _ r' (Ext.refl _ _ _) (dx.mono x'.pp x'.g)
    · refine fin _ _ (r'.new _ hTn).1 (r'.new _ hTn).2 ?_
      rw [ees]
      exact ⟨Tn, vs, rfl, SqT.of upd_same, (dl.mono x'.pp x'.g).upd (r'.gfree hTn)⟩
  · have e : i = ds.length := by omega
    subst e
    rw [List.drop_length] at h'
    refine .inl ⟨dn.stop H' sm, ?_⟩
    exact h' A vacc p' G' H' hA hA' da gA' pA' r' x'

section
variable {X : Cx} {V : WX} {W : Wf} {g : DSt} {elt iter tg : Expr} {ifs : List Expr} {scope : Scope} {own : List (Str × Nat)} {T : Tgt} {mi : M (List D)} {mt : D → M Bool} {me : D → M D} {pos : Pos} {α : Type} {I : IC α} {rest : List Stmt}
theorem xts_yes {Y : Cx} {t : DSt} : PTs Y [] (tXT Y.K W0 t (pure true)) := ⟨fun pins s σ H Q I ⟨p, G, S, ow, r, h⟩ => pts_nil.run pins s σ H Q I (okR.fin (d := true) h rfl r.rel)⟩
theorem xts_one {Y : Cx} {t : DSt} {c : Expr} {m : M Bool} (h : XT Y W0 t c m) : PTs Y [c] (tXT Y.K W0 t m) := pts_one h
abbrev BlkT (X : Cx) (g : DSt) (scope : Scope) (ws : List Nat) (T : Tgt) (ifs : List Expr) (mt : D → M Bool) : Prop := ∀ (s : Shared) (H : Hp) (C : Addr) (cl : List (Str × Addr)) (fp : List Addr) (d : D) (t : DSt), T.set d (wipeD g ws) = some t → PTs (X.blk s H scope (compEnvC scope cl C X.env) fp) ifs (tXT X.K W0 t (mt d))
abbrev BlkE (X : Cx) (g : DSt) (scope : Scope) (ws : List Nat) (T : Tgt) (elt : Expr) (me : D → M D) : Prop := ∀ (s : Shared) (H : Hp) (C : Addr) (cl : List (Str × Addr)) (fp : List Addr) (d : D) (t : DSt), T.set d (wipeD g ws) = some t → PE (X.blk s H scope (compEnvC scope cl C X.env) fp) elt (tXE X.K W0 t (me d))
abbrev BlkG (X : Cx) (scope : Scope) (T : Tgt) (tg : Expr) : Prop := ∀ (s : Shared) (H : Hp) (C : Addr) (cl : List (Str × Addr)) (fp : List Addr), PG (X.blk s H scope (compEnvC scope cl C X.env) fp) tg (T.tg X.K)
theorem xf_lc (hc : X.calm = true) (hN : X.N.Nodup) (hi : XI X V g tg iter mi) (ok : BlkOk X.N X.env.scope scope own) (hg : BlkG X scope T tg) (hn : ∀ d, T.set d (wipeD g (own.map (·.2))) = none → mt d = stuck) (ht : BlkT X g scope (own.map (·.2)) T ifs mt) (he : BlkE X g scope (own.map (·.2)) T elt me)
    (hT : ∀ i ∈ T.slots, i ∈ own.map (·.2)) (hs : ∀ x, foldedSetIterable iter X.env x = pure x := by intro _; rfl) : XF X V g (.ListComp elt [⟨tg, iter, ifs, 0⟩] scope pos) (B mi fun ds => lc mt me ds) :=
  PE.imp (pe_lc hc hN hi ok hg (fun s H C cl fp => ⟨fun pins s' σ H' Q I ⟨d, t, e, q⟩ => (ht s H C cl fp d t e).run pins s' σ H' Q I q⟩) (fun s H C cl fp => ⟨fun pins s' σ H' Q I ⟨d, t, e, q⟩ => (he s H C cl fp d t e).run pins s' σ H' Q I q⟩) hs) fun σ H Q h => lcx_read hT hn h
end
end RM

/-! RX: loops, own lists, defs at given slots. -/
namespace RM
open PySem PySem.Spec PyProof.Rows L2
def loopS {τ : Type} (f : D → τ → M (D ⊕ τ)) : List D → τ → M (D ⊕ τ)
  | [], x => pure (.inr x)
  | d :: ds, x => B (f d x) fun r => match r with
    | .inl v => pure (.inl v)
    | .inr y => loopS f ds y
def loopN {τ : Type} (f : D → τ → M τ) : List D → τ → M τ
  | [], x => pure x
  | d :: ds, x => B (f d x) fun y => loopN f ds y
theorem loopN_S {τ : Type} (f : D → τ → M τ) : ∀ (ds : List D) (x : τ), loopS (fun d x => f d x >>= fun y => pure (.inr y)) ds x = loopN f ds x >>= fun y => pure (.inr y)
  | [], x => rfl
  | d :: ds, x => by
    show ((f d x >>= fun y => pure (Sum.inr y)) >>= _) = (f d x >>= fun y => loopN f ds y) >>= _
    rw [bind_assoc, bind_assoc]
    congr 1
    funext y
    rw [pure_bind]
    exact loopN_S f ds y
def whileN {τ : Type} (c : τ → M Bool) (f : τ → M τ) : Nat → τ → M τ
  | 0, _ => stuck
  | n + 1, x => B (c x) fun b => if b then B (f x) fun y => whileN c f n y else pure x
section
variable {α τ : Type} {X : Cx} {W : Wf} {g : DSt} {I : IC α} {tg it c e : Expr} {T : Tgt} {mi : M (List D)} {body rest : List Stmt} {pos : Pos} {me : M D} {ml : M (List D)} {m : M α}
theorem xs_forS {f : D → τ → M (D ⊕ τ)} (e : τ → DSt) (x0 : τ) (hp : PassesOwn (model X.prog X.w) X.A X.env X.xe) (hc : X.calm = true) (hi : XI X W.x g tg it mi) (hg : PG X tg (T.tg X.K)) (hw : Wk g (e x0)) (hN : ∀ x d, T.set d (e x) = none → f d x = stuck)
    (hb : ∀ x d t, T.set d (e x) = some t → XS X W t (IS e) body (f d x)) (hs : ∀ x, foldedSetIterable it X.env x = pure x := by intro _; rfl) : XS1 X W g (IS e) (.For tg it body [] pos) (B mi fun ds => loopS f ds x0) := by
  refine PS.imp (ps_for hp hc hi (dg_tgt (W := W) hg) (fam (ι := {q : τ × D × DSt // T.set q.2.1 (e q.1) = some q.2.2}) fun q => hb q.1.1 q.1.2.1 q.1.2.2 q.2) hs) fun E σ H ⟨n, p, G, S, ow, r, h⟩ => ?_
  refine ⟨p, G, S, ow, r.rs, okG.seq h r fun ds S1 J p1 G1 H1 e1 dn r1 x1 h1 => ?_⟩
  obtain ⟨ow1, r1w⟩ := r1.wk hw
  refine ⟨fun i m σ' H' => i + m = ds.length ∧ ∃ x p' G' S' ow', RelF X.K ⟨n.p, n.G, n.H, p1, G1⟩ p' G' S' H' (e x) σ' ow' ∧ okG X.K W n (IS e) (loopS f (ds.drop i) x S') E, ⟨ds.length, by simp, x0, p1, G1, S1, ow1, r1w.frozen, by simpa using h1⟩, ?_⟩
  rintro i m σ' H' ⟨hi', x, p', G', S', ow', r', h'⟩
  have sm : Same G1 H' := r'.fg.trans r'.rs.rel.sub
  by_cases hlt : i < ds.length
  · refine .inr ⟨dn.go i H' sm hlt, fun σ2 H2 => ∃ x p2 G2 S2 ow2, RelF X.K ⟨n.p, n.G, n.H, p1, G1⟩ p2 G2 S2 H2 (e x) σ2 ow2 ∧ okG X.K W n (IS e) (loopS f (ds.drop (i + 1)) x S2) E, fun σ2 H2 q => ⟨m - 1, by omega, by omega, q⟩, fun xv H2 y => ?_⟩
    have ed : ds[i]? = some ds[i] := by simp [hlt]
    rw [List.drop_eq_getElem_cons hlt] at h'
    have fin : ∀ G2 H3, RelF X.K ⟨n.p, n.G, n.H, p1, G1⟩ p' G2 S' H3 (e x) σ' ow' → Den X.K p' G2 ds[i] xv → gD X.K W T.set xv σ' H3 fun σ2 H2 => ∃ q : {q : τ × D × DSt // T.set q.2.1 (e q.1) = some q.2.2}, tXS X.K W q.1.2.2 (IS e) (f q.1.2.1 q.1.1) { E with nx := fun σ2 H2 => ∃ x p2 G2 S2 ow2, RelF X.K ⟨n.p, n.G, n.H, p1, G1⟩ p2 G2 S2 H2 (e x) σ2 ow2 ∧ okG X.K W n (IS e) (loopS f (ds.drop (i + 1)) x S2) E, ct := fun σ2 H2 => ∃ x p2 G2 S2 ow2, RelF X.K ⟨n.p, n.G, n.H, p1, G1⟩ p2 G2 S2 H2 (e x) σ2 ow2 ∧ okG X.K W n (IS e) (loopS f (ds.drop (i + 1)) x S2) E, bk := E.nx } σ2 H2 := by
      intro G2 H3 r2 dx
      have h3 : okG X.K W n (IS e) ((f ds[i] x S').andThen _) E := h'
      cases eg : T.set ds[i] (e x) with
      | none =>
        rw [hN x _ eg] at h3
        exact h3.elim
      | some t2 =>
        refine ⟨_, _, e x, p', G2, S', ow', r2, dx, t2, eg, fun p3 G3 H4 σ3 ow3 r3 => ⟨⟨(x, ds[i], t2), eg⟩, _, p3, G3, S', ow3, r3, ?_⟩⟩
        show okG X.K W _ (IS e) (f ds[i] x S') _
        cases em : f ds[i] x S' with
        | stuck =>
          rw [em] at h3
          exact h3
        | exc z S3 =>
          rw [em] at h3
          exact h3
        | ok rr S3 =>
          rw [em] at h3
          cases rr with
          | inl v =>
            intro c hc'
            cases hc'
            exact h3 (.rt v) rfl
          | inr y =>
            rintro c ⟨t3, rfl, w3⟩
            intro p4 G4 H5 σ4 ow4 r4
            obtain ⟨ow5, r5⟩ := r4.wk w3
            exact ⟨y, p4, G4, S3, ow5, r5, h3⟩
    rcases dn.yld i _ H' xv H2 ed sm y with ⟨rfl, dx⟩ | ⟨T2, vs, es, rfl, hT, rfl, ees, dl⟩
    · exact fin G' _ r' (dx.mono r'.fp r'.fg)
    · refine fin _ _ (r'.pair vs hT) ?_
      rw [ees]
      have hg := r'.rs.rel.gfree hT
      exact ⟨T2, vs, rfl, SqT.of upd_same, (dl.mono r'.fp r'.fg).upd hg⟩
  · have e2 : i = ds.length := by omega
    subst e2
    refine .inl ⟨dn.stop H' sm, ?_⟩
    rw [List.drop_length] at h'
    exact h' (.nx (e x)) ⟨e x, rfl, Wk.refl _⟩ p' G' H' σ' ow' (r1.thaw r')
theorem XS.inr {e : τ → DSt} {mx : M τ} (h : XS X W g (IN e) rest mx) : XS X W g (IS e) rest (mx >>= fun y => pure (.inr y)) := PSs.imp h fun E σ H ⟨n, p, G, S, ow, r, q⟩ => by
  refine ⟨n, p, G, S, ow, r, ?_⟩
  have q : okG X.K W n (IS e) ((mx S).andThen fun y => pure (.inr y)) E := q
  cases em : mx S with
  | ok a S1 => rw [em] at q; exact fun c hc => q c hc
  | exc _ _ => rw [em] at q; exact q
  | stuck => rw [em] at q; exact q
theorem XS1.unr {e : τ → DSt} {st : Stmt} {mx : M τ} (h : XS1 X W g (IS e) st (mx >>= fun y => pure (.inr y))) : XS1 X W g (IN e) st mx := PS.imp h fun E σ H ⟨n, p, G, S, ow, r, q⟩ => by
  refine ⟨n, p, G, S, ow, r, ?_⟩
  show okG X.K W n (IS e) ((mx S).andThen fun y => pure (.inr y)) E
  cases em : mx S with
  | ok a S1 => rw [em] at q; exact fun c hc => q c hc
  | exc _ _ => rw [em] at q; exact q
  | stuck => rw [em] at q; exact q
theorem xs_forN {f : D → τ → M τ} (e : τ → DSt) (x0 : τ) (hp : PassesOwn (model X.prog X.w) X.A X.env X.xe) (hc : X.calm = true) (hi : XI X W.x g tg it mi) (hg : PG X tg (T.tg X.K)) (hw : Wk g (e x0)) (hN : ∀ x d, T.set d (e x) = none → f d x = stuck)
    (hb : ∀ x d t, T.set d (e x) = some t → XS X W t (IN e) body (f d x)) (hs : ∀ x, foldedSetIterable it X.env x = pure x := by intro _; rfl) : XS1 X W g (IN e) (.For tg it body [] pos) (B mi fun ds => loopN f ds x0) := by
  have h := xs_forS (pos := pos) (f := fun d x => f d x >>= fun y => pure (.inr y)) e x0 hp hc hi hg hw (fun x d q => by rw [hN x d q]; rfl) (fun x d t q => (hb x d t q).inr) hs
  refine XS1.unr (mx := B mi fun ds => loopN f ds x0) ?_
  have eq : (B mi fun ds => loopS (fun d x => f d x >>= fun y => pure (Sum.inr y)) ds x0 : M (D ⊕ τ)) = (B mi fun ds => loopN f ds x0) >>= fun y => pure (.inr y) := by
    unfold B
    rw [bind_assoc]
    congr 1
    funext ds
    exact loopN_S f ds x0
  rw [← eq]
  exact h
theorem xs_whileN {mc : τ → M Bool} {f : τ → M τ} (fuel : Nat) (e : τ → DSt) (x0 : τ) (hp : PassesOwn (model X.prog X.w) X.A X.env X.xe) (hw : Wk g (e x0)) (hc : ∀ x, XT X W.x (e x) c (mc x)) (hb : ∀ x, XS X W (e x) (IN e) body (f x)) : XS1 X W g (IN e) (.While c body [] pos) (whileN mc f fuel x0) := by
  refine PS.imp (ps_while hp (tc := fun σ H Q => ∃ x, tXT X.K W.x (e x) (mc x) σ H Q) ⟨fun pins s σ H Q I ⟨x, q⟩ => (hc x).run pins s σ H Q I q⟩ (fam hb)) fun E σ H ⟨n, p, G, S, ow, r, h⟩ => ?_
  obtain ⟨ow0, r0⟩ := r.wk hw
  refine ⟨fun k σ' H' => ∃ x p' G' S' ow', RelF X.K n p' G' S' H' (e x) σ' ow' ∧ okG X.K W n (IN e) (whileN mc f k x S') E, ⟨fuel, x0, p, G, S, ow0, r0, h⟩, ?_⟩
  rintro k σ1 H1 ⟨x, p1, G1, S1, ow1, r1, h1⟩
  cases k with
  | zero => exact h1.elim
  | succ k =>
    have h2 : okG X.K W n (IN e) (B (mc x) (fun b => if b then B (f x) fun y => whileN mc f k y else pure x) Dep.mk S1) E := h1
    refine ⟨x, p1, G1, S1, ow1, r1.rs, okG.seq h2 r1 fun b S2 bv p2 G2 H2 eb db r2 x2 h3 => ?_⟩
    cases db
    cases b with
    | false => exact iteF (h3 (.nx (e x)) ⟨e x, rfl, Wk.refl _⟩ p2 G2 H2 σ1 ow1 r2)
    | true =>
      refine iteT ⟨fun σ3 H3 => ∃ x p3 G3 S3 ow3, RelF X.K n p3 G3 S3 H3 (e x) σ3 ow3 ∧ okG X.K W n (IN e) (whileN mc f k x S3) E, fun σ3 H3 q => ⟨k, Nat.lt_succ_self k, q⟩, x, n, p2, G2, S2, ow1, r2, ?_⟩
      have h4 : okG X.K W n (IN e) ((f x S2).andThen fun y => whileN mc f k y) E := h3
      show okG X.K W n (IN e) (f x S2) _
      cases em : f x S2 with
      | stuck => rw [em] at h4; exact h4
      | exc z S3 => rw [em] at h4; exact h4
      | ok y S3 =>
        rw [em] at h4
        rintro c ⟨t3, rfl, w3⟩ p4 G4 H5 σ4 ow4 r4
        obtain ⟨ow5, r5⟩ := r4.wk w3
        exact ⟨y, p4, G4, S3, ow5, r5, h4⟩
/-! ### own lists -/
def appO (xs : List D) (y : D) : M (List D) := if xs.length < sizeLine then pure (xs ++ [y]) else stuck
def popX (xs : List D) (k : D) : M (D × List D) := liftO (popO xs k)
def putX (xs : List D) (y k : D) : M (List D) := liftO (putO xs y k)
theorem setO_at {i : Nat} {xs : List D} (hl : decide (i < g.length) = true) : setO g i xs = some (g.set i (some (.own xs))) := if_pos (of_decide_eq_true hl)
theorem xs_setO (i : Nat) {x : Str} {pos' : Pos} {k : List D → M α} (hN : X.N.Nodup) (hi : X.N[i]? = some x) (hx : Loc X.env.scope x) (he : XF X W.x g e ml) (hk : ∀ v, XS X W (g.set i (some (.own v))) I rest (k v)) (hl : decide (i < g.length) = true := by rfl) (hs : swapsWith e (some (.Name x pos')) pos.line X.env = pure false := by rfl) (hf : X.fn x = true ∨ X.env.scope.names.lookup x = some .local := by first | exact .inl rfl | exact .inr rfl | assumption) :
    XS X W g I (.Assign [.Name x pos'] e pos :: rest) (B ml k) := by
  refine xs_next (e := fun v => g.set i (some (.own v))) (ds_setO i hN hi hx he.df hs hf) ?_ hk
  rw [AtG_self]
  congr 1
  funext d
  rw [setO_at hl]; rfl
theorem xs_freeze (i : Nat) {xs : List D} (hg : g[i]? = some (some (.own xs)) := by rfl) (hk : XS X W (g.set i (some (.val (.lst xs)))) I rest m) : XS X W g I rest m := PSs.imp hk fun E σ H ⟨n, p, G, S, ow, r, h⟩ => by
  obtain ⟨G', ow', r'⟩ := r.ice hg
  exact ⟨n, p, G', S, ow', r', h⟩
theorem getO_at {i : Nat} {xs : List D} (hg : g[i]? = some (some (.own xs))) : getO g i = pure xs := by unfold getO; rw [hg]
theorem xs_append (i : Nat) {x : Str} {px apos cpos : Pos} {xs : List D} {k : List D → M α} (hg : g[i]? = some (some (.own xs)) := by rfl) (hN : X.N[i]? = some x := by rfl) (he : XE X W.x g e me) (hk : ∀ v, XS X W (g.set i (some (.own v))) I rest (k v)) (hv : Vis X.env.scope x := by first | exact Or.inl rfl | exact Or.inr (Or.inl rfl) | exact Or.inr (Or.inr rfl)) (hd : (x == ("__debug__" : Str)) = false := by decide)
    (hcd : (x == ("__classdict__" : Str)) = false := by decide) (hst : starEach [e] X.env = [(false, eval e X.env)] := by rfl) (hfew : ((backTo cpos (starEach [e] X.env)).all (fun x => !x.1) && (backToKw cpos (keywordEach [] X.env)).all (fun x => x.1.isSome)
      && decide ([e].length + ([] : List Keyword).length + (if ([] : List Keyword).isEmpty then 0 else 1) < 30)) = true := by rfl) (hline : (apos.endLine == cpos.line) = true := by rfl) (hs : swapsWith (.Call (.Attribute (.Name x px) "append" apos) [e] [] cpos) none pos.line X.env = pure false := by rfl) :
    XS X W g I (.Expr (.Call (.Attribute (.Name x px) "append" apos) [e] [] cpos) pos :: rest) (B (B me fun y => appO xs y) k) := by
  refine xs_next (e := fun v => g.set i (some (.own v))) (ds_append i hN he.de hv hd hcd hst hfew hline hs) ?_ hk
  rw [AtG_self, getO_at hg]
  unfold B
  rw [pure_bind, bind_assoc]
  congr 1
  funext y
  unfold appO
  split <;> rfl
theorem xs_pop (i : Nat) {x : Str} {px apos cpos : Pos} {xs : List D} {k : List D → M α} (hg : g[i]? = some (some (.own xs)) := by rfl) (hN : X.N[i]? = some x := by rfl) (he : XE X W.x g e me) (hk : ∀ v, XS X W (g.set i (some (.own v))) I rest (k v)) (hv : Vis X.env.scope x := by first | exact Or.inl rfl | exact Or.inr (Or.inl rfl) | exact Or.inr (Or.inr rfl)) (hd : (x == ("__debug__" : Str)) = false := by decide)
    (hcd : (x == ("__classdict__" : Str)) = false := by decide) (hst : starEach [e] X.env = [(false, eval e X.env)] := by rfl) (hfew : ((backTo cpos (starEach [e] X.env)).all (fun x => !x.1) && (backToKw cpos (keywordEach [] X.env)).all (fun x => x.1.isSome)
      && decide ([e].length + ([] : List Keyword).length + (if ([] : List Keyword).isEmpty then 0 else 1) < 30)) = true := by rfl) (hline : (apos.endLine == cpos.line) = true := by rfl) (hs : swapsWith (.Call (.Attribute (.Name x px) "pop" apos) [e] [] cpos) none pos.line X.env = pure false := by rfl) :
    XS X W g I (.Expr (.Call (.Attribute (.Name x px) "pop" apos) [e] [] cpos) pos :: rest) (B (B me fun y => B (popX xs y) fun r => pure r.2) k) := by
  refine xs_next (e := fun v => g.set i (some (.own v))) (ds_popAt i hN he.de hv hd hcd hst hfew hline hs) ?_ hk
  rw [AtG_self, getO_at hg]
  unfold B popX
  rw [pure_bind, bind_assoc]
  congr 1
  funext y
  rw [bind_assoc]
  congr 1
theorem xe_idxO (i : Nat) {x : Str} {b : Expr} {mb : M D} {V : WX} {px : Pos} {xs : List D} (hg : g[i]? = some (some (.own xs)) := by rfl) (hb : XE X V g b mb) (hs : PlainIx b) (hN : X.N[i]? = some x := by rfl) (hv : Vis X.env.scope x := by first | exact Or.inl rfl | exact Or.inr (Or.inl rfl) | exact Or.inr (Or.inr rfl)) (hd : (x == ("__debug__" : Str)) = false := by decide) (hcd : (x == ("__classdict__" : Str)) = false := by decide) :
    XE X V g (.Subscript (.Name x px) b pos) (B mb fun y => idxD (.lst xs) y) := by
  refine XE.by (de_idxO i hb.de hs hN hv hd hcd) ?_
  rw [AtG_self, getO_at hg]
  rfl
theorem xe_lenO (i : Nat) {x : Str} {V : WX} {px p : Pos} {xs : List D} (hgl : Gl X "len") (hm : X.mg "len" = none) (hg : g[i]? = some (some (.own xs)) := by rfl) (hN : X.N[i]? = some x := by rfl) (hv : Vis X.env.scope x := by first | exact Or.inl rfl | exact Or.inr (Or.inl rfl) | exact Or.inr (Or.inr rfl)) (hd : (x == ("__debug__" : Str)) = false := by decide) (hcd : (x == ("__classdict__" : Str)) = false := by decide) :
    XE X V g (.Call (.Name "len" p) [.Name x px] [] pos) (pure (.int xs.length)) := by
  refine XE.by (de_lenO i hgl hm hN hv hd hcd) ?_
  rw [getO_at hg]
  rfl
/-- a list lent -/
def lendX (m : M D) : M D := B (noE m) fun d => if noLst d then pure d else stuck
theorem lendX_eq (m : M D) (S : Sto) : lendX m S = checked noLst (m S) := by
  show ((noE m) S).andThen _ = _
  unfold noE
  cases m S with
  | ok d S1 =>
    show (if noLst d then pure d else stuck : M D) S1 = if noLst d = true then _ else _
    split <;> rfl
  | exc e S1 => rfl
  | stuck => rfl
theorem noE_eq (m : M Bool) (S : Sto) : noE m S = checked (fun _ => true) (m S) := by
  unfold noE
  cases m S with
  | ok d S1 => rfl
  | exc e S1 => rfl
  | stuck => rfl
theorem xe_lent (i : Nat) {V : WX} {xs : List D} (hg : g[i]? = some (some (.own xs)) := by rfl) (h : XE X V (g.set i (some (.val (.lst xs)))) e me) : XE X V g e (lendX me) := PE.imp h fun σ H Q ⟨p, G, S, ow, r, q⟩ => by
  obtain ⟨l, ws, ow', gl, pl, r'⟩ := r.lend hg
  rw [lendX_eq] at q
  exact ⟨p, _, S, ow', r', lent_back (ok := noLst) (fun p G d v n g dn => dn.era g n) gl q⟩
theorem xt_lent (i : Nat) {V : WX} {xs : List D} {mt : M Bool} (hg : g[i]? = some (some (.own xs)) := by rfl) (h : XT X V (g.set i (some (.val (.lst xs)))) e mt) : XT X V g e (noE mt) := PT.imp h fun σ H Q ⟨p, G, S, ow, r, q⟩ => by
  obtain ⟨l, ws, ow', gl, pl, r'⟩ := r.lend hg
  rw [noE_eq] at q
  exact ⟨p, _, S, ow', r', lent_back (ok := fun _ => true) (fun p G d v n g dn => dn) gl q⟩
end
/-! ### defs -/
def l0 (f : M D) : List D → M D
  | [] => f
  | _ => stuck
def l1 (f : D → M D) : List D → M D
  | [a] => f a
  | _ => stuck
def l2 (f : D → D → M D) : List D → M D
  | [a, b] => f a b
  | _ => stuck
def l3 (f : D → D → D → M D) : List D → M D
  | [a, b, c] => f a b c
  | _ => stuck
def l4 (f : D → D → D → D → M D) : List D → M D
  | [a, b, c, d] => f a b c d
  | _ => stuck
def l5 (f : D → D → D → D → D → M D) : List D → M D
  | [a, b, c, d, e] => f a b c d e
  | _ => stuck
def l6 (f : D → D → D → D → D → D → M D) : List D → M D
  | [a, b, c, d, e, x] => f a b c d e x
  | _ => stuck
@[simp] theorem l0_at (f : M D) : l0 f [] = f := Eq.trans rfl rfl
@[simp] theorem l1_at (f : D → M D) (a : D) : l1 f [a] = f a := Eq.trans rfl rfl
@[simp] theorem l2_at (f : D → D → M D) (a b : D) : l2 f [a, b] = f a b := Eq.trans rfl rfl
@[simp] theorem l3_at (f : D → D → D → M D) (a b c : D) : l3 f [a, b, c] = f a b c := Eq.trans rfl rfl
@[simp] theorem l4_at (f : D → D → D → D → M D) (a b c d : D) : l4 f [a, b, c, d] = f a b c d := Eq.trans rfl rfl
@[simp] theorem l5_at (f : D → D → D → D → D → M D) (a b c d e : D) : l5 f [a, b, c, d, e] = f a b c d e := Eq.trans rfl rfl
@[simp] theorem l6_at (f : D → D → D → D → D → D → M D) (a b c d e x : D) : l6 f [a, b, c, d, e, x] = f a b c d e x := Eq.trans rfl rfl
section
variable {P : Program} {w : World} {K : PySem.W.Frag} {mg : Str → Option Value} {base : Heap} {x qual : Str} {params : Arguments} {body : List Stmt} {scope : Scope} {dvs : List V} {kws : List (Str × V)} {f : Addr} {fd : FuncData}
theorem fnX_of {N ps : List Str} {k : Nat} {gf : List D → M D} (F : FunD K x qual params body scope dvs kws f fd) (S : FnScope N ps scope)
    (hb : ∀ (cdv : Value) (A : Around) (fr : List Env) (s : Shared) (H : Hp) (E : L2.XK), BodyX (cxOf (L2.CX P w) P w K mg base N qual scope f cdv A fr s H E) k E → ∀ ds : List D, ds.length = ps.length → XS (cxOf (L2.CX P w) P w K mg base N qual scope f cdv A fr s H E) E (startD N.length ds) IB body (gf ds)) : FnD P w K mg base (k + 1) f fd ps gf := by
  refine fnG_of F S (fun vs H Q E h => spD.len vs H Q _ h) fun cdv A fr s H vs Q E hG hr h => ?_
  obtain ⟨ds, p, G, St, e, dn, r, h⟩ := h
  refine ⟨_, hb cdv A fr s H E ⟨hr, hG, takes_of rfl rfl rfl rfl, passes_of rfl, rfl⟩ ds e, ?_⟩
  refine ⟨⟨p, G, H, p, G⟩, p, G, St, [], ⟨⟨r, ?_, by simpa using r.nd, by simp⟩, Ext.refl _ _ _, by simp, ⟨[], by simp⟩, Same.refl _⟩, ?_⟩
  · unfold L2.start startD
    rw [← dn.length]
    exact slots_start dn
  · cases em : gf ds St with
    | stuck => rw [em] at h; exact h
    | exc z S' => rw [em] at h; exact h
    | ok d S' =>
      rw [em] at h
      rintro c (rfl | ⟨rfl, t, rfl⟩)
      · exact h
      · exact fun p' G' H' σ' ow' r' => h .non p' G' H' rfl r'.rs.rel r'.ext
end
theorem argsD_at {n : Nat} {gf : List D → M D} {xs : List D} (h : xs.length = n) : argsD n gf xs = gf xs := if_pos h
theorem argsB_congr {β : Type} : ∀ (ms : List (M D)) {F F' : List D → M β}, (∀ xs, xs.length = ms.length → F xs = F' xs) → argsB ms F = argsB ms F'
  | [], _, _, h => h [] rfl
  | m :: ms, F, F', h => by
    have : (fun x => argsB ms fun xs => F (x :: xs)) = fun x => argsB ms fun xs => F' (x :: xs) := by
      funext x
      exact argsB_congr ms fun xs e => h (x :: xs) (by rw [List.length_cons, List.length_cons, e])
    show B m _ _ = B m _ _
    unfold B
    rw [this]
section
variable {X : Cx} {W : WX} {g : DSt} {a b c e : Expr} {es : List Expr} {kw : List Keyword} {ma mb mc : M D} {ms : List (M D)} {pos p : Pos} {k : Nat} {f : Addr} {fd : FuncData} {ps ks : List Str} {gf : List D → M D} {x : Str} {dvs : List V} {ds : List Value} {dds : List D}
theorem xe_call (F : FnD X.prog X.w X.K X.mg X.base k f fd ps gf) (hr : Room k X.A) (hG : X.A.guards = some []) (tk : Takes X W) (hg : Gl X x) (hm : X.mg x = some (.ref f)) (hk : PySem.W.keepIn X.K (.ref f) = true) (hb : Binds X.K fd ps ds) (hd : Vals dvs ds) (hdd : ∀ q G, DenL X.K q G dds dvs)
    (ha : XA X W g (a :: es) ms) (hl : ms.length + dds.length = ps.length := by rfl) (hdb : (x == ("__debug__" : Str)) = false := by decide) (he : starEach (a :: es) X.env = (false, eval a X.env) :: starEach es X.env := by rfl) (hpl : (backTo pos (starEach es X.env)).any (·.1) = false := by rfl) :
    XE X W g (.Call (.Name x p) (a :: es) [] pos) (argsB ms fun xs => gf (xs ++ dds)) := by
  have h : XE X W g (.Call (.Name x p) (a :: es) [] pos) _ := XE.byA (fun h => de_call F hr hG tk hg hm hk hb hd hdd h hdb he hpl) ha
  rw [argsB_congr ms (F' := fun xs => gf (xs ++ dds)) fun xs e => argsD_at (by rw [List.length_append, e, hl])] at h
  exact h
theorem xe_call0 (F : FnD X.prog X.w X.K X.mg X.base k f fd ps gf) (hr : Room k X.A) (hG : X.A.guards = some []) (tk : Takes X W) (hg : Gl X x) (hm : X.mg x = some (.ref f)) (hk : PySem.W.keepIn X.K (.ref f) = true) (hb : Binds X.K fd ps ds) (hd : Vals dvs ds) (hdd : ∀ q G, DenL X.K q G dds dvs) (hl : dds.length = ps.length := by rfl)
    (hdb : (x == ("__debug__" : Str)) = false := by decide) : XE X W g (.Call (.Name x p) [] [] pos) (gf dds) := XE.by (de_call0 F hr hG tk hg hm hk hb hd hdd hdb) (argsD_at hl)
variable {ar : {α : Type} → List α → List α → List α → List α}
theorem xe_callK0 (F : FnD X.prog X.w X.K X.mg X.base k f fd ps gf) (hr : Room k X.A) (hG : X.A.guards = some []) (tk : Takes X W) (hg : Gl X x) (hm : X.mg x = some (.ref f)) (hk : PySem.W.keepIn X.K (.ref f) = true) (hb : KwTo X.K fd ps ks 0 ar dvs ds) (hdd : ∀ q G, DenL X.K q G dds dvs)
    (hkw : XKw X W g kw ms) (hall : (backToKw pos (keywordEach kw X.env)).all (·.1.isSome) = true := by rfl) (hks : (backToKw pos (keywordEach kw X.env)).filterMap (·.1) = ks := by rfl)
    (hdb : (x == ("__debug__" : Str)) = false := by decide) (hpl : ((backTo pos (starEach [] X.env)).any (·.1) || (backToKw pos (keywordEach kw X.env)).any (·.1.isNone)) = false := by rfl) :
    XE X W g (.Call (.Name x p) [] kw pos) (argsB ms fun ys => argsK 0 ks.length ps.length ar dds gf [] ys) := XE.by (de_callK0 F hr hG tk hg hm hk hb hdd hkw.dk hall hks hdb hpl) (by rw [AtG_self, argsB_eq])
/-! ### built-ins -/
theorem xe_len (hg : Gl X "len") (hm : X.mg "len" = none) (ha : XA X W g [a] ms) (he : starEach [a] X.env = [(false, eval a X.env)] := by rfl) : XE X W g (.Call (.Name "len" p) [a] [] pos) (argsB ms lenD) := XE.byA (fun h => de_len hg hm h he) ha
theorem xe_abs (hg : Gl X "abs") (hm : X.mg "abs" = none) (ha : XA X W g [a] ms) (he : starEach [a] X.env = [(false, eval a X.env)] := by rfl) : XE X W g (.Call (.Name "abs" p) [a] [] pos) (argsB ms absD) := XE.byA (fun h => de_abs hg hm h he) ha
theorem xe_int_ (hg : Gl X "int") (hm : X.mg "int" = none) (ha : XA X W g [a] ms) (he : starEach [a] X.env = [(false, eval a X.env)] := by rfl) : XE X W g (.Call (.Name "int" p) [a] [] pos) (argsB ms intD) := XE.byA (fun h => de_int_ hg hm h he) ha
theorem xe_all (hc : X.calm = true) (hg : Gl X "all") (hm : X.mg "all" = none) (ha : XA X W g [a] ms) (he : starEach [a] X.env = [(false, eval a X.env)] := by rfl) : XE X W g (.Call (.Name "all" p) [a] [] pos) (argsB ms allD) := XE.byA (fun h => de_all hc hg hm h he) ha
theorem xe_any (hc : X.calm = true) (hg : Gl X "any") (hm : X.mg "any" = none) (ha : XA X W g [a] ms) (he : starEach [a] X.env = [(false, eval a X.env)] := by rfl) : XE X W g (.Call (.Name "any" p) [a] [] pos) (argsB ms anyD) := XE.byA (fun h => de_any hc hg hm h he) ha
theorem xe_min (hc : X.calm = true) (hg : Gl X "min") (hm : X.mg "min" = none) (ha : XA X W g (a :: es) ms) (he : starEach (a :: es) X.env = (false, eval a X.env) :: starEach es X.env := by rfl) (hpl : (backTo pos (starEach es X.env)).any (·.1) = false := by rfl) : XE X W g (.Call (.Name "min" p) (a :: es) [] pos) (argsB ms minD) := XE.byA (fun h => de_min hc hg hm h he hpl) ha
theorem xe_max (hc : X.calm = true) (hg : Gl X "max") (hm : X.mg "max" = none) (ha : XA X W g (a :: es) ms) (he : starEach (a :: es) X.env = (false, eval a X.env) :: starEach es X.env := by rfl) (hpl : (backTo pos (starEach es X.env)).any (·.1) = false := by rfl) : XE X W g (.Call (.Name "max" p) (a :: es) [] pos) (argsB ms maxD) := XE.byA (fun h => de_max hc hg hm h he hpl) ha
theorem xe_tuple_ (hg : Gl X "tuple") (hm : X.mg "tuple" = none) (ha : XA X W g [a] ms) (he : starEach [a] X.env = [(false, eval a X.env)] := by rfl) : XE X W g (.Call (.Name "tuple" p) [a] [] pos) (argsB ms tupleD) := XE.byA (fun h => de_tuple_ hg hm h he) ha
theorem xe_list_ (hg : Gl X "list") (hm : X.mg "list" = none) (ha : XA X W g [a] ms) (he : starEach [a] X.env = [(false, eval a X.env)] := by rfl) : XE X W g (.Call (.Name "list" p) [a] [] pos) (argsB ms listD) := XE.byA (fun h => de_list_ hg hm h he) ha
theorem xe_repr (hG : X.A.guards = some []) (hu : X.A.units + 66 < cLine) (hg : Gl X "repr") (hm : X.mg "repr" = none) (ha : XA X W g [a] ms) (he : starEach [a] X.env = [(false, eval a X.env)] := by rfl) : XE X W g (.Call (.Name "repr" p) [a] [] pos) (argsB ms reprD) := XE.byA (fun h => de_repr hG hu hg hm h he) ha
theorem xf_list (hg : Gl X "list") (hm : X.mg "list" = none) (ha : XE X W g a ma) (he : starEach [a] X.env = [(false, eval a X.env)] := by rfl) : XF X W g (.Call (.Name "list" p) [a] [] pos) (B ma listF) := XF.by (df_list hg hm ha.de he) (by rw [AtG_self]; rfl)
theorem xf_add (ha : XE X W g a ma) (hb : XE X W g b mb) : XF X W g (.BinOp a .Add b pos) (B ma fun x => B mb fun y => catF x y) := XF.by (df_add ha.de hb.de) (by rw [AtG_self, AtG_self]; rfl)
theorem xe_idx (ha : XE X W g a ma) (hb : XE X W g b mb) (hs : PlainIx b) : XE X W g (.Subscript a b pos) (B ma fun x => B mb fun y => idxD x y) := XE.by2 (fun h h' => de_idx h h' hs) ha hb
theorem xe_fld {tab : List (Str × Str)} (T : FldT X.K tab) (f : Str) (ha : XE X W g a ma) (hb : attributeBase a f X.env (eval a X.env) = eval a X.env := by rfl) : XE X W g (.Attribute a f pos) (B ma (fldD tab f)) := XE.by1 (fun h => de_fld T f h hb) ha
end
end RM

/-! RX: slices, isinstance, chains, dicts, unpacking, parallel assignments. -/
namespace RM
open PySem PySem.Spec PyProof.Rows L2
section
variable {X : Cx} {W : WX} {g : DSt} {a b c e : Expr} {es : List Expr} {ma mb mc : M D} {ms : List (M D)} {pos p p2 pt : Pos}
def tXO (K : PySem.W.Frag) (W : WX) (g : DSt) (m : M (Option Int)) : TO := fun σ H Q => ∃ p G S ow, RelS K p G S H g σ ow ∧ okR rO K p G H (fun c d H' => W c d σ H') (m S) Q
abbrev XO (X : Cx) (W : WX) (g : DSt) (e : Option Expr) (m : M (Option Int)) : Prop := PO X e (tXO X.K W g m)
variable {lo hi : Option Expr} {ml mh : M (Option Int)}
theorem XO.do_ {o : Option Expr} {m : M (Option Int)} (h : XO X W g o m) : DO X W o (AtG g m) := PO.imp h fun σ H Q ⟨t, p, G, S, ow, r, q⟩ => by
  by_cases e : t = g
  · subst e; rw [AtG_self] at q; exact ⟨p, G, S, ow, r, q⟩
  · rw [AtG_ne m e] at q; exact q.elim
theorem xo_none : XO X W g none (pure none) := PO.imp do_none fun σ H Q ⟨p, G, S, ow, r, k⟩ => ⟨g, p, G, S, ow, r, k⟩
theorem xo_some (ha : XE X W g a ma) : XO X W g (some a) (B ma partD) := PO.imp (do_some ha.de) fun σ H Q ⟨p, G, S, ow, r, k⟩ => ⟨g, p, G, S, ow, r, by show okR rO X.K p G H _ ((AtG g ma g >>= partD) S) Q; rw [AtG_self]; exact k⟩
theorem xe_slice (ha : XE X W g a ma) (hl : XO X W g lo ml) (hh : XO X W g hi mh) : XE X W g (.Subscript a (.Slice lo hi none p2) pos) (B ma fun x => B ml fun l => B mh fun h => sliceD x l h) := XE.by (de_slice ha.de hl.do_ hh.do_) (by rw [AtG_self, AtG_self, AtG_self]; rfl)
theorem xe_isi {cs : List Str} (T : ClsT X.K cs) (t : Ty) (hg : Gl X "isinstance") (hm : X.mg "isinstance" = none) (ha : XE X W g a ma) (hb : PE X b (tC (tyV' X.K t))) (hs : starEach [a, b] X.env = (false, eval a X.env) :: starEach [b] X.env := by rfl) (hs2 : starEach [b] X.env = [(false, eval b X.env)] := by rfl)
    (hpl : (backTo pos (starEach [b] X.env)).any (·.1) = false := by rfl) : XE X W g (.Call (.Name "isinstance" p) [a, b] [] pos) (B ma (isiD cs [t])) := XE.by1 (fun h => de_isi T t hg hm h hb hs hs2 hpl) ha
theorem xe_isi2 {cs : List Str} {b2 : Expr} {x1} (T : ClsT X.K cs) (t u : Ty) (hg : Gl X "isinstance") (hm : X.mg "isinstance" = none) (ha : XE X W g a ma) (hb : PE X b (tC (tyV' X.K t))) (hb2 : PE X b2 (tC (tyV' X.K u))) (hs : starEach [a, .Tuple [b, b2] x1 pt] X.env = (false, eval a X.env) :: starEach [.Tuple [b, b2] x1 pt] X.env := by rfl)
    (hs2 : starEach [.Tuple [b, b2] x1 pt] X.env = [(false, eval (.Tuple [b, b2] x1 pt) X.env)] := by rfl) (hs3 : starEach [b, b2] X.env = (false, eval b X.env) :: starEach [b2] X.env := by rfl) (hs4 : starEach [b2] X.env = [(false, eval b2 X.env)] := by rfl)
    (hpl : (backTo pos (starEach [.Tuple [b, b2] x1 pt] X.env)).any (·.1) = false := by rfl) : XE X W g (.Call (.Name "isinstance" p) [a, .Tuple [b, b2] x1 pt] [] pos) (B ma (isiD cs [t, u])) := XE.by1 (fun h => de_isi2 T t u hg hm h hb hb2 hs hs2 hs3 hs4 hpl) ha
def chainM (f f' : D → D → M D) (ma mb mc : M D) : M D := B ma fun x => B mb fun y => B (f x y) fun z => B (asB z) fun t => if t then B mc fun w => f' y w else pure (.bl false)
theorem chain_at {f f' : D → D → M D} : mChain f f' (AtG g ma) (AtG g mb) (AtG g mc) g = chainM f f' ma mb mc := by
  show (do let x ← AtG g ma g; let y ← AtG g mb g; let z ← f x y; if ← asB z then (do let w ← AtG g mc g; f' y w) else pure (.bl false)) = _
  rw [AtG_self, AtG_self, AtG_self]; rfl
theorem xe_chain {op op' : CmpOp} {r r' : R2} {f f' : D → D → M D} (ho : OpR X (compareOp op) r) (ho' : OpR X (compareOp op') r') (hb : By2 X.K r f) (hb' : By2 X.K r' f') (h1 : XE X W g a ma) (h2 : XE X W g b mb) (h3 : XE X W g c mc) (hm : lastMarks [op, op'] [b, c] = false := by with_unfolding_all rfl) :
    XE X W g (.Compare a [op, op'] [b, c] pos) (chainM f f' ma mb mc) := XE.by (de_chain ho ho' hb hb' h1.de h2.de h3.de hm) chain_at
theorem xt_chain {op op' : CmpOp} {r r' : R2} {f f' : D → D → M D} (ho : OpR X (compareOp op) r) (ho' : OpR X (compareOp op') r') (hb : By2 X.K r f) (hb' : By2 X.K r' f') (h1 : XE X W g a ma) (h2 : XE X W g b mb) (h3 : XE X W g c mc) (hm : lastMarks [op, op'] [b, c] = false := by with_unfolding_all rfl) :
    XT X W g (.Compare a [op, op'] [b, c] pos) (tst (chainM f f' ma mb mc)) := XT.by (dt_chain ho ho' hb hb' h1.de h2.de h3.de hm) (by rw [← chain_at (g := g)]; rfl)
theorem xe_dict0 : XE X W g (.Dict [] [] pos) (pure (.dic [] [])) := XE.by de_dict0 rfl
def joinX (ma mb : M D) : M D := B ma fun x => B (strD x) fun s => B mb fun y => joinD (.str s) y
theorem xe_join {apos : Pos} (ha : XE X W g a ma) (hb : XE X W g b mb) (hs : starEach [b] X.env = [(false, eval b X.env)] := by rfl) (hbase : attributeBase a "join" X.env (eval a X.env) = eval a X.env := by rfl) (hline : (apos.endLine == pos.line) = true := by rfl) :
    XE X W g (.Call (.Attribute a "join" apos) [b] [] pos) (joinX ma mb) := XE.by (de_join ha.de hb.de hs hbase hline) (by rw [AtG_self, AtG_self]; rfl)
/-- a dict display: keys texts -/
structure XP (X : Cx) (W : WX) (g : DSt) (pos : Pos) (keys : List (Option Expr)) (values : List Expr) (ks : List Key) (ms : List (M D)) : Prop where
  d : ∃ u, DP X W pos keys values ks u ∧ u g = runA ms
theorem xp_nil : XP X W g pos [] [] [] [] := ⟨_, dp_nil, rfl⟩
theorem xp_cons {ke ve : Expr} {keys : List (Option Expr)} {values : List Expr} {k : Key} {ks : List Key} {mv : M D} (hk : PE X ke (tC (kV k))) (hv : XE X W g ve mv) (hr : XP X W g pos keys values ks ms) : XP X W g pos (some ke :: keys) (ve :: values) (k :: ks) (mv :: ms) := by
  obtain ⟨u, h1, h2⟩ := hr.d
  exact ⟨_, dp_cons hk hv.de h1, by rw [AtG_self, h2]; rfl⟩
theorem xe_dict {keys : List (Option Expr)} {values : List Expr} {ks : List Key} (h : XP X W g pos keys values ks ms) (hall : keys.all (·.isSome) = true := by rfl) (hl : keys.length = values.length := by rfl) (h0 : keys ≠ [] := by intro h; cases h) (h15 : keys.length ≤ 15 := by decide) : XE X W g (.Dict keys values pos) (argsB ms (dicD ks)) := by
  obtain ⟨u, h1, h2⟩ := h.d
  exact XE.by (de_dict h1 hall hl h0 h15) (by rw [argsB_eq, ← h2])
/-! ### what is walked -/
variable {tg : Expr}
theorem xi_any (ha : XE X W g a ma) : XI X W g tg a (B ma iterD) := XI.by (di_any ha.de) (by rw [AtG_self]; rfl)
theorem xi_range1 {pp : Pos} (hg : Gl X "range") (hm : X.mg "range" = none) (ha : XE X W g a ma) (hs : starEach [a] X.env = [(false, eval a X.env)] := by rfl) : XI X W g tg (.Call (.Name "range" pp) [a] [] pos) (B ma fun x => rangeD [x]) := XI.by (di_range1 hg hm ha.de hs) (by rw [AtG_self]; rfl)
theorem xi_range2 {pp : Pos} (hg : Gl X "range") (hm : X.mg "range" = none) (ha : XE X W g a ma) (hb : XE X W g b mb) (hs : starEach [a, b] X.env = [(false, eval a X.env), (false, eval b X.env)] := by rfl) (hs2 : starEach [b] X.env = [(false, eval b X.env)] := by rfl) : XI X W g tg (.Call (.Name "range" pp) [a, b] [] pos) (B ma fun x => B mb fun y => rangeD [x, y]) := XI.by (di_range2 hg hm ha.de hb.de hs hs2) (by rw [AtG_self, AtG_self]; rfl)
end
section
variable {α τ : Type} {X : Cx} {W : Wf} {g : DSt} {I : IC α} {tg e b : Expr} {T : Tgt} {rest : List Stmt} {pos : Pos} {me mb : M D} {ml : M (List D)} {m : M α}
theorem blkT {ws : List Nat} {scope : Scope} {ifs : List Expr} {mt : D → M Bool} (ht : BlkT X g scope ws T ifs mt) : ∀ (s : Shared) (H : Hp) (C : Addr) (cl : List (Str × Addr)) (fp : List Addr), PTs (X.blk s H scope (compEnvC scope cl C X.env) fp) ifs (famT X.K g ws T mt) := fun s H C cl fp => ⟨fun pins s' σ H' Q I ⟨d, t, e, q⟩ => (ht s H C cl fp d t e).run pins s' σ H' Q I q⟩
theorem blkE {ws : List Nat} {scope : Scope} {elt : Expr} {me : D → M D} (he : BlkE X g scope ws T elt me) : ∀ (s : Shared) (H : Hp) (C : Addr) (cl : List (Str × Addr)) (fp : List Addr), PE (X.blk s H scope (compEnvC scope cl C X.env) fp) elt (famE X.K g ws T me) := fun s H C cl fp => ⟨fun pins s' σ H' Q I ⟨d, t, e, q⟩ => (he s H C cl fp d t e).run pins s' σ H' Q I q⟩
/-- target = e -/
theorem xs_asg {k : D → M α} (he : XE X W.x g e me) (hg : PG X tg (T.tg X.K)) (hN : ∀ d, T.set d g = none → k d = stuck) (hk : ∀ d t, T.set d g = some t → XS X W t I rest (k d)) (hs : swapsWithSole [tg] e pos.line X.env = pure false := by rfl) (hw : swappedStores [tg] e X.env = pure none := by rfl) (h1 : (assignEach [tg] X.env).map (·.2) = [assign tg X.env] := by rfl) :
    XS X W g I (.Assign [tg] e pos :: rest) (B me k) := by
  refine PSs.imp (pss_cons (ps_asg he (dg_tgt (W := W) hg) hs hw h1) (fam (ι := {q : D × DSt // T.set q.1 g = some q.2}) fun q => hk q.1.1 q.1.2 q.2)) fun E σ H ⟨n, p, G, S, ow, r, h⟩ => ?_
  refine ⟨p, G, S, ow, r.rs, okG.seq h r fun d S1 v p1 G1 H1 e1 dn r1 x1 h1 => ?_⟩
  cases eg : T.set d g with
  | none =>
    rw [hN d eg] at h1
    exact h1.elim
  | some t' => exact ⟨n, d, g, p1, G1, S1, ow, r1, dn, t', eg, fun p' G' H' σ' ow' r' => ⟨⟨(d, t'), eg⟩, n, p', G', S1, ow', r', h1⟩⟩
theorem xs_put (i : Nat) {x : Str} {px pt : Pos} {xs : List D} {k : List D → M α} (hg : g[i]? = some (some (.own xs)) := by rfl) (hN : X.N[i]? = some x := by rfl) (he : XE X W.x g e me) (hb : XE X W.x g b mb) (hk : ∀ v, XS X W (g.set i (some (.own v))) I rest (k v)) (hv : Vis X.env.scope x := by first | exact Or.inl rfl | exact Or.inr (Or.inl rfl) | exact Or.inr (Or.inr rfl)) (hd : (x == ("__debug__" : Str)) = false := by decide)
    (hcd : (x == ("__classdict__" : Str)) = false := by decide) (ha : ∀ v, assign (.Subscript (.Name x px) b pt) X.env v = (do
      let ov ← holding [v] (eval (.Name x px) X.env)
      let iv ← holding [v, ov] (eval b X.env)
      standAt pt
      holding [v, ov, iv] (setItem ov iv v)
      release [v, ov, iv] []) := by intro _; rfl) (hs : swapsWithSole [.Subscript (.Name x px) b pt] e pos.line X.env = pure false := by rfl) (hw : swappedStores [.Subscript (.Name x px) b pt] e X.env = pure none := by rfl)
    (h1 : (assignEach [.Subscript (.Name x px) b pt] X.env).map (·.2) = [assign (.Subscript (.Name x px) b pt) X.env] := by rfl) : XS X W g I (.Assign [.Subscript (.Name x px) b pt] e pos :: rest) (B (B me fun y => B mb fun z => putX xs y z) k) := by
  refine xs_next (e := fun v => g.set i (some (.own v))) (ds_setitem i hN he.de hb.de hv hd hcd ha hs hw h1) ?_ hk
  rw [AtG_self, AtG_self, getO_at hg]
  unfold B putX
  rw [bind_assoc]
  congr 1
  funext y
  rw [pure_bind, bind_assoc]
/-- name = [..] -/
theorem xs_setLc (i : Nat) {y : Str} {py : Pos} {elt iter : Expr} {ifs : List Expr} {scope : Scope} {own : List (Str × Nat)} {spos : Pos} {mi : M (List D)} {mt : D → M Bool} {me : D → M D} {k : D → M α} (hc : X.calm = true) (hN : X.N.Nodup) (hy : X.N[i]? = some y) (hyl : X.env.scope.names.lookup y = some .local)
    (hsw : swapsWith (.ListComp elt [⟨tg, iter, ifs, 0⟩] scope pos) (some (.Name y py)) spos.line X.env = pure true) (hi : XI X W.x g tg iter mi) (ok : BlkOk X.N X.env.scope scope own) (hg : BlkG X scope T tg) (hn : ∀ d, T.set d (wipeD g (own.map (·.2))) = none → mt d = stuck) (ht : BlkT X g scope (own.map (·.2)) T ifs mt) (he : BlkE X g scope (own.map (·.2)) T elt me)
    (hT : ∀ i ∈ T.slots, i ∈ own.map (·.2)) (hk : ∀ v, XS X W (g.set i (some (.val v))) I rest (k v)) (hl : decide (i < g.length) = true := by rfl) (hs : ∀ x, foldedSetIterable iter X.env x = pure x := by intro _; rfl) :
    XS X W g I (.Assign [.Name y py] (.ListComp elt [⟨tg, iter, ifs, 0⟩] scope pos) spos :: rest) (B (B (B mi fun ds => lc mt me ds) fun xs => pure (.lst xs)) k) := by
  refine PSs.imp (pss_cons (ps_setLc hc hN hy hyl hsw hi ok hg (blkT ht) (blkE he) hs) (fam hk)) fun E σ H ⟨n, p, G, S, ow, r, h⟩ => ?_
  show tLc _ _ _ _ _ σ H (fun v H1 => ∃ d, tXS X.K W (g.set i (some (.val d))) I (k d) E (σ.set i (some v)) H1)
  refine lcx_read (V := W.x) hT hn ⟨p, G, S, ow, r.rs, okR.toF (okG.seq (W := W) (mx := (B (B mi fun ds => lc mt me ds) fun xs => pure (D.lst xs))) h r fun d S1 v p1 G1 H1 e1 dn r1 x1 h1 => ?_)⟩
  obtain ⟨ow', r'⟩ := r1.set0 (of_decide_eq_true hl) (s := some (.val d)) (v := some v) ⟨rfl, v, rfl, dn⟩
  exact ⟨d, n, p1, G1, S1, ow', r', h1⟩
theorem okG.seqF {K : PySem.W.Frag} {n : Snap} {E : Ends} {p : List (List Addr)} {G H : Hp} {S : Sto} {t : DSt} {σ : L2.St} {ow : List Addr} {mx : M (List D)} {f : List D → M α} {Q1 : VK} {dd : Dep f}
    (h : okG K W n I (B mx f dd S) E) (r : RelF K n p G S H t σ ow)
    (k : ∀ xs S1 l vs p1 G1 H1, H l = none → H1 l = some (.lst vs) → DenL K p1 G1 xs vs → G1 l = none → l ∉ p1.flatten → Rel0 K p1 S1 G1 H1 → Ext p G H p1 G1 H1 → okG K W n I (f xs S1) E → Q1 (.ref l) H1) : okF K p G H (fun c d H' => W c d H') (mx S) Q1 := by
  have h' : okG K W n I ((mx S).andThen f) E := h
  cases e : mx S with
  | ok d S1 =>
    rw [e] at h'
    exact fun l vs p1 G1 H1 h0 h1 h2 h3 h4 r1 x1 => k d S1 l vs p1 G1 H1 h0 h1 h2 h3 h4 r1 x1 h'
  | exc x S1 =>
    rw [e] at h'
    exact fun cls dd p1 G1 H1 a b c => h' cls dd p1 G1 H1 a b (r.ext.trans c)
  | stuck =>
    rw [e] at h'
    exact h'
theorem xs_setLcO (i : Nat) {y : Str} {py : Pos} {elt iter : Expr} {ifs : List Expr} {scope : Scope} {own : List (Str × Nat)} {spos : Pos} {mi : M (List D)} {mt : D → M Bool} {me : D → M D} {k : List D → M α} (hc : X.calm = true) (hN : X.N.Nodup) (hy : X.N[i]? = some y) (hyl : X.env.scope.names.lookup y = some .local)
    (hsw : swapsWith (.ListComp elt [⟨tg, iter, ifs, 0⟩] scope pos) (some (.Name y py)) spos.line X.env = pure true) (hi : XI X W.x g tg iter mi) (ok : BlkOk X.N X.env.scope scope own) (hg : BlkG X scope T tg) (hn : ∀ d, T.set d (wipeD g (own.map (·.2))) = none → mt d = stuck) (ht : BlkT X g scope (own.map (·.2)) T ifs mt) (he : BlkE X g scope (own.map (·.2)) T elt me)
    (hT : ∀ i ∈ T.slots, i ∈ own.map (·.2)) (hk : ∀ v, XS X W (g.set i (some (.own v))) I rest (k v)) (hl : decide (i < g.length) = true := by rfl) (hs : ∀ x, foldedSetIterable iter X.env x = pure x := by intro _; rfl) :
    XS X W g I (.Assign [.Name y py] (.ListComp elt [⟨tg, iter, ifs, 0⟩] scope pos) spos :: rest) (B (B mi fun ds => lc mt me ds) k) := by
  refine PSs.imp (pss_cons (ps_setLc hc hN hy hyl hsw hi ok hg (blkT ht) (blkE he) hs) (fam hk)) fun E σ H ⟨n, p, G, S, ow, r, h⟩ => ?_
  show tLc _ _ _ _ _ σ H (fun v H1 => ∃ d, tXS X.K W (g.set i (some (.own d))) I (k d) E (σ.set i (some v)) H1)
  refine lcx_read (V := W.x) hT hn ⟨p, G, S, ow, r.rs, okG.seqF (W := W) h r fun xs S1 l vs p1 G1 H1 h0 h1 h2 h3 h4 r1 x1 hq => ?_⟩
  obtain ⟨ow', r'⟩ := r.newO (of_decide_eq_true hl) x1 r1 h0 h1 h2 h3 h4
  exact ⟨xs, n, p1, G1, S1, ow', r', hq⟩
theorem xs_par_vv (i j : Nat) {x y : Str} {a b : Expr} {m0 : M D} {m1 : M D} {px py pt : Pos} {kt k2 pt2} {k : D → D → M α} (hc : X.calm = true) (hN : X.N.Nodup) (hnx : X.N[i]? = some x) (hny : X.N[j]? = some y) (hij : i ≠ j) (hlx : X.env.scope.names.lookup x = some .local) (hly : X.env.scope.names.lookup y = some .local) (hm0 : XE X W.x g a m0) (hm1 : XE X W.x g b m1) (hk : ∀ w0 w1, XS X W ((g.set i (some (.val w0))).set j (some (.val w1))) I rest (k w0 w1)) (hlen : decide (i < g.length ∧ j < g.length) = true := by rfl) (hst0 : starEach [a, b] X.env = (false, eval a X.env) :: starEach [b] X.env := by rfl) (hst1 : starEach [b] X.env = (false, eval b X.env) :: starEach [] X.env := by rfl) 
    (hw : swappedStores [.Tuple [.Name x px, .Name y py] kt pt] (.Tuple [a, b] k2 pt2) X.env = pure (some [x, y]) := by rfl) (hs : swapsWithSole [.Tuple [.Name x px, .Name y py] kt pt] (.Tuple [a, b] k2 pt2) pos.line X.env = pure false := by rfl) :
    XS X W g I (.Assign [.Tuple [.Name x px, .Name y py] kt pt] (.Tuple [a, b] k2 pt2) pos :: rest) (B m0 fun w0 => B m1 fun w1 => k w0 w1) := by
  have hlt := of_decide_eq_true hlen
  have h := xs_next (g := g) (W := W) (I := I) (rest := rest) (mx := B m0 fun w0 => B m1 fun w1 => pure (w0, w1)) (e := fun p : D × D => ((g.set i (some (.val p.1))).set j (some (.val p.2)))) (k := fun p => k p.1 p.2) (ds_parM2 (pos := pos) (kt := kt) (k2 := k2) (pt := pt) (pt2 := pt2) i j hc hN hnx hny hij hlx hly (dm_val hm0.de (dm_val hm1.de dm_nil hst1) hst0) hw hs) ?_ (fun p => hk p.1 p.2)
  · simpa [B, bind_assoc] using h
  · simp only [AtG_self, B, bind_assoc, pure_bind]
    congr 1
    repeat' first | rfl | (funext _; simp [setMs, hlt, liftO]) | (apply funext; intro _; congr 1)
theorem xs_par_vo (i j : Nat) {x y : Str} {a b : Expr} {m0 : M D} {m1 : M (List D)} {px py pt : Pos} {kt k2 pt2} {k : D → List D → M α} (hc : X.calm = true) (hN : X.N.Nodup) (hnx : X.N[i]? = some x) (hny : X.N[j]? = some y) (hij : i ≠ j) (hlx : X.env.scope.names.lookup x = some .local) (hly : X.env.scope.names.lookup y = some .local) (hm0 : XE X W.x g a m0) (hm1 : XF X W.x g b m1) (hk : ∀ w0 w1, XS X W ((g.set i (some (.val w0))).set j (some (.own w1))) I rest (k w0 w1)) (hlen : decide (i < g.length ∧ j < g.length) = true := by rfl) (hst0 : starEach [a, b] X.env = (false, eval a X.env) :: starEach [b] X.env := by rfl) (hst1 : starEach [b] X.env = (false, eval b X.env) :: starEach [] X.env := by rfl) 
    (hw : swappedStores [.Tuple [.Name x px, .Name y py] kt pt] (.Tuple [a, b] k2 pt2) X.env = pure (some [x, y]) := by rfl) (hs : swapsWithSole [.Tuple [.Name x px, .Name y py] kt pt] (.Tuple [a, b] k2 pt2) pos.line X.env = pure false := by rfl) :
    XS X W g I (.Assign [.Tuple [.Name x px, .Name y py] kt pt] (.Tuple [a, b] k2 pt2) pos :: rest) (B m0 fun w0 => B m1 fun w1 => k w0 w1) := by
  have hlt := of_decide_eq_true hlen
  have h := xs_next (g := g) (W := W) (I := I) (rest := rest) (mx := B m0 fun w0 => B m1 fun w1 => pure (w0, w1)) (e := fun p : D × List D => ((g.set i (some (.val p.1))).set j (some (.own p.2)))) (k := fun p => k p.1 p.2) (ds_parM2 (pos := pos) (kt := kt) (k2 := k2) (pt := pt) (pt2 := pt2) i j hc hN hnx hny hij hlx hly (dm_val hm0.de (dm_own hm1.df dm_nil hst1) hst0) hw hs) ?_ (fun p => hk p.1 p.2)
  · simpa [B, bind_assoc] using h
  · simp only [AtG_self, B, bind_assoc, pure_bind]
    congr 1
    repeat' first | rfl | (funext _; simp [setMs, hlt, liftO]) | (apply funext; intro _; congr 1)
theorem xs_par_ov (i j : Nat) {x y : Str} {a b : Expr} {m0 : M (List D)} {m1 : M D} {px py pt : Pos} {kt k2 pt2} {k : List D → D → M α} (hc : X.calm = true) (hN : X.N.Nodup) (hnx : X.N[i]? = some x) (hny : X.N[j]? = some y) (hij : i ≠ j) (hlx : X.env.scope.names.lookup x = some .local) (hly : X.env.scope.names.lookup y = some .local) (hm0 : XF X W.x g a m0) (hm1 : XE X W.x g b m1) (hk : ∀ w0 w1, XS X W ((g.set i (some (.own w0))).set j (some (.val w1))) I rest (k w0 w1)) (hlen : decide (i < g.length ∧ j < g.length) = true := by rfl) (hst0 : starEach [a, b] X.env = (false, eval a X.env) :: starEach [b] X.env := by rfl) (hst1 : starEach [b] X.env = (false, eval b X.env) :: starEach [] X.env := by rfl) 
    (hw : swappedStores [.Tuple [.Name x px, .Name y py] kt pt] (.Tuple [a, b] k2 pt2) X.env = pure (some [x, y]) := by rfl) (hs : swapsWithSole [.Tuple [.Name x px, .Name y py] kt pt] (.Tuple [a, b] k2 pt2) pos.line X.env = pure false := by rfl) :
    XS X W g I (.Assign [.Tuple [.Name x px, .Name y py] kt pt] (.Tuple [a, b] k2 pt2) pos :: rest) (B m0 fun w0 => B m1 fun w1 => k w0 w1) := by
  have hlt := of_decide_eq_true hlen
  have h := xs_next (g := g) (W := W) (I := I) (rest := rest) (mx := B m0 fun w0 => B m1 fun w1 => pure (w0, w1)) (e := fun p : List D × D => ((g.set i (some (.own p.1))).set j (some (.val p.2)))) (k := fun p => k p.1 p.2) (ds_parM2 (pos := pos) (kt := kt) (k2 := k2) (pt := pt) (pt2 := pt2) i j hc hN hnx hny hij hlx hly (dm_own hm0.df (dm_val hm1.de dm_nil hst1) hst0) hw hs) ?_ (fun p => hk p.1 p.2)
  · simpa [B, bind_assoc] using h
  · simp only [AtG_self, B, bind_assoc, pure_bind]
    congr 1
    repeat' first | rfl | (funext _; simp [setMs, hlt, liftO]) | (apply funext; intro _; congr 1)
theorem xs_par_oo (i j : Nat) {x y : Str} {a b : Expr} {m0 : M (List D)} {m1 : M (List D)} {px py pt : Pos} {kt k2 pt2} {k : List D → List D → M α} (hc : X.calm = true) (hN : X.N.Nodup) (hnx : X.N[i]? = some x) (hny : X.N[j]? = some y) (hij : i ≠ j) (hlx : X.env.scope.names.lookup x = some .local) (hly : X.env.scope.names.lookup y = some .local) (hm0 : XF X W.x g a m0) (hm1 : XF X W.x g b m1) (hk : ∀ w0 w1, XS X W ((g.set i (some (.own w0))).set j (some (.own w1))) I rest (k w0 w1)) (hlen : decide (i < g.length ∧ j < g.length) = true := by rfl) (hst0 : starEach [a, b] X.env = (false, eval a X.env) :: starEach [b] X.env := by rfl) (hst1 : starEach [b] X.env = (false, eval b X.env) :: starEach [] X.env := by rfl) 
    (hw : swappedStores [.Tuple [.Name x px, .Name y py] kt pt] (.Tuple [a, b] k2 pt2) X.env = pure (some [x, y]) := by rfl) (hs : swapsWithSole [.Tuple [.Name x px, .Name y py] kt pt] (.Tuple [a, b] k2 pt2) pos.line X.env = pure false := by rfl) :
    XS X W g I (.Assign [.Tuple [.Name x px, .Name y py] kt pt] (.Tuple [a, b] k2 pt2) pos :: rest) (B m0 fun w0 => B m1 fun w1 => k w0 w1) := by
  have hlt := of_decide_eq_true hlen
  have h := xs_next (g := g) (W := W) (I := I) (rest := rest) (mx := B m0 fun w0 => B m1 fun w1 => pure (w0, w1)) (e := fun p : List D × List D => ((g.set i (some (.own p.1))).set j (some (.own p.2)))) (k := fun p => k p.1 p.2) (ds_parM2 (pos := pos) (kt := kt) (k2 := k2) (pt := pt) (pt2 := pt2) i j hc hN hnx hny hij hlx hly (dm_own hm0.df (dm_own hm1.df dm_nil hst1) hst0) hw hs) ?_ (fun p => hk p.1 p.2)
  · simpa [B, bind_assoc] using h
  · simp only [AtG_self, B, bind_assoc, pure_bind]
    congr 1
    repeat' first | rfl | (funext _; simp [setMs, hlt, liftO]) | (apply funext; intro _; congr 1)
theorem xs_par_vvv (i j l : Nat) {x y z : Str} {a b c : Expr} {m0 : M D} {m1 : M D} {m2 : M D} {px py pz pt : Pos} {kt k2 pt2} {k : D → D → D → M α} (hc : X.calm = true) (hN : X.N.Nodup) (hnx : X.N[i]? = some x) (hny : X.N[j]? = some y) (hnz : X.N[l]? = some z) (hij : i ≠ j) (hil : i ≠ l) (hjl : j ≠ l) (hlx : X.env.scope.names.lookup x = some .local) (hly : X.env.scope.names.lookup y = some .local) (hlz : X.env.scope.names.lookup z = some .local) (hm0 : XE X W.x g a m0) (hm1 : XE X W.x g b m1) (hm2 : XE X W.x g c m2) (hk : ∀ w0 w1 w2, XS X W (((g.set i (some (.val w0))).set j (some (.val w1))).set l (some (.val w2))) I rest (k w0 w1 w2)) (hlen : decide (i < g.length ∧ j < g.length ∧ l < g.length) = true := by rfl) (hst0 : starEach [a, b, c] X.env = (false, eval a X.env) :: starEach [b, c] X.env := by rfl) (hst1 : starEach [b, c] X.env = (false, eval b X.env) :: starEach [c] X.env := by rfl) (hst2 : starEach [c] X.env = (false, eval c X.env) :: starEach [] X.env := by rfl) 
    (hw : swappedStores [.Tuple [.Name x px, .Name y py, .Name z pz] kt pt] (.Tuple [a, b, c] k2 pt2) X.env = pure (some [x, y, z]) := by rfl) (hs : swapsWithSole [.Tuple [.Name x px, .Name y py, .Name z pz] kt pt] (.Tuple [a, b, c] k2 pt2) pos.line X.env = pure false := by rfl) :
    XS X W g I (.Assign [.Tuple [.Name x px, .Name y py, .Name z pz] kt pt] (.Tuple [a, b, c] k2 pt2) pos :: rest) (B m0 fun w0 => B m1 fun w1 => B m2 fun w2 => k w0 w1 w2) := by
  have hlt := of_decide_eq_true hlen
  have h := xs_next (g := g) (W := W) (I := I) (rest := rest) (mx := B m0 fun w0 => B m1 fun w1 => B m2 fun w2 => pure (w0, w1, w2)) (e := fun p : D × D × D => (((g.set i (some (.val p.1))).set j (some (.val p.2.1))).set l (some (.val p.2.2)))) (k := fun p => k p.1 p.2.1 p.2.2) (ds_parM3 (pos := pos) (kt := kt) (k2 := k2) (pt := pt) (pt2 := pt2) i j l hc hN hnx hny hnz hij hil hjl hlx hly hlz (dm_val hm0.de (dm_val hm1.de (dm_val hm2.de dm_nil hst2) hst1) hst0) hw hs) ?_ (fun p => hk p.1 p.2.1 p.2.2)
  · simpa [B, bind_assoc] using h
  · simp only [AtG_self, B, bind_assoc, pure_bind]
    congr 1
    repeat' first | rfl | (funext _; simp [setMs, hlt, liftO]) | (apply funext; intro _; congr 1)
theorem xs_par_vvo (i j l : Nat) {x y z : Str} {a b c : Expr} {m0 : M D} {m1 : M D} {m2 : M (List D)} {px py pz pt : Pos} {kt k2 pt2} {k : D → D → List D → M α} (hc : X.calm = true) (hN : X.N.Nodup) (hnx : X.N[i]? = some x) (hny : X.N[j]? = some y) (hnz : X.N[l]? = some z) (hij : i ≠ j) (hil : i ≠ l) (hjl : j ≠ l) (hlx : X.env.scope.names.lookup x = some .local) (hly : X.env.scope.names.lookup y = some .local) (hlz : X.env.scope.names.lookup z = some .local) (hm0 : XE X W.x g a m0) (hm1 : XE X W.x g b m1) (hm2 : XF X W.x g c m2) (hk : ∀ w0 w1 w2, XS X W (((g.set i (some (.val w0))).set j (some (.val w1))).set l (some (.own w2))) I rest (k w0 w1 w2)) (hlen : decide (i < g.length ∧ j < g.length ∧ l < g.length) = true := by rfl) (hst0 : starEach [a, b, c] X.env = (false, eval a X.env) :: starEach [b, c] X.env := by rfl) (hst1 : starEach [b, c] X.env = (false, eval b X.env) :: starEach [c] X.env := by rfl) (hst2 : starEach [c] X.env = (false, eval c X.env) :: starEach [] X.env := by rfl) 
    (hw : swappedStores [.Tuple [.Name x px, .Name y py, .Name z pz] kt pt] (.Tuple [a, b, c] k2 pt2) X.env = pure (some [x, y, z]) := by rfl) (hs : swapsWithSole [.Tuple [.Name x px, .Name y py, .Name z pz] kt pt] (.Tuple [a, b, c] k2 pt2) pos.line X.env = pure false := by rfl) :
    XS X W g I (.Assign [.Tuple [.Name x px, .Name y py, .Name z pz] kt pt] (.Tuple [a, b, c] k2 pt2) pos :: rest) (B m0 fun w0 => B m1 fun w1 => B m2 fun w2 => k w0 w1 w2) := by
  have hlt := of_decide_eq_true hlen
  have h := xs_next (g := g) (W := W) (I := I) (rest := rest) (mx := B m0 fun w0 => B m1 fun w1 => B m2 fun w2 => pure (w0, w1, w2)) (e := fun p : D × D × List D => (((g.set i (some (.val p.1))).set j (some (.val p.2.1))).set l (some (.own p.2.2)))) (k := fun p => k p.1 p.2.1 p.2.2) (ds_parM3 (pos := pos) (kt := kt) (k2 := k2) (pt := pt) (pt2 := pt2) i j l hc hN hnx hny hnz hij hil hjl hlx hly hlz (dm_val hm0.de (dm_val hm1.de (dm_own hm2.df dm_nil hst2) hst1) hst0) hw hs) ?_ (fun p => hk p.1 p.2.1 p.2.2)
  · simpa [B, bind_assoc] using h
  · simp only [AtG_self, B, bind_assoc, pure_bind]
    congr 1
    repeat' first | rfl | (funext _; simp [setMs, hlt, liftO]) | (apply funext; intro _; congr 1)
theorem xs_par_vov (i j l : Nat) {x y z : Str} {a b c : Expr} {m0 : M D} {m1 : M (List D)} {m2 : M D} {px py pz pt : Pos} {kt k2 pt2} {k : D → List D → D → M α} (hc : X.calm = true) (hN : X.N.Nodup) (hnx : X.N[i]? = some x) (hny : X.N[j]? = some y) (hnz : X.N[l]? = some z) (hij : i ≠ j) (hil : i ≠ l) (hjl : j ≠ l) (hlx : X.env.scope.names.lookup x = some .local) (hly : X.env.scope.names.lookup y = some .local) (hlz : X.env.scope.names.lookup z = some .local) (hm0 : XE X W.x g a m0) (hm1 : XF X W.x g b m1) (hm2 : XE X W.x g c m2) (hk : ∀ w0 w1 w2, XS X W (((g.set i (some (.val w0))).set j (some (.own w1))).set l (some (.val w2))) I rest (k w0 w1 w2)) (hlen : decide (i < g.length ∧ j < g.length ∧ l < g.length) = true := by rfl) (hst0 : starEach [a, b, c] X.env = (false, eval a X.env) :: starEach [b, c] X.env := by rfl) (hst1 : starEach [b, c] X.env = (false, eval b X.env) :: starEach [c] X.env := by rfl) (hst2 : starEach [c] X.env = (false, eval c X.env) :: starEach [] X.env := by rfl) 
    (hw : swappedStores [.Tuple [.Name x px, .Name y py, .Name z pz] kt pt] (.Tuple [a, b, c] k2 pt2) X.env = pure (some [x, y, z]) := by rfl) (hs : swapsWithSole [.Tuple [.Name x px, .Name y py, .Name z pz] kt pt] (.Tuple [a, b, c] k2 pt2) pos.line X.env = pure false := by rfl) :
    XS X W g I (.Assign [.Tuple [.Name x px, .Name y py, .Name z pz] kt pt] (.Tuple [a, b, c] k2 pt2) pos :: rest) (B m0 fun w0 => B m1 fun w1 => B m2 fun w2 => k w0 w1 w2) := by
  have hlt := of_decide_eq_true hlen
  have h := xs_next (g := g) (W := W) (I := I) (rest := rest) (mx := B m0 fun w0 => B m1 fun w1 => B m2 fun w2 => pure (w0, w1, w2)) (e := fun p : D × List D × D => (((g.set i (some (.val p.1))).set j (some (.own p.2.1))).set l (some (.val p.2.2)))) (k := fun p => k p.1 p.2.1 p.2.2) (ds_parM3 (pos := pos) (kt := kt) (k2 := k2) (pt := pt) (pt2 := pt2) i j l hc hN hnx hny hnz hij hil hjl hlx hly hlz (dm_val hm0.de (dm_own hm1.df (dm_val hm2.de dm_nil hst2) hst1) hst0) hw hs) ?_ (fun p => hk p.1 p.2.1 p.2.2)
  · simpa [B, bind_assoc] using h
  · simp only [AtG_self, B, bind_assoc, pure_bind]
    congr 1
    repeat' first | rfl | (funext _; simp [setMs, hlt, liftO]) | (apply funext; intro _; congr 1)
theorem xs_par_voo (i j l : Nat) {x y z : Str} {a b c : Expr} {m0 : M D} {m1 : M (List D)} {m2 : M (List D)} {px py pz pt : Pos} {kt k2 pt2} {k : D → List D → List D → M α} (hc : X.calm = true) (hN : X.N.Nodup) (hnx : X.N[i]? = some x) (hny : X.N[j]? = some y) (hnz : X.N[l]? = some z) (hij : i ≠ j) (hil : i ≠ l) (hjl : j ≠ l) (hlx : X.env.scope.names.lookup x = some .local) (hly : X.env.scope.names.lookup y = some .local) (hlz : X.env.scope.names.lookup z = some .local) (hm0 : XE X W.x g a m0) (hm1 : XF X W.x g b m1) (hm2 : XF X W.x g c m2) (hk : ∀ w0 w1 w2, XS X W (((g.set i (some (.val w0))).set j (some (.own w1))).set l (some (.own w2))) I rest (k w0 w1 w2)) (hlen : decide (i < g.length ∧ j < g.length ∧ l < g.length) = true := by rfl) (hst0 : starEach [a, b, c] X.env = (false, eval a X.env) :: starEach [b, c] X.env := by rfl) (hst1 : starEach [b, c] X.env = (false, eval b X.env) :: starEach [c] X.env := by rfl) (hst2 : starEach [c] X.env = (false, eval c X.env) :: starEach [] X.env := by rfl) 
    (hw : swappedStores [.Tuple [.Name x px, .Name y py, .Name z pz] kt pt] (.Tuple [a, b, c] k2 pt2) X.env = pure (some [x, y, z]) := by rfl) (hs : swapsWithSole [.Tuple [.Name x px, .Name y py, .Name z pz] kt pt] (.Tuple [a, b, c] k2 pt2) pos.line X.env = pure false := by rfl) :
    XS X W g I (.Assign [.Tuple [.Name x px, .Name y py, .Name z pz] kt pt] (.Tuple [a, b, c] k2 pt2) pos :: rest) (B m0 fun w0 => B m1 fun w1 => B m2 fun w2 => k w0 w1 w2) := by
  have hlt := of_decide_eq_true hlen
  have h := xs_next (g := g) (W := W) (I := I) (rest := rest) (mx := B m0 fun w0 => B m1 fun w1 => B m2 fun w2 => pure (w0, w1, w2)) (e := fun p : D × List D × List D => (((g.set i (some (.val p.1))).set j (some (.own p.2.1))).set l (some (.own p.2.2)))) (k := fun p => k p.1 p.2.1 p.2.2) (ds_parM3 (pos := pos) (kt := kt) (k2 := k2) (pt := pt) (pt2 := pt2) i j l hc hN hnx hny hnz hij hil hjl hlx hly hlz (dm_val hm0.de (dm_own hm1.df (dm_own hm2.df dm_nil hst2) hst1) hst0) hw hs) ?_ (fun p => hk p.1 p.2.1 p.2.2)
  · simpa [B, bind_assoc] using h
  · simp only [AtG_self, B, bind_assoc, pure_bind]
    congr 1
    repeat' first | rfl | (funext _; simp [setMs, hlt, liftO]) | (apply funext; intro _; congr 1)
theorem xs_par_ovv (i j l : Nat) {x y z : Str} {a b c : Expr} {m0 : M (List D)} {m1 : M D} {m2 : M D} {px py pz pt : Pos} {kt k2 pt2} {k : List D → D → D → M α} (hc : X.calm = true) (hN : X.N.Nodup) (hnx : X.N[i]? = some x) (hny : X.N[j]? = some y) (hnz : X.N[l]? = some z) (hij : i ≠ j) (hil : i ≠ l) (hjl : j ≠ l) (hlx : X.env.scope.names.lookup x = some .local) (hly : X.env.scope.names.lookup y = some .local) (hlz : X.env.scope.names.lookup z = some .local) (hm0 : XF X W.x g a m0) (hm1 : XE X W.x g b m1) (hm2 : XE X W.x g c m2) (hk : ∀ w0 w1 w2, XS X W (((g.set i (some (.own w0))).set j (some (.val w1))).set l (some (.val w2))) I rest (k w0 w1 w2)) (hlen : decide (i < g.length ∧ j < g.length ∧ l < g.length) = true := by rfl) (hst0 : starEach [a, b, c] X.env = (false, eval a X.env) :: starEach [b, c] X.env := by rfl) (hst1 : starEach [b, c] X.env = (false, eval b X.env) :: starEach [c] X.env := by rfl) (hst2 : starEach [c] X.env = (false, eval c X.env) :: starEach [] X.env := by rfl) 
    (hw : swappedStores [.Tuple [.Name x px, .Name y py, .Name z pz] kt pt] (.Tuple [a, b, c] k2 pt2) X.env = pure (some [x, y, z]) := by rfl) (hs : swapsWithSole [.Tuple [.Name x px, .Name y py, .Name z pz] kt pt] (.Tuple [a, b, c] k2 pt2) pos.line X.env = pure false := by rfl) :
    XS X W g I (.Assign [.Tuple [.Name x px, .Name y py, .Name z pz] kt pt] (.Tuple [a, b, c] k2 pt2) pos :: rest) (B m0 fun w0 => B m1 fun w1 => B m2 fun w2 => k w0 w1 w2) := by
  have hlt := of_decide_eq_true hlen
  have h := xs_next (g := g) (W := W) (I := I) (rest := rest) (mx := B m0 fun w0 => B m1 fun w1 => B m2 fun w2 => pure (w0, w1, w2)) (e := fun p : List D × D × D => (((g.set i (some (.own p.1))).set j (some (.val p.2.1))).set l (some (.val p.2.2)))) (k := fun p => k p.1 p.2.1 p.2.2) (ds_parM3 (pos := pos) (kt := kt) (k2 := k2) (pt := pt) (pt2 := pt2) i j l hc hN hnx hny hnz hij hil hjl hlx hly hlz (dm_own hm0.df (dm_val hm1.de (dm_val hm2.de dm_nil hst2) hst1) hst0) hw hs) ?_ (fun p => hk p.1 p.2.1 p.2.2)
  · simpa [B, bind_assoc] using h
  · simp only [AtG_self, B, bind_assoc, pure_bind]
    congr 1
    repeat' first | rfl | (funext _; simp [setMs, hlt, liftO]) | (apply funext; intro _; congr 1)
theorem xs_par_ovo (i j l : Nat) {x y z : Str} {a b c : Expr} {m0 : M (List D)} {m1 : M D} {m2 : M (List D)} {px py pz pt : Pos} {kt k2 pt2} {k : List D → D → List D → M α} (hc : X.calm = true) (hN : X.N.Nodup) (hnx : X.N[i]? = some x) (hny : X.N[j]? = some y) (hnz : X.N[l]? = some z) (hij : i ≠ j) (hil : i ≠ l) (hjl : j ≠ l) (hlx : X.env.scope.names.lookup x = some .local) (hly : X.env.scope.names.lookup y = some .local) (hlz : X.env.scope.names.lookup z = some .local) (hm0 : XF X W.x g a m0) (hm1 : XE X W.x g b m1) (hm2 : XF X W.x g c m2) (hk : ∀ w0 w1 w2, XS X W (((g.set i (some (.own w0))).set j (some (.val w1))).set l (some (.own w2))) I rest (k w0 w1 w2)) (hlen : decide (i < g.length ∧ j < g.length ∧ l < g.length) = true := by rfl) (hst0 : starEach [a, b, c] X.env = (false, eval a X.env) :: starEach [b, c] X.env := by rfl) (hst1 : starEach [b, c] X.env = (false, eval b X.env) :: starEach [c] X.env := by rfl) (hst2 : starEach [c] X.env = (false, eval c X.env) :: starEach [] X.env := by rfl) 
    (hw : swappedStores [.Tuple [.Name x px, .Name y py, .Name z pz] kt pt] (.Tuple [a, b, c] k2 pt2) X.env = pure (some [x, y, z]) := by rfl) (hs : swapsWithSole [.Tuple [.Name x px, .Name y py, .Name z pz] kt pt] (.Tuple [a, b, c] k2 pt2) pos.line X.env = pure false := by rfl) :
    XS X W g I (.Assign [.Tuple [.Name x px, .Name y py, .Name z pz] kt pt] (.Tuple [a, b, c] k2 pt2) pos :: rest) (B m0 fun w0 => B m1 fun w1 => B m2 fun w2 => k w0 w1 w2) := by
  have hlt := of_decide_eq_true hlen
  have h := xs_next (g := g) (W := W) (I := I) (rest := rest) (mx := B m0 fun w0 => B m1 fun w1 => B m2 fun w2 => pure (w0, w1, w2)) (e := fun p : List D × D × List D => (((g.set i (some (.own p.1))).set j (some (.val p.2.1))).set l (some (.own p.2.2)))) (k := fun p => k p.1 p.2.1 p.2.2) (ds_parM3 (pos := pos) (kt := kt) (k2 := k2) (pt := pt) (pt2 := pt2) i j l hc hN hnx hny hnz hij hil hjl hlx hly hlz (dm_own hm0.df (dm_val hm1.de (dm_own hm2.df dm_nil hst2) hst1) hst0) hw hs) ?_ (fun p => hk p.1 p.2.1 p.2.2)
  · simpa [B, bind_assoc] using h
  · simp only [AtG_self, B, bind_assoc, pure_bind]
    congr 1
    repeat' first | rfl | (funext _; simp [setMs, hlt, liftO]) | (apply funext; intro _; congr 1)
theorem xs_par_oov (i j l : Nat) {x y z : Str} {a b c : Expr} {m0 : M (List D)} {m1 : M (List D)} {m2 : M D} {px py pz pt : Pos} {kt k2 pt2} {k : List D → List D → D → M α} (hc : X.calm = true) (hN : X.N.Nodup) (hnx : X.N[i]? = some x) (hny : X.N[j]? = some y) (hnz : X.N[l]? = some z) (hij : i ≠ j) (hil : i ≠ l) (hjl : j ≠ l) (hlx : X.env.scope.names.lookup x = some .local) (hly : X.env.scope.names.lookup y = some .local) (hlz : X.env.scope.names.lookup z = some .local) (hm0 : XF X W.x g a m0) (hm1 : XF X W.x g b m1) (hm2 : XE X W.x g c m2) (hk : ∀ w0 w1 w2, XS X W (((g.set i (some (.own w0))).set j (some (.own w1))).set l (some (.val w2))) I rest (k w0 w1 w2)) (hlen : decide (i < g.length ∧ j < g.length ∧ l < g.length) = true := by rfl) (hst0 : starEach [a, b, c] X.env = (false, eval a X.env) :: starEach [b, c] X.env := by rfl) (hst1 : starEach [b, c] X.env = (false, eval b X.env) :: starEach [c] X.env := by rfl) (hst2 : starEach [c] X.env = (false, eval c X.env) :: starEach [] X.env := by rfl) 
    (hw : swappedStores [.Tuple [.Name x px, .Name y py, .Name z pz] kt pt] (.Tuple [a, b, c] k2 pt2) X.env = pure (some [x, y, z]) := by rfl) (hs : swapsWithSole [.Tuple [.Name x px, .Name y py, .Name z pz] kt pt] (.Tuple [a, b, c] k2 pt2) pos.line X.env = pure false := by rfl) :
    XS X W g I (.Assign [.Tuple [.Name x px, .Name y py, .Name z pz] kt pt] (.Tuple [a, b, c] k2 pt2) pos :: rest) (B m0 fun w0 => B m1 fun w1 => B m2 fun w2 => k w0 w1 w2) := by
  have hlt := of_decide_eq_true hlen
  have h := xs_next (g := g) (W := W) (I := I) (rest := rest) (mx := B m0 fun w0 => B m1 fun w1 => B m2 fun w2 => pure (w0, w1, w2)) (e := fun p : List D × List D × D => (((g.set i (some (.own p.1))).set j (some (.own p.2.1))).set l (some (.val p.2.2)))) (k := fun p => k p.1 p.2.1 p.2.2) (ds_parM3 (pos := pos) (kt := kt) (k2 := k2) (pt := pt) (pt2 := pt2) i j l hc hN hnx hny hnz hij hil hjl hlx hly hlz (dm_own hm0.df (dm_own hm1.df (dm_val hm2.de dm_nil hst2) hst1) hst0) hw hs) ?_ (fun p => hk p.1 p.2.1 p.2.2)
  · simpa [B, bind_assoc] using h
  · simp only [AtG_self, B, bind_assoc, pure_bind]
    congr 1
    repeat' first | rfl | (funext _; simp [setMs, hlt, liftO]) | (apply funext; intro _; congr 1)
theorem xs_par_ooo (i j l : Nat) {x y z : Str} {a b c : Expr} {m0 : M (List D)} {m1 : M (List D)} {m2 : M (List D)} {px py pz pt : Pos} {kt k2 pt2} {k : List D → List D → List D → M α} (hc : X.calm = true) (hN : X.N.Nodup) (hnx : X.N[i]? = some x) (hny : X.N[j]? = some y) (hnz : X.N[l]? = some z) (hij : i ≠ j) (hil : i ≠ l) (hjl : j ≠ l) (hlx : X.env.scope.names.lookup x = some .local) (hly : X.env.scope.names.lookup y = some .local) (hlz : X.env.scope.names.lookup z = some .local) (hm0 : XF X W.x g a m0) (hm1 : XF X W.x g b m1) (hm2 : XF X W.x g c m2) (hk : ∀ w0 w1 w2, XS X W (((g.set i (some (.own w0))).set j (some (.own w1))).set l (some (.own w2))) I rest (k w0 w1 w2)) (hlen : decide (i < g.length ∧ j < g.length ∧ l < g.length) = true := by rfl) (hst0 : starEach [a, b, c] X.env = (false, eval a X.env) :: starEach [b, c] X.env := by rfl) (hst1 : starEach [b, c] X.env = (false, eval b X.env) :: starEach [c] X.env := by rfl) (hst2 : starEach [c] X.env = (false, eval c X.env) :: starEach [] X.env := by rfl) 
    (hw : swappedStores [.Tuple [.Name x px, .Name y py, .Name z pz] kt pt] (.Tuple [a, b, c] k2 pt2) X.env = pure (some [x, y, z]) := by rfl) (hs : swapsWithSole [.Tuple [.Name x px, .Name y py, .Name z pz] kt pt] (.Tuple [a, b, c] k2 pt2) pos.line X.env = pure false := by rfl) :
    XS X W g I (.Assign [.Tuple [.Name x px, .Name y py, .Name z pz] kt pt] (.Tuple [a, b, c] k2 pt2) pos :: rest) (B m0 fun w0 => B m1 fun w1 => B m2 fun w2 => k w0 w1 w2) := by
  have hlt := of_decide_eq_true hlen
  have h := xs_next (g := g) (W := W) (I := I) (rest := rest) (mx := B m0 fun w0 => B m1 fun w1 => B m2 fun w2 => pure (w0, w1, w2)) (e := fun p : List D × List D × List D => (((g.set i (some (.own p.1))).set j (some (.own p.2.1))).set l (some (.own p.2.2)))) (k := fun p => k p.1 p.2.1 p.2.2) (ds_parM3 (pos := pos) (kt := kt) (k2 := k2) (pt := pt) (pt2 := pt2) i j l hc hN hnx hny hnz hij hil hjl hlx hly hlz (dm_own hm0.df (dm_own hm1.df (dm_own hm2.df dm_nil hst2) hst1) hst0) hw hs) ?_ (fun p => hk p.1 p.2.1 p.2.2)
  · simpa [B, bind_assoc] using h
  · simp only [AtG_self, B, bind_assoc, pure_bind]
    congr 1
    repeat' first | rfl | (funext _; simp [setMs, hlt, liftO]) | (apply funext; intro _; congr 1)
end
end RM

/-! RX: own classes: __init__ with self held alone, C(..) as data. -/
namespace RM
open PySem PySem.Spec PyProof.Rows L2
theorem SlotsR.getS {K : PySem.W.Frag} {p : List (List Addr)} {G H : Hp} : ∀ {t : DSt} {σ : L2.St} {ow : List Addr} {i : Nat} {a : Addr} {c : Str} {ns : List Str} {fs : List D}, SlotsR K p G H t σ ow → t[i]? = some (some (.slf a c ns fs)) → ∃ dx vs, σ[i]? = some (some (.ref a)) ∧ a ∈ ow ∧ H a = some (.ins (He.ga K c) dx (ns.zip vs)) ∧ vs.length = ns.length ∧ DenL K p G fs vs
  | [], _, _, _, _, _, _, _, _, e => by simp at e
  | _ :: _, _, _, 0, a, c, ns, fs, ⟨v, r, l, m, h1, h2, h3, h4⟩, e => by
    simp at e; subst e
    obtain ⟨dx, vs, e1, e2, e3, e4, e5⟩ := h3
    exact ⟨dx, vs, by rw [h1, e2]; rfl, by rw [h2, e1]; simp, e3, e4, e5⟩
  | _ :: _, _, _, i + 1, a, c, ns, fs, ⟨v, r, l, m, h1, h2, h3, h4⟩, e => by
    obtain ⟨dx, vs, e1, e2, e3, e4, e5⟩ := SlotsR.getS (i := i) h4 (by simpa using e)
    exact ⟨dx, vs, by rw [h1]; simpa using e1, by rw [h2]; exact List.mem_append_right _ e2, e3, e4, e5⟩
theorem SlotsR.putS {K : PySem.W.Frag} {p : List (List Addr)} {G H H' : Hp} {a dx : Addr} {c : Str} {ns' : List Str} {fs' : List D} {us : List V} (hk : ∀ b, b ≠ a → H' b = H b) (ha : H' a = some (.ins (He.ga K c) dx (ns'.zip us))) (hl : us.length = ns'.length) (dn : DenL K p G fs' us) : ∀ {t : DSt} {σ : L2.St} {ow : List Addr} {i : Nat} {ns : List Str} {fs : List D},
    SlotsR K p G H t σ ow → ow.Nodup → t[i]? = some (some (.slf a c ns fs)) → SlotsR K p G H' (t.set i (some (.slf a c ns' fs'))) σ ow
  | [], _, _, _, _, _, _, _, e => by simp at e
  | _ :: _, _, _, 0, ns, fs, ⟨v, r, l, m, h1, h2, h3, h4⟩, nd, e => by
    simp at e; subst e
    obtain ⟨dx0, vs, e1, e2, e3, e4, e5⟩ := h3
    subst e1
    rw [h2] at nd
    refine ⟨v, r, [a], m, h1, h2, ⟨dx, us, rfl, e2, ha, hl, dn⟩, SlotsR.mono ⟨[], by simp⟩ (Same.refl _) (fun b hb => hk b ?_) h4⟩
    rintro rfl
    simp at nd
    exact nd.1 hb
  | s :: _, _, _, i + 1, ns, fs, ⟨v, r, l, m, h1, h2, h3, h4⟩, nd, e => by
    rw [h2] at nd
    have nd2 := (List.nodup_append.mp nd).2.1
    obtain ⟨dx2, vs, q1, q2, q3, q4, q5⟩ := SlotsR.getS (i := i) h4 (by simpa using e)
    refine ⟨v, r, l, m, h1, h2, SlotR.mono ⟨[], by simp⟩ (Same.refl _) (fun b hb => hk b ?_) h3, SlotsR.putS hk ha hl dn (i := i) h4 nd2 (by simpa using e)⟩
    rintro rfl
    exact (List.nodup_append.mp nd).2.2 b hb b q2 rfl
theorem RelF.putS {K : PySem.W.Frag} {n : Snap} {p : List (List Addr)} {G H : Hp} {S : Sto} {t : DSt} {σ : L2.St} {ow : List Addr} {i : Nat} {c : Str} {ns ns' : List Str} {fs fs' : List D} {a dx : Addr} {us : List V} (r : RelF K n p G S H t σ ow) (e : t[i]? = some (some (.slf a c ns fs))) (ha : a ∈ ow) (hl : us.length = ns'.length) (dn : DenL K p G fs' us) :
    RelF K n p G S (upd H a (.ins (He.ga K c) dx (ns'.zip us))) (t.set i (some (.slf a c ns' fs'))) σ ow := by
  have ga := r.rs.gn a ha
  have pa : a ∉ p.flatten := fun z => (List.nodup_append.mp r.rs.nd).2.2 a z a ha rfl
  have h0 := r.own a ha
  refine ⟨⟨r.rs.rel.own _ pa ga, SlotsR.putS (fun b hb => upd_ne hb) upd_same hl dn r.rs.sl (List.nodup_append.mp r.rs.nd).2.1 e, r.rs.nd, r.rs.gn⟩, ⟨r.ext.g, r.ext.gn, fun b o e1 e2 => ?_, fun b e1 => ?_, r.ext.p⟩, r.own, r.fp, r.fg⟩
  · rw [upd_ne (ne_of_none e1 h0)]
    exact r.ext.h b o e1 e2
  · by_cases q : b = a
    · subst q; rw [upd_same]; simp
    · rw [upd_ne q]; exact r.ext.d b e1
section
variable {α : Type} {X : Cx} {W : Wf} {g : DSt} {I : IC α} {e : Expr} {rest : List Stmt} {pos pos' px : Pos} {me : M D} {tab : List (Str × Str)}
/-- self.f = e -/
theorem xs_fldS (i : Nat) {x : Str} {a : Addr} {c f : Str} {ns : List Str} {fs : List D} {k : D → M α} (T : FldT X.K tab) (hg : g[i]? = some (some (.slf a c ns fs)) := by rfl) (hN : X.N[i]? = some x := by rfl) (he : XE X W.x g e me) (hk : ∀ v, XS X W (g.set i (some (.slf a c (ns ++ [f]) (fs ++ [v])))) I rest (k v)) (hz : decide ((c, f) ∈ tab ∧ f ∉ ns ∧ ns.length < 1000) = true := by decide +kernel)
    (hv : Vis X.env.scope x := by first | exact Or.inl rfl | exact Or.inr (Or.inl rfl) | exact Or.inr (Or.inr rfl)) (hd : (x == ("__debug__" : Str)) = false := by decide) (hcd : (x == ("__classdict__" : Str)) = false := by decide) (hs : swapsWith e (some (.Attribute (.Name x px) f pos')) pos.line X.env = pure false := by rfl) :
    XS X W g I (.Assign [.Attribute (.Name x px) f pos'] e pos :: rest) (B me k) := by
  obtain ⟨z1, z2, z3⟩ := of_decide_eq_true hz
  refine PSs.imp (pss_cons (ps_fld (pe_var hN hv hd hcd) he hs) (fam hk)) fun E σ H ⟨n, p, G, S, ow, r, h⟩ => ?_
  refine ⟨p, G, S, ow, r.rs, okG.seq h r fun y S1 v p1 G1 H1 ey dy r1 x1 h1 => ?_⟩
  obtain ⟨dx, vs, e1, e2, e3, e4, e5⟩ := r1.rs.sl.getS hg
  refine ⟨.ref a, e1, a, _, dx, _, rfl, e3, T.cl _ z1, T.na _ z1, ?_, ?_⟩
  · rw [List.length_zip, e4, Nat.min_self]; exact z3
  · rw [putF_new z2 e4]
    exact ⟨y, n, p1, G1, S1, ow, r1.putS hg e2 (by rw [List.length_append, List.length_append, e4]; rfl) (e5.append (DenL.one dy)), h1⟩
end
/-- __init__ falls off: the instance -/
def IK (a : Addr) (c : Str) : IC D := fun d k => ∃ t ns fs, k = .nx t ∧ d = .ins c ns fs ∧ t[0]? = some (some (.slf a c ns fs))
theorem xs_made {X : Cx} {W : Wf} {g : DSt} {a : Addr} {c : Str} {ns : List Str} {fs : List D} (hg : g[0]? = some (some (.slf a c ns fs)) := by rfl) : XS X W g (IK a c) [] (pure (.ins c ns fs)) := xs_nil ⟨g, ns, fs, rfl, rfl, hg⟩
def startI (n : Nat) (a : Addr) (c : Str) (ds : List D) : DSt := some (.slf a c [] []) :: (ds.map (fun d => some (.val d)) ++ List.replicate (n - 1 - ds.length) none)
def okI (K : PySem.W.Frag) (c : Str) (x : Addr) (p : List (List Addr)) (G H : Hp) (W : Value → Option Addr → Hp → Prop) (r : Res D) (Q : VK) : Prop := match r with
  | .ok (.ins c' ns fs) S' => c' = c ∧ ∀ dx vs p' G' H', H' x = some (.ins (He.ga K c) dx (ns.zip vs)) → vs.length = ns.length → DenL K p' G' fs vs → G' x = none → x ∉ p'.flatten → Rel0 K p' S' G' H' → Ext p G H p' G' H' → Q .non H'
  | .ok _ _ => False
  | .exc e S' => ∀ cls dd p' G' H', ExcAt K p' G' e cls dd → Rel0 K p' S' G' H' → Ext p G H p' G' H' → W cls dd H'
  | .stuck => False
/-- the promise of an __init__ -/
def spI (K : PySem.W.Frag) (c : Str) (n : Nat) (gf : List D → M D) : Sp := fun vs H Q E => ∃ x dx us ds p G S H0, vs = .ref x :: us ∧ ds.length + 1 = n ∧ H0 x = none ∧ H0 dx = none ∧ dx ≠ x ∧ H = upd (upd H0 dx (.own x)) x (.ins (He.ga K c) dx []) ∧ DenL K p G ds us ∧ Rel0 K p S G H0 ∧ okI K c x p G H0 E (gf ds S) Q
abbrev FnI (P : Program) (w : World) (K : PySem.W.Frag) (mg : Str → Option Value) (base : Heap) (k : Nat) (c : Str) (f : Addr) (fd : FuncData) (ps : List Str) (gf : List D → M D) : Prop := FnG P w K mg base k f fd ps (spI K c ps.length gf)
section
variable {P : Program} {w : World} {K : PySem.W.Frag} {mg : Str → Option Value} {base : Heap} {x qual : Str} {params : Arguments} {body : List Stmt} {scope : Scope} {dvs : List V} {kws : List (Str × V)} {f : Addr} {fd : FuncData}
theorem fnI_of {N ps : List Str} {k : Nat} {c : Str} {gf : List D → M D} (hN : 0 < N.length) (F : FunD K x qual params body scope dvs kws f fd) (S : FnScope N ps scope)
    (hb : ∀ (cdv : Value) (A : Around) (fr : List Env) (s : Shared) (H : Hp) (E : L2.XK), BodyX (cxOf (L2.CX P w) P w K mg base N qual scope f cdv A fr s H E) k E → ∀ (a : Addr) (ds : List D), ds.length + 1 = ps.length → XS (cxOf (L2.CX P w) P w K mg base N qual scope f cdv A fr s H E) E (startI N.length a c ds) (IK a c) body (gf ds)) : FnI P w K mg base (k + 1) c f fd ps gf := by
  refine fnG_of F S (fun vs H Q E h => ?_) fun cdv A fr s H vs Q E hG hr h => ?_
  · obtain ⟨_, _, us, ds, _, _, _, _, rfl, e, _, _, _, _, dn, _⟩ := h
    rw [List.length_cons, dn.length, e]
  obtain ⟨x, dx, us, ds, p, G, St, H0, rfl, e, hx, hdx, ne, rfl, dn, r, h⟩ := h
  refine ⟨_, hb cdv A fr s _ E ⟨hr, hG, takes_of rfl rfl rfl rfl, passes_of rfl, rfl⟩ x ds e, ?_⟩
  have gx := r.gfree hx
  have px : x ∉ p.flatten := fun z => r.dom z hx
  have pd : dx ∉ p.flatten := fun z => r.dom z hdx
  have gd := r.gfree hdx
  have far : ∀ b o, H0 b = some o → upd (upd H0 dx (.own x)) x (.ins (He.ga K c) dx []) b = some o := fun b o q => by
    rw [upd_ne (ne_of_none q hx), upd_ne (ne_of_none q hdx)]; exact q
  have rr := (r.own (.own x) pd gd).own (.ins (He.ga K c) dx []) px gx
  refine ⟨⟨p, G, H0, p, G⟩, p, G, St, [x], ⟨⟨rr, ?_, ?_, ?_⟩, ⟨Same.refl _, fun _ q _ => q, fun b o q _ => far b o q, fun b q => ?_, [], by simp, by simp⟩, ?_, ⟨[], by simp⟩, Same.refl _⟩, ?_⟩
  · have hl : us.length = ds.length := dn.length
    have es : L2.start N (.ref x :: us) = some (.ref x) :: (us.map some ++ List.replicate (N.length - 1 - ds.length) none) := by
      unfold L2.start
      rw [List.map_cons, List.length_cons, hl, Nat.sub_sub, Nat.add_comm 1]
      rfl
    rw [es]
    exact ⟨some (.ref x), _, [x], [], rfl, rfl, ⟨dx, [], rfl, rfl, upd_same, rfl, DenL.nil⟩, slots_start dn⟩
  · rw [List.nodup_append]
    exact ⟨r.nd, by simp, fun a ha b hb hab => by simp at hb; rw [hab, hb] at ha; exact px ha⟩
  · intro a ha; simp at ha; rw [ha]; exact gx
  · cases q2 : H0 b with
    | none => exact absurd q2 q
    | some o => rw [far b o q2]; simp
  · intro a ha; simp at ha; rw [ha]; exact hx
  · cases em : gf ds St with
    | stuck => rw [em] at h; exact h
    | exc z S' => rw [em] at h; exact h
    | ok d S' =>
      rw [em] at h
      rintro cc ⟨t, ns, fs, rfl, rfl, ht⟩
      obtain ⟨_, h⟩ := h
      intro p' G' H' σ' ow' r'
      obtain ⟨dx2, vs, e1, e2, e3, e4, e5⟩ := r'.rs.sl.getS ht
      exact h dx2 vs p' G' H' e3 e4 e5 (r'.rs.gn x e2) (fun z => (List.nodup_append.mp r'.rs.nd).2.2 x z x e2 rfl) r'.rs.rel r'.ext
end
/-- C(..): the instance is frozen -/
theorem okI.of {K : PySem.W.Frag} {c : Str} {x : Addr} {p : List (List Addr)} {G H : Hp} {W : Value → Option Addr → Hp → Prop} {r : Res D} {Q : VK} (hx : H x = none) (hr : ∀ d S', r = .ok d S' → ∃ ns fs, d = .ins c ns fs) (h : okR (Den K) K p G H W r Q) : okI K c x p G H W r (fun v H2 => v = .non ∧ Q (.ref x) H2) := by
  cases r with
  | stuck => exact h
  | exc e S' => exact h
  | ok d S' =>
    obtain ⟨ns, fs, rfl⟩ := hr d S' rfl
    refine ⟨rfl, fun dx vs p' G' H' k1 k2 k3 gx px r' x' => ⟨rfl, ?_⟩⟩
    have sm : Same G' (upd G' x (.ins (He.ga K c) dx (ns.zip vs))) := Same.upd_of gx
    refine h (.ref x) p' (upd G' x (.ins (He.ga K c) dx (ns.zip vs))) H' ⟨x, dx, vs, rfl, upd_same, k2, k3.upd gx⟩ ⟨fun b o e => ?_, r'.len, fun i as o e1 e2 => (r'.mo i as o e1 e2).ice sm, r'.nd, fun b hb => ?_⟩ ⟨x'.g.trans sm, fun b hb1 hb2 => ?_, x'.h, x'.d, x'.p⟩
    · by_cases q : b = x
      · subst q; rw [upd_same] at e; cases e; exact k1
      · rw [upd_ne q] at e; exact r'.sub b o e
    · have : b ≠ x := by rintro rfl; exact px hb
      rw [upd_ne this]; exact r'.gn b hb
    · have : b ≠ x := by rintro rfl; exact hb2 hx
      rw [upd_ne this]; exact x'.gn b hb1 hb2
/-- whatever comes back is an instance of c -/
def MkC (c : Str) (gf : List D → M D) : Prop := ∀ ds S d S', gf ds S = .ok d S' → ∃ ns fs, d = .ins c ns fs
/-- only instances of c -/
def onlyC (c : Str) (m : M D) : M D := fun S => match m S with
  | .ok (.ins c' ns fs) S' => if c' = c then .ok (.ins c' ns fs) S' else .stuck
  | .ok _ _ => .stuck
  | r => r
section
variable {X : Cx} {W : WX} {g : DSt} {a : Expr} {es : List Expr} {kw : List Keyword} {ms : List (M D)} {pos p : Pos} {k : Nat} {f : Addr} {fd : FuncData} {ps ks : List Str} {gf : List D → M D} {dvs : List V} {ds : List Value} {dds : List D}
theorem xe_make (c : Str) (M : Mk X.K (He.ga X.K c) f) (F : FnI X.prog X.w X.K X.mg X.base k c f fd ps gf) (hM : MkC c gf) (hr : Room (k + 1) X.A) (hG : X.A.guards = some []) (tk : Takes X W) (hg : Gl X c) (hm : X.mg c = some (.ref (He.ga X.K c))) (hb : Binds X.K fd ps ds) (hd : Vals dvs ds) (hdd : ∀ q G, DenL X.K q G dds dvs)
    (ha : XA X W g (a :: es) ms) (hl : ms.length + dds.length + 1 = ps.length := by rfl) (hdb : (c == ("__debug__" : Str)) = false := by decide) (he : starEach (a :: es) X.env = (false, eval a X.env) :: starEach es X.env := by rfl) (hpl : (backTo pos (starEach es X.env)).any (·.1) = false := by rfl) :
    XE X W g (.Call (.Name c p) (a :: es) [] pos) (argsB ms fun xs => gf (xs ++ dds)) := by
  rw [argsB_congr ms (F := fun xs => gf (xs ++ dds)) (F' := fun xs => if xs.length = ms.length then gf (xs ++ dds) else stuck) fun xs e => (if_pos e).symm, argsB_eq]
  refine ⟨fun pins s σ H Q I ⟨q, G, S, ow, r, h⟩ => ?_⟩
  refine wpAny_Call_Name_kw (ld_glob I hg hm (PySem.W.callWith_K (h₀ := X.base) I.ok.mod.kin M.kp ?_ he hpl) hdb)
  refine thn (ha.run pos pins s σ H (fun vs H1 => (vs ++ dvs).length + 1 = ps.length ∧ ∀ x dx, H1 x = none → H1 dx = none → dx ≠ x → spI X.K c ps.length gf (.ref x :: (vs ++ dvs)) (upd (upd H1 dx (.own x)) x (.ins (He.ga X.K c) dx [])) (fun v H2 => v = .non ∧ Q (.ref x) H2) fun c d H' => W c d σ H') I ⟨q, G, S, ow, r, okR.seq h fun d S1 v p1 G1 H1 e1 dn r1 x1 h1 => ?_⟩) fun us s1 ⟨vs, H1, I1, rv, l1, q1⟩ => ⟨I1.kIn, ?_⟩
  · have dn2 := dn.append (hdd p1 G1)
    by_cases hz : d.length = ms.length
    · rw [if_pos hz] at h1
      have hz2 : (d ++ dds).length + 1 = ps.length := by rw [List.length_append, hz, hl]
      refine ⟨by rw [dn2.length]; exact hz2, fun x dx hx hdx ne => ?_⟩
      exact ⟨x, dx, _, d ++ dds, p1, G1, S1, H1, rfl, hz2, hx, hdx, ne, rfl, dn2, r1, okI.of hx (fun d2 S2 e2 => hM _ _ _ _ e2) h1⟩
    · rw [if_neg hz] at h1
      exact h1.elim
  · have r2 := rv.append hd
    refine make_G (zs := us ++ ds) M F hr hG tk I1 (fun s2 u kin => hb s2 (u :: us) kin ?_) r2 q1
    rw [List.cons_append, List.length_cons, ← r2.length]
    exact l1
end
theorem onlyC_ok {c : Str} {m : M D} {S S' : Sto} {d : D} (h : onlyC c m S = .ok d S') : ∃ ns fs, d = .ins c ns fs := by
  unfold onlyC at h
  cases e : m S with
  | stuck => rw [e] at h; cases h
  | exc _ _ => rw [e] at h; cases h
  | ok d2 S2 =>
    rw [e] at h
    cases d2 <;> try cases h
    rename_i c' ns fs
    dsimp only at h
    by_cases q : c' = c
    · rw [if_pos q] at h
      cases h
      exact ⟨ns, fs, by rw [q]⟩
    · rw [if_neg q] at h; cases h
@[simp] theorem onlyC_ins (c : Str) (ns : List Str) (fs : List D) : onlyC c (pure (.ins c ns fs)) = pure (.ins c ns fs) := by
  funext S; exact if_pos rfl
@[simp] theorem onlyC_raise (c : Str) (e : Exc) : onlyC c (raise e) = raise e := Eq.trans rfl rfl
@[simp] theorem onlyC_stuck (c : Str) : onlyC c stuck = stuck := Eq.trans rfl rfl
theorem XS.only {X : Cx} {W : Wf} {g : DSt} {a : Addr} {c : Str} {body : List Stmt} {m : M D} (h : XS X W g (IK a c) body m) : XS X W g (IK a c) body (onlyC c m) := PSs.imp h fun E σ H ⟨n, p, G, S, ow, r, q⟩ => by
  refine ⟨n, p, G, S, ow, r, ?_⟩
  unfold onlyC at q
  cases em : m S with
  | stuck => rw [em] at q; exact q
  | exc _ _ => rw [em] at q; exact q
  | ok d S1 =>
    rw [em] at q
    rintro k ⟨t, ns, fs, rfl, rfl, ht⟩
    dsimp only at q
    rw [if_pos rfl] at q
    exact q (.nx t) ⟨t, ns, fs, rfl, rfl, ht⟩
theorem mk0 {c : Str} {f m : M D} (h : f = onlyC c m) : MkC c (l0 f) := fun ds S d S' e => match ds, e with
  | [], e => onlyC_ok (by rw [← h]; exact e)
  | _ :: _, e => by cases e
theorem mk1 {c : Str} {f m : D → M D} (h : ∀ a, f a = onlyC c (m a)) : MkC c (l1 f) := fun ds S d S' e => match ds, e with
  | [a], e => onlyC_ok (by rw [← h]; exact e)
  | [], e => by cases e
  | _ :: _ :: _, e => by cases e
theorem mk2 {c : Str} {f m : D → D → M D} (h : ∀ a b, f a b = onlyC c (m a b)) : MkC c (l2 f) := fun ds S d S' e => match ds, e with
  | [a, b], e => onlyC_ok (by rw [← h]; exact e)
  | [], e => by cases e
  | [_], e => by cases e
  | _ :: _ :: _ :: _, e => by cases e
theorem mk3 {c : Str} {f m : D → D → D → M D} (h : ∀ a b x, f a b x = onlyC c (m a b x)) : MkC c (l3 f) := fun ds S d S' e => match ds, e with
  | [a, b, x], e => onlyC_ok (by rw [← h]; exact e)
  | [], e => by cases e
  | [_], e => by cases e
  | [_, _], e => by cases e
  | _ :: _ :: _ :: _ :: _, e => by cases e
theorem mk4 {c : Str} {f m : D → D → D → D → M D} (h : ∀ a b x y, f a b x y = onlyC c (m a b x y)) : MkC c (l4 f) := fun ds S d S' e => match ds, e with
  | [a, b, x, y], e => onlyC_ok (by rw [← h]; exact e)
  | [], e => by cases e
  | [_], e => by cases e
  | [_, _], e => by cases e
  | [_, _, _], e => by cases e
  | _ :: _ :: _ :: _ :: _ :: _, e => by cases e
/-- an own __init__ with its promise -/
structure OwnI (P : Program) (w : World) (K : PySem.W.Frag) (mg : Str → Option Value) (base : Heap) (k : Nat) (c : Str) (f : Addr) (fd : FuncData) (ps : List Str) (gf : List D → M D) : Prop where
  fn : FnI P w K mg base k c f fd ps gf
  mkc : MkC c gf
section
variable {X : Cx} {W : WX} {g : DSt} {kw : List Keyword} {ms : List (M D)} {pos p : Pos} {k : Nat} {f : Addr} {fd : FuncData} {ps ks : List Str} {gf : List D → M D} {dvs : List V} {ds : List Value} {dds : List D}
theorem xe_make0 (c : Str) (M : Mk X.K (He.ga X.K c) f) (F : FnI X.prog X.w X.K X.mg X.base k c f fd ps gf) (hM : MkC c gf) (hr : Room (k + 1) X.A) (hG : X.A.guards = some []) (tk : Takes X W) (hg : Gl X c) (hm : X.mg c = some (.ref (He.ga X.K c))) (hb : Binds X.K fd ps ds) (hd : Vals dvs ds) (hdd : ∀ q G, DenL X.K q G dds dvs)
    (hl : dds.length + 1 = ps.length := by rfl) (hdb : (c == ("__debug__" : Str)) = false := by decide) :
    XE X W g (.Call (.Name c p) [] [] pos) (gf dds) := by
  refine ⟨fun pins s σ H Q I ⟨q, G, S, ow, r, h⟩ => ?_⟩
  refine wpAny_Call_Name_kw (ld_glob I hg hm (PySem.W.callWith_K0 I.kIn M.kp ?_) hdb)
  refine make_G (us := []) (zs := ds) M F hr hG tk I (fun s2 u kin => hb s2 [u] kin ?_) hd fun x dx hx hdx ne => ?_
  · have e := (hdd q G).length
    rw [List.cons_append, List.nil_append, List.length_cons, ← hd.length, e, hl]
  · exact ⟨x, dx, dvs, dds, q, G, S, H, rfl, hl, hx, hdx, ne, rfl, hdd q G, r.rel, okI.of hx (fun d2 S2 e2 => hM _ _ _ _ e2) h⟩
end
end RM

/-! RX: methods and properties of own classes. -/
namespace RM
open PySem PySem.Spec PyProof.Rows L2
/-! ### the head's facts of properties -/
structure PrD where
  cls : Str
  prop : Str
  d : He.DefD
def pAd (K : PySem.W.Frag) (c p : Str) : Addr := match PySem.W.recIn K (He.ma K (He.ga K c) p) "property" with
  | some (.ref a :: _) => a
  | _ => 0
def fnWA (K : PySem.W.Frag) (a : Addr) : He.FnW := match K.lookup a with
  | some ⟨_, _, .func fd, _⟩ => some (fd.name, fd.qualname, fd.params, fd.body, fd.scope, fd.globals, fd.closure, fd.builtins)
  | _ => none
def PrD.ok (K : PySem.W.Frag) (q : PrD) : Bool :=
  He.eqO (PySem.W.findIn K (.ref (He.ga K q.cls)) q.prop) (some (some (.ref (He.ma K (He.ga K q.cls) q.prop)))) &&
  (He.eqO (PySem.W.specialIn K (.ref (He.ma K (He.ga K q.cls) q.prop)) "__get__") (some (some (.builtin "property.__get__"))) &&
  (decide (PySem.W.takesIn K (.ref (He.ma K (He.ga K q.cls) q.prop)) = some true) &&
  ((match PySem.W.recIn K (He.ma K (He.ga K q.cls) q.prop) "property" with
    | some (.ref _ :: _) => true
    | _ => false) &&
  (PySem.W.keepIn K (.ref (pAd K q.cls q.prop)) && (match K.lookup (pAd K q.cls q.prop) with
    | some ⟨_, _, .func fd, _⟩ => PySem.W.codeIn K fd.code q.d.qual && (He.dflB K fd.defaults (q.d.dvs K) && He.kwdB K fd.kwdefaults (q.d.kws K))
    | _ => false)))))
theorem PrD.prop_ {K : PySem.W.Frag} {q : PrD} (c : q.ok K = true) : PropOf K (He.ga K q.cls) q.prop (He.ma K (He.ga K q.cls) q.prop) (pAd K q.cls q.prop) := by
  obtain ⟨h1, c⟩ := He.ba c
  obtain ⟨h2, c⟩ := He.ba c
  obtain ⟨h3, c⟩ := He.ba c
  obtain ⟨h4, c⟩ := He.ba c
  refine ⟨He.eqO_ok h1, He.eqO_ok h2, of_decide_eq_true h3, ?_⟩
  unfold pAd
  split at h4
  · rename_i a rest e
    rw [e]
    exact ⟨rest, rfl⟩
  · cases h4
theorem PrD.funD {K : PySem.W.Frag} {q : PrD} (e : fnWA K (pAd K q.cls q.prop) = q.d.val) (c : q.ok K = true) : ∃ fd, FunD K q.d.name q.d.qual q.d.params q.d.body q.d.scope (q.d.dvs K) (q.d.kws K) (pAd K q.cls q.prop) fd := by
  obtain ⟨_, c⟩ := He.ba c
  obtain ⟨_, c⟩ := He.ba c
  obtain ⟨_, c⟩ := He.ba c
  obtain ⟨_, c⟩ := He.ba c
  obtain ⟨kp, c2⟩ := He.ba c
  unfold fnWA at e
  generalize pAd K q.cls q.prop = ad at *
  obtain ⟨_, _, d⟩ := q
  dsimp only at *
  cases z : K.lookup ad with
  | none =>
    rw [z] at c2
    cases c2
  | some o =>
    obtain ⟨oc, od, dt, osl⟩ := o
    rw [z] at c2 e
    cases dt with
    | func fd =>
      obtain ⟨n1, n2, n3, n4, n5, n6, n7, n8, n9, n10, n11, n12, n13, n14, n15⟩ := fd
      have e2 : (some (n1, n2, n3, n4, n5, n6, n7, n15) : He.FnW) = some (d.name, d.qual, d.params, .stmts d.body, d.scope, mainGlobals, [], builtinsNs) := e
      simp only [Option.some.injEq, Prod.mk.injEq] at e2
      obtain ⟨h1, h2, h3, h4, h5, h6, h7, h8⟩ := e2
      subst h1 h2 h3 h4 h5 h6 h7 h8
      have c3 : (PySem.W.codeIn K n13 d.qual && (He.dflB K n8 (d.dvs K) && He.kwdB K n9 (d.kws K))) = true := c2
      obtain ⟨k1, k2⟩ := He.ba c3
      obtain ⟨k3, k4⟩ := He.ba k2
      exact ⟨_, ⟨oc, od, n8, n9, n10, n11, n12, n13, n14, osl, rfl, z, k1, He.dflB_ok k3, He.kwdB_ok k4⟩, kp⟩
    | _ => cases c2
abbrev AlX : Type := He.AlD × Bool × List He.FnW
def obsX (fa : List He.Fa) (fn : List He.DefD) (pr : List PrD) (chk : PySem.W.Frag → Bool) (K : PySem.W.Frag) : AlX := (He.obsD fa fn K, (chk K && pr.all fun q => q.ok K), pr.map fun q => fnWA K (pAd K q.cls q.prop))
def obsXG (n : Nat) (fa : List He.Fa) (fn : List He.DefD) (pr : List PrD) (chk : PySem.W.Frag → Bool) (g : Addr → Option Obj) : AlX := obsX fa fn pr chk (He.frG g (He.asD g n))
structure SaysX (fa : List He.Fa) (fn : List He.DefD) (pr : List PrD) (chk : PySem.W.Frag → Bool) (K : PySem.W.Frag) : Prop where
  d : He.SaysD fa fn K
  c : chk K = true
  p : ∀ q ∈ pr, q.ok K = true
  w : pr.map (fun q => fnWA K (pAd K q.cls q.prop)) = pr.map fun q => q.d.val
theorem SaysX.of {fa : List He.Fa} {fn : List He.DefD} {pr : List PrD} {chk : PySem.W.Frag → Bool} {K : PySem.W.Frag} (e : obsX fa fn pr chk K = (He.valD fn, true, pr.map fun q => q.d.val)) : SaysX fa fn pr chk K := by
  have e1 := congrArg (fun z : AlX => z.1) e
  have e2 : (chk K && pr.all fun q => q.ok K) = true := congrArg (fun z : AlX => z.2.1) e
  have e3 := congrArg (fun z : AlX => z.2.2) e
  obtain ⟨h1, h2⟩ := He.ba e2
  exact ⟨e1, h1, List.all_eq_true.mp h2, e3⟩
theorem SaysX.prop_ {fa : List He.Fa} {fn : List He.DefD} {pr : List PrD} {chk : PySem.W.Frag → Bool} {K : PySem.W.Frag} (s : SaysX fa fn pr chk K) (i : Nat) {q : PrD} (h : pr[i]? = some q := by rfl) : PropOf K (He.ga K q.cls) q.prop (He.ma K (He.ga K q.cls) q.prop) (pAd K q.cls q.prop) ∧ ∃ fd, FunD K q.d.name q.d.qual q.d.params q.d.body q.d.scope (q.d.dvs K) (q.d.kws K) (pAd K q.cls q.prop) fd := by
  have c := s.p q (List.mem_of_getElem? h)
  have e : (pr.map fun q => fnWA K (pAd K q.cls q.prop))[i]? = (pr.map fun q => q.d.val)[i]? := by rw [s.w]
  rw [List.getElem?_map, List.getElem?_map, h] at e
  exact ⟨PrD.prop_ c, PrD.funD (Option.some.inj e) c⟩
def hookX (n : Nat) (fa : List He.Fa) (fn : List He.DefD) (pr : List PrD) (chk : PySem.W.Frag → Bool) : PySem.W.Hook where
  α := AlX
  obs := fun s => obsXG n fa fn pr chk s.heap.get?
  val := fun _ => (He.valD fn, true, pr.map fun q : PrD => q.d.val)
  says := fun _ h => ∃ K : PySem.W.Frag, K.In h ∧ SaysX fa fn pr chk K
  of := fun _ _ e => ⟨_, He.frG_in, SaysX.of (show obsX fa fn pr chk _ = _ from e)⟩
  keeps := fun _ _ _ ⟨K, hK, c⟩ k => ⟨K, PySem.W.Frag.In.keeps hK k, c⟩
theorem obsXG_eq {n : Nat} {fa : List He.Fa} {fn : List He.DefD} {pr : List PrD} {chk : PySem.W.Frag → Bool} {g : Addr → Option Obj} {s : Shared} (h : ∀ a, g a = s.heap.get? a) : obsXG n fa fn pr chk g = (hookX n fa fn pr chk).obs s := by
  have e : g = s.heap.get? := funext h
  rw [e] <;> rfl
/-! ### the receiver is an instance of c -/
def isC (c : Str) (d : D) : M Unit := fun S => match d with
  | .ins c' _ _ => if c' = c then .ok () S else .stuck
  | .mref i => match S[i]? with
    | some (.inst c' _ _) => if c' = c then .ok () S else .stuck
    | _ => .stuck
  | _ => .stuck
@[simp] theorem isC_ins (c : Str) (ns : List Str) (fs : List D) : isC c (.ins c ns fs) = pure () := by funext S; exact if_pos rfl
theorem isC_at {K : PySem.W.Frag} {p : List (List Addr)} {S : Sto} {G H : Hp} {c : Str} {d : D} {v : V} {S' : Sto} (dn : Den K p G d v) (r : Rel0 K p S G H) (h : isC c d S = .ok () S') : S' = S ∧ ∃ a dx fs, v = .ref a ∧ H a = some (.ins (He.ga K c) dx fs) := by
  unfold isC at h
  cases d <;> try cases h
  · rename_i c' ns fs
    dsimp only at h
    by_cases q : c' = c
    · rw [if_pos q] at h
      cases h
      obtain ⟨a, dx, vs, rfl, ha, _⟩ := dn
      rw [q] at ha
      exact ⟨rfl, a, dx, _, rfl, r.sub _ _ ha⟩
    · rw [if_neg q] at h; cases h
  · rename_i i
    dsimp only at h
    cases es : S[i]? with
    | none => rw [es] at h; cases h
    | some o =>
      rw [es] at h
      cases o with
      | tape _ => cases h
      | tab _ _ => cases h
      | inst c' ns fs =>
        dsimp only at h
        by_cases q : c' = c
        · rw [if_pos q] at h
          cases h
          obtain ⟨l, x, hp, rfl⟩ := dn
          obtain ⟨rfl, _, dx, vs, hl, _⟩ := r.inst hp es
          rw [q] at hl
          exact ⟨rfl, l, dx, _, rfl, hl⟩
        · rw [if_neg q] at h; cases h
theorem isC_st (c : Str) (d : D) (S : Sto) : isC c d S = .ok () S ∨ isC c d S = .stuck := by
  unfold isC
  split
  · split
    · exact .inl rfl
    · exact .inr rfl
  · split
    · split
      · exact .inl rfl
      · exact .inr rfl
    · exact .inr rfl
  · exact .inr rfl
def isCm (c m : Str) (d : D) : M Unit := fun S => match d with
  | .ins c' ns _ => if c' = c ∧ m ∉ ns then .ok () S else .stuck
  | .mref i => match S[i]? with
    | some (.inst c' ns _) => if c' = c ∧ m ∉ ns then .ok () S else .stuck
    | _ => .stuck
  | _ => .stuck
theorem isCm_ins {c m : Str} {ns : List Str} {fs : List D} (h : m ∉ ns) : isCm c m (.ins c ns fs) = pure () := by funext S; exact if_pos ⟨rfl, h⟩
theorem isCm_at {K : PySem.W.Frag} {p : List (List Addr)} {S : Sto} {G H : Hp} {c m : Str} {d : D} {v : V} {S' : Sto} (dn : Den K p G d v) (r : Rel0 K p S G H) (h : isCm c m d S = .ok () S') : S' = S ∧ ∃ a dx fs, v = .ref a ∧ H a = some (.ins (He.ga K c) dx fs) ∧ fs.lookup m = none := by
  unfold isCm at h
  cases d <;> try cases h
  · rename_i c' ns fs
    dsimp only at h
    by_cases q : c' = c ∧ m ∉ ns
    · rw [if_pos q] at h
      cases h
      obtain ⟨a, dx, vs, rfl, ha, _⟩ := dn
      rw [q.1] at ha
      exact ⟨rfl, a, dx, _, rfl, r.sub _ _ ha, lookup_zipNone q.2⟩
    · rw [if_neg q] at h; cases h
  · rename_i i
    dsimp only at h
    cases es : S[i]? with
    | none => rw [es] at h; cases h
    | some o =>
      rw [es] at h
      cases o with
      | tape _ => cases h
      | tab _ _ => cases h
      | inst c' ns fs =>
        dsimp only at h
        by_cases q : c' = c ∧ m ∉ ns
        · rw [if_pos q] at h
          cases h
          obtain ⟨l, x, hp, rfl⟩ := dn
          obtain ⟨rfl, _, dx, vs, hl, _⟩ := r.inst hp es
          rw [q.1] at hl
          exact ⟨rfl, l, dx, _, rfl, hl, lookup_zipNone q.2⟩
        · rw [if_neg q] at h; cases h
theorem isCm_st (c m : Str) (d : D) (S : Sto) : isCm c m d S = .ok () S ∨ isCm c m d S = .stuck := by
  unfold isCm
  split
  · split
    · exact .inl rfl
    · exact .inr rfl
  · split
    · split
      · exact .inl rfl
      · exact .inr rfl
    · exact .inr rfl
  · exact .inr rfl
/-- an own method with its promise, behind its class -/
structure OwnM (X : Cx) (k : Nat) (c m : Str) (f : Addr) (fd : FuncData) (ps : List Str) (gf : List D → M D) : Prop where
  fn : FnD X.prog X.w X.K X.mg X.base k f fd ps gf
  cl : Cls X.K (He.ga X.K c)
  me : Meth X.K (He.ga X.K c) m f
section
variable {X : Cx} {g : DSt} {o e : Expr} {es : List Expr} {mo : M D} {ms : List (M D)} {pos apos : Pos} {k : Nat} {f : Addr} {fd : FuncData} {ps : List Str} {gf : List D → M D} {dvs : List V} {ds : List Value} {dds : List D}
/-- o.p -/
theorem xe_prop (c p : Str) {W : WX} (hp : PropOf X.K (He.ga X.K c) p (He.ma X.K (He.ga X.K c) p) f) (cl : Cls X.K (He.ga X.K c)) (F : FnD X.prog X.w X.K X.mg X.base k f fd ["self"] (l1 fun d => gf [d])) (hr : Room (k + 1) X.A) (hG : X.A.guards = some []) (hb : Binds X.K fd ["self"] [])
    (he : XE X W g e mo) (hab : attributeBase e p X.env (eval e X.env) = eval e X.env := by rfl) : XE X W g (.Attribute e p pos) (B mo fun d => B (isC c d) fun _ => noE (gf [d])) := by
  refine ⟨fun pins s σ H Q I ⟨q, G, S, ow, r, h⟩ => ?_⟩
  refine attr_of hab (thn (he.run pins s σ H (fun x H1 => ∃ a dx fs, x = .ref a ∧ H1 a = some (.ins (He.ga X.K c) dx fs) ∧ spD X.K 1 (l1 fun d => gf [d]) [.ref a] H1 Q fun _ _ _ => False) I ⟨q, G, S, ow, r, okR.seq h fun d S1 v p1 G1 H1 e1 dn r1 x1 h1 => ?_⟩) fun u s1 ⟨x, H1, I1, rx, a, dx, fs, ex, ea, hq⟩ => ?_)
  · have h2 : okR (Den X.K) X.K p1 G1 H1 (fun c d H' => W c d σ H') ((isC c d S1).andThen fun _ => noE (gf [d])) Q := h1
    rcases isC_st c d S1 with z | z
    · rw [z] at h2
      obtain ⟨_, a, dx, fs, rfl, ha⟩ := isC_at dn r1 z
      exact ⟨a, dx, fs, rfl, ha, [d], p1, G1, S1, rfl, DenL.one dn, r1, okR.noE h2⟩
    · rw [z] at h2; exact h2.elim
  · subst ex
    obtain rfl : u = Value.ref a := rx
    obtain ⟨mA, O, _, _, _, _⟩ := ins_get I1.hok ea
    obtain ⟨od, J, _⟩ := O.look
    obtain ⟨rest, hrec⟩ := hp.rec_
    have I2 := I1.tok (s1.toks + 1)
    have hc : (PySem.W.clsIn X.K (He.ga X.K c)).isSome = true := by
      obtain ⟨cd, hc, _⟩ := PySem.W.any_some cl.hd
      rw [hc]
      rfl
    refine PySem.W.get_bind I1.kIn J (PySem.W.plainGet_of (cl.get p)).1 (PySem.W.findObj_data hc hp.at_ hp.get hp.tak) (PySem.W.plainGet_of (cl.get p)).2 (wpAny_call (PySem.W.prop_get (s := { s1 with toks := s1.toks + 1 }) I1.kIn hrec ?_))
    refine codeAny_mono (F.go X.A.in1 X.stack { s1 with toks := s1.toks + 1 } H1 ⟨[.ref a], []⟩ [.ref a] [.ref a] Q (fun _ _ _ => False) hG hr.in1 I2.env0.in1 (hb _ [.ref a] I2.kIn rfl) (.cons rfl .nil) hq) fun rr s' hz => ?_
    cases rr with
    | error er =>
      obtain ⟨_, _, _, _, _, _, _, _, _, _, _, _, z⟩ := hz
      exact z.elim
    | ok fl =>
      cases fl with
      | ret u =>
        obtain ⟨v, H', I3, rv, q3⟩ := I2.after hz
        show wpAny _ _ (handedOut u) _ _ _
        rw [PySem.W.handedOut_of (handed_of rv)]
        exact wpAny_pure ⟨v, H', I3, rv, q3⟩
      | next => exact False.elim hz
      | brk => exact False.elim hz
      | cont => exact False.elim hz
/-- o.m(e, ..) -/
theorem xe_meth (c m : Str) {W : WX} {pl : Sem Bool} (M : OwnM X k c m f fd ps gf) (hr : Room k X.A) (hG : X.A.guards = some []) (tk : Takes X W) (hb : Binds X.K fd ps ds) (hd : Vals dvs ds) (hdd : ∀ q G, DenL X.K q G dds dvs) (ho : XE X W g o mo) (ha : XA X W g (e :: es) ms) (hl : ms.length + dds.length + 1 = ps.length := by rfl)
    (hst : starEach (e :: es) X.env = (false, eval e X.env) :: starEach es X.env := by rfl) (hpl : (backTo pos (starEach es X.env)).any (·.1) = false := by rfl)
    (ht : eval (.Call (.Attribute o m apos) (e :: es) [] pos) X.env = (do
      let ov ← eval o X.env
      standAt apos.atName
      let (f, first) ← holding [ov] (getMethod ov m pl)
      callWith pos f first (backTo pos (starEach (e :: es) X.env)) (backToKw pos (keywordEach [] X.env))) := by rfl) :
    XE X W g (.Call (.Attribute o m apos) (e :: es) [] pos) (B mo fun d => B (isCm c m d) fun _ => argsB ms fun xs => gf (d :: (xs ++ dds))) := by
  refine ⟨fun pins s σ H Q I ⟨q, G, S, ow, r, h⟩ => ?_⟩
  refine PySem.W.methodCall_KW (pl := pl) (thn (ho.run pins s σ H (fun x H1 => ∃ a dx fs, x = .ref a ∧ H1 a = some (.ins (He.ga X.K c) dx fs) ∧ fs.lookup m = none ∧ tXA X.K W g (runA ms) σ H1 fun vs H2 => spD X.K ps.length gf (.ref a :: (vs ++ dvs)) H2 Q fun c d H' => W c d σ H') I ⟨q, G, S, ow, r, okR.seq h fun d S1 v p1 G1 H1 e1 dn r1 x1 h1 => ?_⟩) fun u s1 ⟨x, H1, I1, rx, a, dx, fs, ex, ea, hl2, hq⟩ => ?_) ht
  · have h2 : okR (Den X.K) X.K p1 G1 H1 (fun c d H' => W c d σ H') ((isCm c m d S1).andThen fun _ => argsB ms fun xs => gf (d :: (xs ++ dds))) Q := h1
    rcases isCm_st c m d S1 with z | z
    · rw [z] at h2
      obtain ⟨_, a, dx, fs, rfl, ha, hlk⟩ := isCm_at dn r1 z
      refine ⟨a, dx, fs, rfl, ha, hlk, p1, G1, S1, ow, r.ext x1 r1, ?_⟩
      have h3 : okR (Den X.K) X.K p1 G1 H1 (fun c d H' => W c d σ H') ((runA ms >>= fun xs => if xs.length = ms.length then gf (d :: (xs ++ dds)) else stuck) S1) Q := by
        rw [← argsB_eq, ← argsB_congr ms (F := fun xs => gf (d :: (xs ++ dds))) fun xs e => (if_pos e).symm]
        exact h2
      refine okR.seq h3 fun xs S2 vs p2 G2 H2 e2 dn2 r2 x2 h4 => ?_
      by_cases hz : xs.length = ms.length
      · rw [if_pos hz] at h4
        exact ⟨d :: (xs ++ dds), p2, G2, S2, by rw [List.length_cons, List.length_append, hz, hl], DenL.cons (dn.mono x2.pp x2.g) (dn2.append (hdd p2 G2)), r2, h4⟩
      · rw [if_neg hz] at h4; exact h4.elim
    · rw [z] at h2; exact h2.elim
  · subst ex
    obtain rfl : u = Value.ref a := rx
    refine getmeth_ok I1 ea M.cl M.me hl2 ?_
    refine PySem.W.callWith_K (first := [.ref a]) (h₀ := X.base) I.ok.mod.kin M.me.kp (thn (ha.run pos pins s1 σ H1 _ I1 hq) fun us s2 ⟨vs, H2, I2, rr, q2⟩ => ⟨I2.kIn, ?_⟩) hst hpl
    have r2 : Vals (.ref a :: (vs ++ dvs)) (.ref a :: (us ++ ds)) := .cons rfl (rr.append hd)
    exact call_G (us := .ref a :: us) M.fn hr hG tk I2 (hb s2 (.ref a :: us) I2.kIn (by rw [List.cons_append, ← r2.length]; exact M.fn.arity _ _ _ _ q2)) r2 q2
/-- o.m() -/
theorem xe_meth0 (c m : Str) {W : WX} {pl : Sem Bool} (M : OwnM X k c m f fd ps gf) (hr : Room k X.A) (hG : X.A.guards = some []) (tk : Takes X W) (hb : Binds X.K fd ps ds) (hd : Vals dvs ds) (hdd : ∀ q G, DenL X.K q G dds dvs) (ho : XE X W g o mo) (hl : dds.length + 1 = ps.length := by rfl)
    (ht : eval (.Call (.Attribute o m apos) [] [] pos) X.env = (do
      let ov ← eval o X.env
      standAt apos.atName
      let (f, first) ← holding [ov] (getMethod ov m pl)
      callWith pos f first (backTo pos (starEach [] X.env)) (backToKw pos (keywordEach [] X.env))) := by rfl) :
    XE X W g (.Call (.Attribute o m apos) [] [] pos) (B mo fun d => B (isCm c m d) fun _ => gf (d :: dds)) := by
  refine ⟨fun pins s σ H Q I ⟨q, G, S, ow, r, h⟩ => ?_⟩
  refine PySem.W.methodCall_KW (pl := pl) (thn (ho.run pins s σ H (fun x H1 => ∃ a dx fs, x = .ref a ∧ H1 a = some (.ins (He.ga X.K c) dx fs) ∧ fs.lookup m = none ∧ spD X.K ps.length gf (.ref a :: dvs) H1 Q fun c d H' => W c d σ H') I ⟨q, G, S, ow, r, okR.seq h fun d S1 v p1 G1 H1 e1 dn r1 x1 h1 => ?_⟩) fun u s1 ⟨x, H1, I1, rx, a, dx, fs, ex, ea, hl2, hq⟩ => ?_) ht
  · have h2 : okR (Den X.K) X.K p1 G1 H1 (fun c d H' => W c d σ H') ((isCm c m d S1).andThen fun _ => gf (d :: dds)) Q := h1
    rcases isCm_st c m d S1 with z | z
    · rw [z] at h2
      obtain ⟨_, a, dx, fs, rfl, ha, hlk⟩ := isCm_at dn r1 z
      exact ⟨a, dx, fs, rfl, ha, hlk, d :: dds, p1, G1, S1, by rw [List.length_cons, hl], DenL.cons dn (hdd p1 G1), r1, h2⟩
    · rw [z] at h2; exact h2.elim
  · subst ex
    obtain rfl : u = Value.ref a := rx
    refine getmeth_ok I1 ea M.cl M.me hl2 ?_
    have r2 : Vals (.ref a :: dvs) (.ref a :: ds) := .cons rfl hd
    refine PySem.W.callWith_K0 (first := [.ref a]) I1.kIn M.me.kp ?_
    exact call_G (us := [.ref a]) M.fn hr hG tk I1 (hb s1 [.ref a] I1.kIn (by rw [List.cons_append, List.nil_append, ← r2.length]; exact M.fn.arity _ _ _ _ hq)) r2 hq
end
end RM

/-! RX: own operators. -/
namespace RM
open PySem PySem.Spec PyProof.Rows L2
/-- the reading of a two-place operation by data -/
def rD (K : PySem.W.Frag) (V : Wf) (f : D → D → M D) : R2 := fun v u H Q => ∃ d e p G S, Den K p G d v ∧ Den K p G e u ∧ Rel0 K p S G H ∧ okR (Den K) K p G H V (f d e S) Q
def rA (K : PySem.W.Frag) (V : Wf) (f : List D → M D) : List L2.V → Hp → VK → Prop := fun vs H Q => ∃ ds p G S, DenL K p G ds vs ∧ Rel0 K p S G H ∧ okR (Den K) K p G H V (f ds S) Q
section
variable {X : Cx} {V : Wf} {g : DSt} {a b : Expr} {es : List Expr} {ma mb : M D} {ms : List (M D)} {pos p : Pos} {f : D → D → M D}
theorem tOpD {σ : L2.St} {H : Hp} {Q : VK} (h : tXE X.K V.x g (B ma fun x => B mb fun y => f x y) σ H Q) : tOp (rD X.K V f) (tXE X.K V.x g ma) (tXE X.K V.x g mb) σ H Q := by
  obtain ⟨p, G, S, ow, r, h⟩ := h
  have h : okR (Den X.K) X.K p G H (fun c d H' => V c d H') ((ma >>= fun x => mb >>= fun y => f x y) S) Q := h
  refine ⟨p, G, S, ow, r, okR.seq h fun d S1 v p1 G1 H1 e1 dn r1 x1 h1 => ?_⟩
  refine ⟨p1, G1, S1, ow, r.ext x1 r1, okR.seq h1 fun d2 S2 v2 p2 G2 H2 e2 dn2 r2 x2 h2 => ?_⟩
  exact ⟨d, d2, p2, G2, S2, dn.mono x2.pp x2.g, dn2, r2, h2⟩
theorem xe_cmpD {op : CmpOp} (ho : OpR X (compareOp op) (rD X.K V f)) (ha : XE X V.x g a ma) (hb : XE X V.x g b mb) (hm : behindInMarks op b = false) : XE X V.x g (.Compare a [op] [b] pos) (B ma fun x => B mb fun y => f x y) := PE.imp (pe_cmpR ho ha hb hm) fun _ _ _ h => tOpD h
theorem xt_cmpD {op : CmpOp} (ho : OpR X (compareOp op) (rD X.K V f)) (ha : XE X V.x g a ma) (hb : XE X V.x g b mb) (hm : behindInMarks op b = false) : XT X V.x g (.Compare a [op] [b] pos) (tst (B ma fun x => B mb fun y => f x y)) := by
  refine PT.imp (pt_cmpR ho ha hb hm) fun σ H Q ⟨p, G, S, ow, r, h⟩ => ?_
  have h : okR rB X.K p G H (fun c d H' => V c d H') (((B ma fun x => B mb fun y => f x y) >>= asB) S) Q := h
  refine tOpD ⟨p, G, S, ow, r, okR.seq h fun d S1 v p1 G1 H1 e1 dn r1 x1 h1 => ?_⟩
  cases d with
  | bl b => exact ⟨b, dn, okR.fin (d := b) h1 rfl r1⟩
  | _ => exact h1.elim
theorem xe_opD {op : Operator} (ho : OpR X (binaryOp op) (rD X.K V f)) (ha : XE X V.x g a ma) (hb : XE X V.x g b mb) : XE X V.x g (.BinOp a op b pos) (B ma fun x => B mb fun y => f x y) := PE.imp (pe_op ho ha hb) fun _ _ _ h => tOpD h
theorem xe_ixD (ho : IxR X (rD X.K V f)) (ha : XE X V.x g a ma) (hb : XE X V.x g b mb) (hs : PlainIx b) : XE X V.x g (.Subscript a b pos) (B ma fun x => B mb fun y => f x y) := PE.imp (pe_ix ho ha hb hs) fun _ _ _ h => tOpD h
theorem xe_callA {x : Str} {id : String} {fa : List D → M D} (hc : CallR X (.builtin id) (rA X.K V fa)) (hg : Gl X x) (hm : X.mg x = none) (hv : bootBuiltins x = some (.builtin id)) (ha : XA X V.x g (a :: es) ms) (hn : x ≠ "__name__" := by decide) (hdb : (x == ("__debug__" : Str)) = false := by decide)
    (he : starEach (a :: es) X.env = (false, eval a X.env) :: starEach es X.env := by rfl) (hpl : (backTo pos (starEach es X.env)).any (·.1) = false := by rfl) : XE X V.x g (.Call (.Name x p) (a :: es) [] pos) (argsB ms fa) := by
  rw [argsB_eq]
  refine PE.imp (pe_callB hc hg hm hv ha hn hdb he hpl) fun σ H Q ⟨p, G, S, ow, r, h⟩ => ?_
  exact ⟨p, G, S, ow, r, okR.seq h fun d S1 v p1 G1 H1 e1 dn r1 x1 h1 => ⟨d, p1, G1, S1, dn, r1, h1⟩⟩
end
/-! ### tables of own methods: the class, what it computes of (self, other) -/
abbrev MT := List (Str × (D → D → M D))
def AllM (X : Cx) (k : Nat) (m : Str) : MT → Prop
  | [] => True
  | q :: r => (∃ f fd ps, OwnM X k q.1 m f fd ps (l2 q.2) ∧ ps.length = 2 ∧ Binds X.K fd ps []) ∧ AllM X k m r
theorem AllM.get {X : Cx} {k : Nat} {m c : Str} {h : D → D → M D} : ∀ {T : MT}, AllM X k m T → T.lookup c = some h → ∃ f fd ps, OwnM X k c m f fd ps (l2 h) ∧ ps.length = 2 ∧ Binds X.K fd ps []
  | [], _, e => by cases e
  | q :: r, ⟨a, b⟩, e => by
    obtain ⟨c', h'⟩ := q
    rw [List.lookup_cons] at e
    cases z : c == c' with
    | true =>
      rw [z] at e
      cases e
      rw [beq_iff_eq.mp z]
      exact a
    | false =>
      rw [z] at e
      exact AllM.get b e
/-- the own method runs on (self, other) -/
theorem own_run {X : Cx} {V : Wf} {k : Nat} {c m : Str} {h : D → D → M D} {T : MT} (hT : AllM X k m T) (hl : T.lookup c = some h) (hr : Room k X.A) (hG : X.A.guards = some []) (tk : Takes X V.x) {pins : List (Addr × Obj)} {s : Shared} {σ : L2.St} {H : Hp} {d e : D} {v u : L2.V} {uu : Value} {p : List (List Addr)} {G : Hp} {S : Sto} {Q : VK} {ns : List Str} {fs : List D}
    (I : Inv X pins σ H s) (hd : d = .ins c ns fs) (dn : Den X.K p G d v) (den : Den X.K p G e u) (ru : RelV u uu) (r : Rel0 X.K p S G H) (hq : okR (Den X.K) X.K p G H V (h d e S) Q) :
    ∃ f a dx xs, v = .ref a ∧ H a = some (.ins (He.ga X.K c) dx xs) ∧ Cls X.K (He.ga X.K c) ∧ Meth X.K (He.ga X.K c) m f ∧ wpAny (model X.prog X.w) X.A (call (.ref f) [.ref a, uu]) (EP X pins σ Q) X.xe s := by
  obtain ⟨f, fd, ps, M, hps, hb⟩ := hT.get hl
  subst hd
  obtain ⟨a, dx, vs, rfl, ha, hn⟩ := id dn
  have q1 : spD X.K ps.length (l2 h) [.ref a, u] H Q fun c d H' => V.x c d σ H' := ⟨[.ins c ns fs, e], p, G, S, hps.symm, DenL.cons dn (DenL.one den), r, hq⟩
  exact ⟨f, a, dx, _, rfl, r.sub _ _ ha, M.cl, M.me, call_G (us := [.ref a, uu]) (zs := [.ref a, uu]) M.fn hr hG tk I (by
    have := hb s [.ref a, uu] I.kIn (by rw [List.append_nil]; exact hps.symm)
    rwa [List.append_nil] at this) (vs := [.ref a, u]) (.cons rfl (.cons ru .nil)) q1⟩
theorem inst_at {X : Cx} {pins : List (Addr × Obj)} {s : Shared} {σ : L2.St} {H : Hp} {a C dx : Addr} {fs : List (Str × L2.V)} (I : Inv X pins σ H s) (ea : H a = some (.ins C dx fs)) : ∃ od, PySem.W.InstAt s.heap a (PySem.W.instObj C dx) C (some od) := by
  obtain ⟨mA, O, _, _, _, _⟩ := ins_get I.hok ea
  obtain ⟨od, J, _⟩ := O.look
  exact ⟨od, J⟩
/-! ### in -/
def inX (neg : Bool) (T : MT) (d e : D) : M D := match e with
  | .ins c ns fs => match T.lookup c with
    | some h => B (h e d) fun r => B (asB r) fun b => pure (.bl (if neg then !b else b))
    | none => stuck
  | _ => inD neg d e
section
variable {X : Cx} {V : Wf} {k : Nat} {T : MT}
theorem inX_split {K : PySem.W.Frag} {p : List (List Addr)} {G H : Hp} {S : Sto} {Q : VK} {neg : Bool} {d e : D} (h : okR (Den K) K p G H V (inX neg T d e S) Q) : (∃ c ns fs m, e = .ins c ns fs ∧ T.lookup c = some m ∧ okR (Den K) K p G H V (m e d S) fun r H' => ∃ b, r = .bl b ∧ Q (.bl (if neg then !b else b)) H') ∨ okR (Den K) K p G H V (inD neg d e S) Q := by
  unfold inX at h
  cases e <;> try exact .inr h
  rename_i c ns fs
  dsimp only at h
  cases el : T.lookup c with
  | none => rw [el] at h; exact h.elim
  | some m =>
    rw [el] at h
    refine .inl ⟨c, ns, fs, m, rfl, el, ?_⟩
    have h : okR (Den K) K p G H V ((m (.ins c ns fs) d >>= fun r => asB r >>= fun b => pure (.bl (if neg then !b else b))) S) Q := h
    refine okR.seq h fun r S1 v p1 G1 H1 e1 dn r1 x1 h1 => ?_
    cases r <;> try exact h1.elim
    rename_i b
    cases (show v = .bl b from dn)
    exact ⟨b, rfl, okR.fin (d := D.bl (if neg then !b else b)) (v := L2.V.bl (if neg then !b else b)) h1 rfl r1⟩
theorem op_inX (hT : AllM X k "__contains__" T) (hr : Room k X.A) (hG : X.A.guards = some []) (tk : Takes X V.x) : OpR X (compareOp .In) (rD X.K V (inX false T)) := by
  intro pins s σ H x y v u Q I rx ry ⟨d, e, p, G, S, hd, he, r, h⟩
  rcases inX_split h with ⟨c, ns, fs, m, rfl, hl, h2⟩ | h2
  · obtain ⟨f, a, dx, xs, rfl, ha, _, me, run⟩ := own_run hT hl hr hG tk I rfl he hd rx r h2
    obtain rfl : u = Value.ref a := ry
    obtain ⟨od, J⟩ := inst_at I ha
    obtain ⟨mm, F⟩ := I.fr
    refine PySem.W.in_K F I.mod.kin J me.at_ me.fn (wpAny_mono run (fun rv s1 hz => ?_) fun _ _ z => z)
    obtain ⟨z, H1, I1, rz, b, rfl, q⟩ := hz
    cases (show rv = Value.bool b from rz)
    exact wpAny_truthy_bool ⟨.bl b, H1, I1, rfl, q⟩
  · exact op_inA pins s σ H x y v u Q I rx ry (by_in false d e x y p G H S V Q hd he r h2)
theorem op_notInX (hT : AllM X k "__contains__" T) (hr : Room k X.A) (hG : X.A.guards = some []) (tk : Takes X V.x) : OpR X (compareOp .NotIn) (rD X.K V (inX true T)) := by
  intro pins s σ H x y v u Q I rx ry ⟨d, e, p, G, S, hd, he, r, h⟩
  rcases inX_split h with ⟨c, ns, fs, m, rfl, hl, h2⟩ | h2
  · obtain ⟨f, a, dx, xs, rfl, ha, _, me, run⟩ := own_run hT hl hr hG tk I rfl he hd rx r h2
    obtain rfl : u = Value.ref a := ry
    obtain ⟨od, J⟩ := inst_at I ha
    obtain ⟨mm, F⟩ := I.fr
    refine PySem.W.notIn_K F I.mod.kin J me.at_ me.fn (wpAny_mono run (fun rv s1 hz => ?_) fun _ _ z => z)
    obtain ⟨z, H1, I1, rz, b, rfl, q⟩ := hz
    cases (show rv = Value.bool b from rz)
    exact wpAny_truthy_bool ⟨.bl (!b), H1, I1, rfl, q⟩
  · exact op_notInA pins s σ H x y v u Q I rx ry (by_in true d e x y p G H S V Q hd he r h2)
end
end RM

/-! RK: calls with keywords: functions, constructors, methods. -/
namespace RM
open PySem PySem.Spec PyProof.Rows L2
/-- an arrangement by places -/
def pick {α : Type} : List Nat → List α → List α
  | [], _ => []
  | i :: is, xs => (xs[i]?).elim (pick is xs) fun x => x :: pick is xs
@[simp] theorem pick_nil {α : Type} (xs : List α) : pick [] xs = [] := Eq.trans rfl rfl
@[simp] theorem pick_cons {α : Type} (i : Nat) (is : List Nat) (xs : List α) : pick (i :: is) xs = (xs[i]?).elim (pick is xs) fun x => x :: pick is xs := Eq.trans rfl rfl
theorem pick_length {α : Type} : ∀ (is : List Nat) (xs : List α), (∀ i ∈ is, i < xs.length) → (pick is xs).length = is.length
  | [], _, _ => rfl
  | i :: is, xs, h => by
    rw [pick_cons, List.getElem?_eq_getElem (h i (by simp))]
    show (_ :: pick is xs).length = _
    rw [List.length_cons, List.length_cons, pick_length is xs fun j hj => h j (by simp [hj])]
theorem pick_vals : ∀ (is : List Nat) {vs : List V} {us : List Value}, Vals vs us → Vals (pick is vs) (pick is us)
  | [], _, _, _ => .nil
  | i :: is, vs, us, r => by
    rw [pick_cons, pick_cons]
    cases e : vs[i]? with
    | none => rw [r.none_of e]; exact pick_vals is r
    | some v =>
      obtain ⟨u, e2, rv⟩ := r.get e
      rw [e2]
      exact .cons rv (pick_vals is r)
theorem pick_den {K : PySem.W.Frag} {q : List (List Addr)} {G : Hp} : ∀ (is : List Nat) {ds : List D} {vs : List V}, DenL K q G ds vs → DenL K q G (pick is ds) (pick is vs)
  | [], _, _, _ => DenL.nil
  | i :: is, ds, vs, r => by
    rw [pick_cons, pick_cons]
    cases e : ds[i]? with
    | none =>
      have e2 : vs[i]? = none := by
        rw [List.getElem?_eq_none_iff] at e ⊢
        rw [r.length]; exact e
      rw [e2]; exact pick_den is r
    | some d =>
      obtain ⟨v, e2, dv⟩ := r.get e
      rw [e2]
      exact DenL.cons dv (pick_den is r)
theorem pick_shift {α : Type} (u : α) (xs : List α) : ∀ is : List Nat, pick (is.map (· + 1)) (u :: xs) = pick is xs
  | [] => rfl
  | i :: is => by
    rw [List.map_cons, pick_cons, pick_cons, List.getElem?_cons_succ, pick_shift u xs is]
/-- how a call with n values and the keywords ks comes to the parameters -/
def KwP (K : PySem.W.Frag) (fd : FuncData) (ps ks : List Str) (n : Nat) (is : List Nat) (ds : List Value) : Prop :=
  ∀ (s : Shared) (us ws : List Value), K.In s.heap → us.length = n → ws.length = ks.length → BindsTo s fd ⟨us, ks.zip ws⟩ (ps.zip (pick is (us ++ ws ++ ds)))
section
variable {K : PySem.W.Frag} {x qual : Str} {params : Arguments} {body : List Stmt} {scope : Scope} {dvs : List V} {kws : List (Str × V)} {f : Addr} {fd : FuncData} {ps : List Str}
theorem kwpN (F : FunD K x qual params body scope [] kws f fd) (n : Nat) (ks : List Str) (is : List Nat)
    (h : ∀ (kV doc pm : Value) (an : Option Addr) (cdv ct : Value) (us ws : List Value), us.length = n → ws.length = ks.length → bindArgs (PySem.W.fnOf x qual params body scope .none kV doc pm an cdv ct) ⟨us, ks.zip ws⟩ = pure (ps.zip (pick is (us ++ ws ++ [])))) : KwP K fd ps ks n is [] := by
  intro s us ws _ h1 h2
  obtain ⟨oc, od, dV, kV, doc, pm, an, cdv, ct, osl, rfl, lk, hcd, hD, hK⟩ := F.ex
  rcases hD with ⟨_, rfl⟩ | ⟨e, _⟩
  · exact .of_eq (h kV doc pm an cdv ct us ws h1 h2)
  · exact absurd rfl e
theorem kwpD (F : FunD K x qual params body scope dvs kws f fd) (n : Nat) (ks : List Str) (is : List Nat) (hd : dvs ≠ [])
    (h : ∀ (T : Addr) (kV doc pm : Value) (an : Option Addr) (cdv ct : Value) (us its ws : List Value), us.length = n → its.length = dvs.length → ws.length = ks.length →
      ∃ k, bindArgs (PySem.W.fnOf x qual params body scope (.ref T) kV doc pm an cdv ct) ⟨us, ks.zip ws⟩ = seqItems? (.ref T) >>= k ∧ k (some its.toArray) = pure (ps.zip (pick is (us ++ ws ++ its)))) :
    ∃ ds : List Value, Vals dvs ds ∧ KwP K fd ps ks n is ds := by
  obtain ⟨oc, od, dV, kV, doc, pm, an, cdv, ct, osl, rfl, lk, hcd, hD, hK⟩ := F.ex
  rcases hD with ⟨e, _⟩ | ⟨_, T, o, its, m, rfl, lT, oT, rT⟩
  · exact absurd e hd
  · refine ⟨its, rT, fun s us ws X l1 l2 => ?_⟩
    obtain ⟨k, e1, e2⟩ := h T kV doc pm an cdv ct us its ws l1 rT.length.symm l2
    refine BindsTo.of_looks fun M => ?_
    rw [e1]
    exact looks_items X lT oT (.of_pure e2)
end
/-- the values of a call are reckoned: values vs, keywords ks with zs -/
def CW (X : Cx) (W : WX) (g : DSt) (es : List Expr) (kw : List Keyword) (pos : Pos) (ks : List Str) (ms mk : List (M D)) : Prop :=
  ∀ (f : Value) (first : List Value) (pins : List (Addr × Obj)) (s : Shared) (σ : L2.St) (H : Hp) (Q : List V → List V → Hp → Prop) (P : Value → Shared → Prop), PySem.W.keepIn X.K f = true → Inv X pins σ H s →
    (tXA X.K W g (runA ms) σ H fun vs H1 => tXA X.K W g (runA mk) σ H1 fun zs H2 => Q vs zs H2) →
    (∀ us ws s2 vs zs H2, Inv X pins σ H2 s2 → Vals vs us → Vals zs ws → Q vs zs H2 → wpAny (model X.prog X.w) X.A (call f (first ++ us) (ks.zip ws)) P X.xe s2) →
    wpAny (model X.prog X.w) X.A (callWith pos f first (backTo pos (starEach es X.env)) (backToKw pos (keywordEach kw X.env))) P X.xe s
theorem tXA_nil {K : PySem.W.Frag} {W : WX} {g : DSt} {σ : L2.St} {H : Hp} {Q : List V → Hp → Prop} (h : tXA K W g (runA []) σ H Q) : Q [] H := by
  obtain ⟨p, G, S, ow, r, q⟩ := h
  exact okR.fin (d := []) q DenL.nil r.rel
section
variable {X : Cx} {W : WX} {g : DSt} {a : Expr} {es : List Expr} {kw : List Keyword} {ms mk : List (M D)} {pos p : Pos} {ks : List Str}
theorem cw_pos (ha : XA X W g (a :: es) ms) (hkw : XKw X W g kw mk) (hall : (backToKw pos (keywordEach kw X.env)).all (·.1.isSome) = true := by rfl) (hks : (backToKw pos (keywordEach kw X.env)).filterMap (·.1) = ks := by rfl)
    (he : starEach (a :: es) X.env = (false, eval a X.env) :: starEach es X.env := by rfl) (hpl : ((backTo pos (starEach (a :: es) X.env)).any (·.1) || (backToKw pos (keywordEach kw X.env)).any (·.1.isNone)) = false := by rfl) : CW X W g (a :: es) kw pos ks ms mk := by
  intro f first pins s σ H Q P hk I h go
  refine PySem.W.callWith_KW (h₀ := X.base) I.ok.mod.kin hk hall (thn (ha.run pos pins s σ H _ I h) fun us s1 ⟨vs, H1, I1, r, q⟩ => ?_) hpl he
  refine thn (hkw.run pos pins s1 σ H1 _ I1 q) fun ws s2 ⟨zs, H2, I2, rz, q2⟩ => ⟨I2.kIn, ?_⟩
  rw [hks]
  exact go us ws s2 vs zs H2 I2 r rz q2
theorem cw_kw (hkw : XKw X W g kw mk) (hall : (backToKw pos (keywordEach kw X.env)).all (·.1.isSome) = true := by rfl) (hks : (backToKw pos (keywordEach kw X.env)).filterMap (·.1) = ks := by rfl)
    (hpl : ((backTo pos (starEach [] X.env)).any (·.1) || (backToKw pos (keywordEach kw X.env)).any (·.1.isNone)) = false := by rfl) : CW X W g [] kw pos ks [] mk := by
  intro f first pins s σ H Q P hk I h go
  refine PySem.W.callWith_KW0 (h₀ := X.base) I.ok.mod.kin hk hall ?_ hpl
  refine thn (hkw.run pos pins s σ H _ I (tXA_nil h)) fun ws s2 ⟨zs, H2, I2, rz, q2⟩ => ⟨I2.kIn, ?_⟩
  rw [hks]
  exact go [] ws s2 [] zs H2 I2 .nil rz q2
end
theorem argsB_app {β : Type} : ∀ (ms mk : List (M D)) (k : List D → M β), argsB (ms ++ mk) k = argsB ms fun xs => argsB mk fun ys => k (xs ++ ys)
  | [], _, _ => rfl
  | m :: ms, mk, k => by
    show B m (fun x => argsB (ms ++ mk) fun xs => k (x :: xs)) = B m fun x => argsB ms fun xs => argsB mk fun ys => k (x :: xs ++ ys)
    have : (fun x => argsB (ms ++ mk) fun xs => k (x :: xs)) = fun x => argsB ms fun xs => argsB mk fun ys => k (x :: xs ++ ys) := by
      funext x
      rw [argsB_app ms mk]
      rfl
    rw [B_eq, B_eq, this]
/-- two lists of values, one behind the other -/
theorem okKwX {K : PySem.W.Frag} {W : WX} {g : DSt} {σ : L2.St} {H : Hp} {p : List (List Addr)} {G : Hp} {S : Sto} {ow : List Addr} {ms mk : List (M D)} {F : List D → M D} {Q : VK} {Q' : List V → List V → Hp → Prop} {d0 : D} {v0 : V} (r : RelS K p G S H g σ ow) (dn0 : Den K p G d0 v0) (h : okR (Den K) K p G H (fun c d H' => W c d σ H') (argsB (ms ++ mk) F S) Q)
    (k : ∀ xs ys vs zs p2 G2 H2 S2, xs.length = ms.length → ys.length = mk.length → Den K p2 G2 d0 v0 → DenL K p2 G2 xs vs → DenL K p2 G2 ys zs → Rel0 K p2 S2 G2 H2 → okR (Den K) K p2 G2 H2 (fun c d H' => W c d σ H') (F (xs ++ ys) S2) Q → Q' vs zs H2) :
    tXA K W g (runA ms) σ H fun vs H1 => tXA K W g (runA mk) σ H1 fun zs H2 => Q' vs zs H2 := by
  rw [argsB_app, argsB_congr ms (F' := fun xs => if xs.length = ms.length then argsB mk (fun ys => F (xs ++ ys)) else stuck) fun xs e => (if_pos e).symm, argsB_eq] at h
  refine ⟨p, G, S, ow, r, okR.seq h fun d S1 v p1 G1 H1 e1 dn r1 x1 h1 => ?_⟩
  by_cases hz : d.length = ms.length
  · rw [if_pos hz, argsB_congr mk (F' := fun ys => if ys.length = mk.length then F (d ++ ys) else stuck) fun xs e => (if_pos e).symm, argsB_eq] at h1
    refine ⟨p1, G1, S1, ow, r.ext x1 r1, okR.seq h1 fun d2 S2 v2 p2 G2 H2 e2 dn2 r2 x2 h2 => ?_⟩
    by_cases hy : d2.length = mk.length
    · rw [if_pos hy] at h2
      exact k d d2 v v2 p2 G2 H2 S2 hz hy ((dn0.mono x1.pp x1.g).mono x2.pp x2.g) (dn.mono x2.pp x2.g) dn2 r2 h2
    · rw [if_neg hy] at h2; exact h2.elim
  · rw [if_neg hz] at h1; exact h1.elim
theorem okKw {K : PySem.W.Frag} {W : WX} {g : DSt} {σ : L2.St} {H : Hp} {p : List (List Addr)} {G : Hp} {S : Sto} {ow : List Addr} {ms mk : List (M D)} {F : List D → M D} {Q : VK} {Q' : List V → List V → Hp → Prop} (r : RelS K p G S H g σ ow) (h : okR (Den K) K p G H (fun c d H' => W c d σ H') (argsB (ms ++ mk) F S) Q)
    (k : ∀ xs ys vs zs p2 G2 H2 S2, xs.length = ms.length → ys.length = mk.length → DenL K p2 G2 xs vs → DenL K p2 G2 ys zs → Rel0 K p2 S2 G2 H2 → okR (Den K) K p2 G2 H2 (fun c d H' => W c d σ H') (F (xs ++ ys) S2) Q → Q' vs zs H2) :
    tXA K W g (runA ms) σ H fun vs H1 => tXA K W g (runA mk) σ H1 fun zs H2 => Q' vs zs H2 := okKwX (d0 := .non) (v0 := .non) r rfl h fun xs ys vs zs p2 G2 H2 S2 h1 h2 _ => k xs ys vs zs p2 G2 H2 S2 h1 h2
theorem pick_all {α : Type} {is : List Nat} {n m l j : Nat} {xs ys zs : List α} (h : (is.length == j && is.all (· < n + m + l)) = true) (hx : xs.length = n) (hy : ys.length = m) (hz : zs.length = l) : (pick is (xs ++ ys ++ zs)).length = j := by
  rw [Bool.and_eq_true, beq_iff_eq, List.all_eq_true] at h
  rw [pick_length is _ fun i hi => ?_, h.1]
  have := of_decide_eq_true (h.2 i hi)
  rw [List.length_append, List.length_append, hx, hy, hz]
  exact this
section
variable {X : Cx} {W : WX} {g : DSt} {a : Expr} {es : List Expr} {kw : List Keyword} {ms mk : List (M D)} {pos p apos : Pos} {k : Nat} {f : Addr} {fd : FuncData} {ps ks : List Str} {gf : List D → M D} {dvs : List V} {ds : List Value} {dds : List D} {is : List Nat} {n : Nat} {x : Str}
/-- f(e, .., k = v, ..) -/
theorem xe_callKw (F : FnD X.prog X.w X.K X.mg X.base k f fd ps gf) (hr : Room k X.A) (hG : X.A.guards = some []) (tk : Takes X W) (hg : Gl X x) (hm : X.mg x = some (.ref f)) (hk : PySem.W.keepIn X.K (.ref f) = true) (hb : KwP X.K fd ps ks n is ds) (hd : Vals dvs ds) (hdd : ∀ q G, DenL X.K q G dds dvs)
    (ha : CW X W g es kw pos ks ms mk) (hn : ms.length = n := by rfl) (hkl : mk.length = ks.length := by rfl) (hl : (is.length == ps.length && is.all (· < ms.length + mk.length + dds.length)) = true := by rfl) (hdb : (x == ("__debug__" : Str)) = false := by decide) :
    XE X W g (.Call (.Name x p) es kw pos) (argsB (ms ++ mk) fun xs => gf (pick is (xs ++ dds))) := by
  refine ⟨fun pins s σ H Q I ⟨q, G, S, ow, r, h⟩ => ?_⟩
  refine wpAny_Call_Name_kw (ld_glob I hg hm ?_ hdb)
  refine ha (.ref f) [] pins s σ H (fun vs zs H2 => vs.length = ms.length ∧ zs.length = mk.length ∧ spD X.K ps.length gf (pick is (vs ++ zs ++ dvs)) H2 Q fun c d H' => W c d σ H') _ hk I (okKw r h fun xs ys vs zs p2 G2 H2 S2 h1 h2 d1 d2 r2 h3 => ?_) fun us ws s2 vs zs H2 I2 rv rz ⟨l1, l2, q2⟩ => ?_
  · exact ⟨d1.length.trans h1, d2.length.trans h2, _, p2, G2, S2, pick_all hl h1 h2 rfl, pick_den is ((d1.append d2).append (hdd p2 G2)), r2, h3⟩
  · exact call_G F hr hG tk I2 (hb s2 us ws I2.kIn (by rw [← rv.length, l1, hn]) (by rw [← rz.length, l2, hkl])) (pick_vals is ((rv.append rz).append hd)) q2
/-- C(e, .., k = v, ..) -/
theorem xe_makeKw (c : Str) (M : Mk X.K (He.ga X.K c) f) (F : FnI X.prog X.w X.K X.mg X.base k c f fd ps gf) (hM : MkC c gf) (hr : Room (k + 1) X.A) (hG : X.A.guards = some []) (tk : Takes X W) (hg : Gl X c) (hm : X.mg c = some (.ref (He.ga X.K c))) (hb : KwP X.K fd ps ks (n + 1) (0 :: is.map (· + 1)) ds) (hd : Vals dvs ds) (hdd : ∀ q G, DenL X.K q G dds dvs)
    (ha : CW X W g es kw pos ks ms mk) (hn : ms.length = n := by rfl) (hkl : mk.length = ks.length := by rfl) (hl : (is.length == ps.length - 1 && is.all (· < ms.length + mk.length + dds.length)) = true := by rfl) (hp : 0 < ps.length := by decide) (hdb : (c == ("__debug__" : Str)) = false := by decide) :
    XE X W g (.Call (.Name c p) es kw pos) (argsB (ms ++ mk) fun xs => gf (pick is (xs ++ dds))) := by
  refine ⟨fun pins s σ H Q I ⟨q, G, S, ow, r, h⟩ => ?_⟩
  refine wpAny_Call_Name_kw (ld_glob I hg hm ?_ hdb)
  refine ha (.ref (He.ga X.K c)) [] pins s σ H (fun vs zs H1 => vs.length = ms.length ∧ zs.length = mk.length ∧ ∀ x dx, H1 x = none → H1 dx = none → dx ≠ x → spI X.K c ps.length gf (.ref x :: pick is (vs ++ zs ++ dvs)) (upd (upd H1 dx (.own x)) x (.ins (He.ga X.K c) dx [])) (fun v H2 => v = .non ∧ Q (.ref x) H2) fun c d H' => W c d σ H') _ M.kp I (okKw r h fun xs ys vs zs p2 G2 H2 S2 h1 h2 d1 d2 r2 h3 => ?_) fun us ws s2 vs zs H2 I2 rv rz ⟨l1, l2, q2⟩ => ?_
  · refine ⟨d1.length.trans h1, d2.length.trans h2, fun x dx hx hdx ne => ⟨x, dx, _, pick is (xs ++ ys ++ dds), p2, G2, S2, H2, rfl, ?_, hx, hdx, ne, rfl, pick_den is ((d1.append d2).append (hdd p2 G2)), r2, okI.of hx (fun d2 S2 e2 => hM _ _ _ _ e2) h3⟩⟩
    rw [pick_all hl h1 h2 rfl]
    omega
  · refine make_G (zs := pick is (us ++ ws ++ ds)) M F hr hG tk I2 (fun s3 u kin => ?_) (pick_vals is ((rv.append rz).append hd)) q2
    have e := hb s3 (u :: us) ws kin (by rw [List.length_cons, ← rv.length, l1, hn]) (by rw [← rz.length, l2, hkl])
    have e2 : pick (0 :: is.map (· + 1)) (u :: us ++ ws ++ ds) = u :: pick is (us ++ ws ++ ds) := by
      show u :: pick (is.map (· + 1)) (u :: (us ++ ws ++ ds)) = _
      rw [pick_shift]
    rw [e2] at e
    exact e
variable {o : Expr} {mo : M D}
/-- o.m(e, .., k = v, ..) -/
theorem xe_methKw (c m : Str) {pl : Sem Bool} (M : OwnM X k c m f fd ps gf) (hr : Room k X.A) (hG : X.A.guards = some []) (tk : Takes X W) (hb : KwP X.K fd ps ks (n + 1) (0 :: is.map (· + 1)) ds) (hd : Vals dvs ds) (hdd : ∀ q G, DenL X.K q G dds dvs) (ho : XE X W g o mo) (ha : CW X W g es kw pos ks ms mk)
    (hn : ms.length = n := by rfl) (hkl : mk.length = ks.length := by rfl) (hl : (is.length == ps.length - 1 && is.all (· < ms.length + mk.length + dds.length)) = true := by rfl) (hp : 0 < ps.length := by decide)
    (ht : eval (.Call (.Attribute o m apos) es kw pos) X.env = (do
      let ov ← eval o X.env
      standAt apos.atName
      let (f, first) ← holding [ov] (getMethod ov m pl)
      callWith pos f first (backTo pos (starEach es X.env)) (backToKw pos (keywordEach kw X.env))) := by rfl) :
    XE X W g (.Call (.Attribute o m apos) es kw pos) (B mo fun d => B (isCm c m d) fun _ => argsB (ms ++ mk) fun xs => gf (d :: pick is (xs ++ dds))) := by
  refine ⟨fun pins s σ H Q I ⟨q, G, S, ow, r, h⟩ => ?_⟩
  refine PySem.W.methodCall_KW (pl := pl) (thn (ho.run pins s σ H (fun x H1 => ∃ a dx fs, x = .ref a ∧ H1 a = some (.ins (He.ga X.K c) dx fs) ∧ fs.lookup m = none ∧ tXA X.K W g (runA ms) σ H1 fun vs H2 => tXA X.K W g (runA mk) σ H2 fun zs H3 => vs.length = ms.length ∧ zs.length = mk.length ∧ spD X.K ps.length gf (.ref a :: pick is (vs ++ zs ++ dvs)) H3 Q fun c d H' => W c d σ H') I ⟨q, G, S, ow, r, okR.seq h fun d S1 v p1 G1 H1 e1 dn r1 x1 h1 => ?_⟩) fun u s1 ⟨x, H1, I1, rx, a, dx, fs, ex, ea, hl2, hq⟩ => ?_) ht
  · have h2 : okR (Den X.K) X.K p1 G1 H1 (fun c d H' => W c d σ H') ((isCm c m d S1).andThen fun _ => argsB (ms ++ mk) fun xs => gf (d :: pick is (xs ++ dds))) Q := h1
    rcases isCm_st c m d S1 with z | z
    · rw [z] at h2
      obtain ⟨_, a, dx, fs, rfl, ha', hlk⟩ := isCm_at dn r1 z
      refine ⟨a, dx, fs, rfl, ha', hlk, okKwX (r.ext x1 r1) dn h2 fun xs ys vs zs p2 G2 H2 S2 h1 h2 d0 d1 d2 r2 h3 => ?_⟩
      refine ⟨d1.length.trans h1, d2.length.trans h2, d :: pick is (xs ++ ys ++ dds), p2, G2, S2, ?_, DenL.cons d0 (pick_den is ((d1.append d2).append (hdd p2 G2))), r2, h3⟩
      rw [List.length_cons, pick_all hl h1 h2 rfl]
      omega
    · rw [z] at h2; exact h2.elim
  · subst ex
    obtain rfl : u = Value.ref a := rx
    refine getmeth_ok I1 ea M.cl M.me hl2 ?_
    refine ha (.ref f) [.ref a] pins s1 σ H1 _ _ M.me.kp I1 hq fun us ws s2 vs zs H2 I2 rv rz ⟨l1, l2, q2⟩ => ?_
    have e := hb s2 (.ref a :: us) ws I2.kIn (by rw [List.length_cons, ← rv.length, l1, hn]) (by rw [← rz.length, l2, hkl])
    have e2 : pick (0 :: is.map (· + 1)) (Value.ref a :: us ++ ws ++ ds) = Value.ref a :: pick is (us ++ ws ++ ds) := by
      show Value.ref a :: pick (is.map (· + 1)) (Value.ref a :: (us ++ ws ++ ds)) = _
      rw [pick_shift]
    rw [e2] at e
    exact call_G (vs := V.ref a :: pick is (vs ++ zs ++ dvs)) M.fn hr hG tk I2 e (.cons rfl (pick_vals is ((rv.append rz).append hd))) q2
end
end RM

/-! RS: own exception classes whose __init__ says super().__init__(text); self.fl = par. -/
namespace RM
open PySem PySem.Spec PyProof.Rows L2
/-- the body -/
abbrev supB (txt sf fl pr : Str) (j : Nat) (p0 p1 p2 p3 p4 p5 p6 p7 p8 p9 : Pos) : List Stmt :=
  [.Expr (.Call (.Attribute (.Call (.Name "super" p0) [] [] p1) "__init__" p2) [.Constant (.str txt) j p3] [] p4) p5, .Assign [.Attribute (.Name sf p6) fl p7] (.Name pr p8) p9]
/-- what the scope says -/
structure SupS (sc : Scope) (sf pr : Str) : Prop where
  su : sc.names.lookup ("super" : Str) = some .globalImplicit
  cl : sc.names.lookup ("__class__" : Str) = some .free
  lsf : sc.names.lookup sf = some .local
  lpr : sc.names.lookup pr = some .local
  kd : sc.kind = .function
  co : sc.isCoroutine = false
  ge : sc.isGenerator = false
  ce : ∀ y ∈ sc.names, y.2 ≠ .cell
  d1 : (sf == ("__debug__" : Str)) = false
  d2 : (pr == ("__debug__" : Str)) = false
  ne : (sf == pr) = false
/-- what the written part says of the class and its __init__ -/
structure SupC (prog : Program) (K : PySem.W.Frag) (C fI : Addr) (fl : Str) (name qual : Str) (params : Arguments) (body : List Stmt) (scope : Scope) : Prop where
  ox : OexC K C
  iC : PySem.W.findIn K (.ref C) "__init__" = some (some (.ref fI))
  tI : PySem.W.typeIn K (.ref fI) = some (.type "function")
  no : PySem.W.findIn K (.ref C) fl = some none
  fn : ∃ (oc : Value) (od : Option Addr) (osl : Array (Option Value)) (kV doc pm : Value) (an : Option Addr) (cda : Addr) (ct : Value) (cc : Addr), K.lookup fI = some ⟨oc, od, .func (PySem.W.fnX name qual params body scope [("__class__", cc)] .none kV doc pm an (.ref cda) ct), osl⟩ ∧
    PySem.W.codeIn K (.ref cda) qual = true ∧ (∃ (ccl : Value) (cdd : Option Addr) (vs : Array Value) (ccs : Array (Option Value)) (file : Str) (tf : Tok), K.lookup cda = some ⟨ccl, cdd, .fields vs, ccs⟩ ∧ vs[2]? = some (.str file tf) ∧ ((prog.main.file : Str) == file) = true) ∧
    ∃ (cl : Value) (cld : Option Addr) (csl : Array (Option Value)), K.lookup cc = some ⟨cl, cld, .cell (some (.ref C)), csl⟩
  st : PySem.W.nsIn K cStatics "thirdparty.any" = some none
  su : PySem.W.ks_superIn K C C "__init__" = some (some (.builtin "ValueError.__init__"))
  sb : PySem.W.subIn K (.ref C) (.type "ValueError") = some true
  mr : PySem.W.mroIn K C (.ref C) = some true
  top : (prog.main.scope.names.lookup ("super" : Str)).isSome = false
section
variable {prog : Program} {w : World} {A : Around} {K : PySem.W.Frag} {C fI x t0 : Addr} {fl sf pr txt name qual : Str} {params : Arguments} {scope : Scope} {j : Nat} {p0 p1 p2 p3 p4 p5 p6 p7 p8 p9 : Pos} {a0 : Arg} {R : Result → Shared → Prop} {mg mb : Str → Option Value} {u : Value}
theorem sup_run {h : Heap} {g : Array GenState} {d : Drawn} {t : Nat} {os : OsState} (Z : SupC prog K C fI fl name qual params (supB txt sf fl pr j p0 p1 p2 p3 p4 p5 p6 p7 p8 p9) scope) (S : SupS scope sf pr) (hp : (params.posonlyargs ++ params.args).head? = some a0) (hl : (p2.endLine == p4.line) = true) (h0 : a0.arg = sf)
    (hb : ∀ (kV doc pm : Value) (an : Option Addr) (cdv ct : Value) (cl : List (Str × Addr)) (v1 v2 : Value), bindArgs (PySem.W.fnX name qual params (supB txt sf fl pr j p0 p1 p2 p3 p4 p5 p6 p7 p8 p9) scope cl .none kV doc pm an cdv ct) ⟨[v1, v2], []⟩ = pure [(sf, v1), (pr, v2)])
    (kin : K.In h) (hr : A.depth < recursionLimit) (nol : h.NoLimit) (gl : h.Ns mainGlobals mg) (bl : h.Ns builtinsNs mb) (bb : ∀ x : Str, x ≠ "__name__" → mb x = bootBuiltins x) (hsu : mg "super" = none)
    (he : h.get? x = some (PySem.HandSPX.excO C t0)) (hxK : K.lookup x = none)
    (hq : ∀ h' tk' dx t1, (∀ b o, b ≠ x → h.get? b = some o → h'.get? b = some o) → h.objs.size ≤ dx → dx ≠ x → h'.get? x = some { cls := .ref C, dict := some dx, data := .fields #[.ref t1, .none, .none, .none, .bool false, .none] } →
      h'.Ns1 dx (fun y => if y = fl then some u else none) → R (.ok (.ret .none)) ⟨h', g, d, tk', os⟩) :
    codeAny (model prog w) A (.call (.ref fI) ⟨[.ref x, u], []⟩) R ⟨h, g, d, t, os⟩ := by
  obtain ⟨oc, od, osl, kV, doc, pm, an, cda, ct, cc, lk, hcd, ⟨ccl, cdd, vs, ccs, file, tf, lcd, hvs, hfile⟩, cl, cld, csl, lcc⟩ := Z.fn
  obtain ⟨nm, q, N, bs, bm, sn, sub, ab, col, dd, k0, k1, k2, k3, k5, hC, hbm⟩ := Z.ox.cls
  have hcl : PySem.W.clsIn K C = some { name := nm, bases := bs, mro := .ref C :: bm, ns := N, qualname := q, hasDict := true, slotNames := sn, subclasses := sub, abstract := ab, collection := col, hasDel := false } := by unfold PySem.W.clsIn; rw [hC] <;> rfl
  have xs : x < h.objs.size := Heap.lt_size he
  refine ks_codeAny_call_defAt (fd := PySem.W.fnX name qual params (supB txt sf fl pr j p0 p1 p2 p3 p4 p5 p6 p7 p8 p9) scope [("__class__", cc)] .none kV doc pm an (.ref cda) ct) (body := supB txt sf fl pr j p0 p1 p2 p3 p4 p5 p6 p7 p8 p9) (binds := [(sf, .ref x), (pr, u)]) hr (kin _ _ lk) rfl nol (PySem.W.codeRec_of kin hcd) rfl (.of_eq (hb _ _ _ _ _ _ _ _ _)) S.ce ?_ (fun h₁ hns hk₁ => ?_) S.co S.ge S.kd
  · intro y hy
    simp only [List.mem_cons, List.not_mem_nil, or_false] at hy
    rcases hy with rfl | rfl
    · exact S.lsf
    · exact S.lpr
  have kin1 : K.In h₁ := kin.keeps hk₁
  have hx1 := hk₁ _ _ he
  have I1 : PySem.W.InstAt h₁ x (PySem.HandSPX.excO C t0) C none := ⟨hx1, rfl, rfl, trivial⟩
  have vsf : (fun y => List.lookup y [(sf, Value.ref x), (pr, u)].reverse) sf = some (.ref x) := by
    show List.lookup sf [(pr, u), (sf, Value.ref x)] = _
    simp only [List.lookup, S.ne]
    simp
  have vpr : (fun y => List.lookup y [(sf, Value.ref x), (pr, u)].reverse) pr = some u := by
    show List.lookup pr [(pr, u), (sf, Value.ref x)] = _
    simp [List.lookup]
  generalize hen : callEnv (PySem.W.fnX name qual params (supB txt sf fl pr j p0 p1 p2 p3 p4 p5 p6 p7 p8 p9) scope [("__class__", cc)] .none kV doc pm an (.ref cda) ct) (Shared.mk h g d t os).heap.objs.size fI = env
  have esc : env.scope = scope := by rw [← hen]; rfl
  have hint : interactive env = false := by unfold interactive; rw [esc, S.kd]; rfl
  have hev : eval (.Call (.Attribute (.Call (.Name "super" p0) [] [] p1) "__init__" p2) [.Constant (.str txt) j p3] [] p4) env = (do
      let ov ← attributeBase (.Call (.Name "super" p0) [] [] p1) "__init__" env (eval (.Call (.Name "super" p0) [] [] p1) env)
      standAt p2.atName
      let (f, first) ← holding [ov] (getMethod ov "__init__" (do return (← importBound (.Call (.Name "super" p0) [] [] p1) env).getD true))
      callWith p4 f first (backTo p4 (starEach [.Constant (.str txt) j p3] env)) []) := by
    show (do
      let ov ← attributeBase (.Call (.Name "super" p0) [] [] p1) "__init__" env (eval (.Call (.Name "super" p0) [] [] p1) env)
      standAt p2.atName
      methodCall (.Call (.Name "super" p0) [] [] p1) "__init__" p2 p4 env ov 1 (backTo p4 (starEach [.Constant (.str txt) j p3] env)) []) = _
    congr 1
    funext ov
    congr 1
    funext _
    unfold methodCall
    have hf : methodCallForm 1 (backTo p4 (starEach [.Constant (.str txt) j p3] env)) [] = true := by rfl
    rw [hf]
    unfold methodCallPos calleeOf
    rw [hl]
    rfl
  refine ks_wpAt_execs_cons (ks_wpAt_Expr_any (ks_wpAt_MethodCall ?_ hev) hint)
  refine ks_wpAt_super_base (f := fI) (cc := cda) (ar := a0) (by rw [← hen]; exact S.su) (by rw [← hen]; exact S.cl) (by decide) (by rw [← hen]; rfl) (kin1 _ _ lk) rfl hp (by rw [← hen]; rfl) (kin1 _ _ lcd) rfl hvs hfile Z.top ?_
  subst hen
  refine PySem.W.ks_loadName_global S.kd S.su (Calls.loadGlobal_builtin (mg := mg) (mb := mb) (gl.keeps hk₁) hsu (bl.keeps hk₁) ((bb _ (by decide)).trans PyProof.Rows.Boot.«super») ⟨rfl, ?_⟩)
  refine wpAny_loadName_free S.kd S.cl rfl ⟨_, kin1 _ _ lcc, rfl⟩ ?_
  rw [h0]
  refine wpAny_loadName_local S.kd S.lsf hns vsf ?_
  refine ks_wpAny_isType_cls (kin1 _ _ hC) rfl ⟨rfl, ?_⟩
  refine ks_wpAny_call_super (kin1 _ _ hC) rfl hx1 rfl (fun c e => by cases e) (PySem.W.looks_mroIn kin1 Z.mr) (fun h2 so2 k2 => ?_)
  have kin2 : K.In h2 := kin1.keeps k2
  have hx2 := k2 _ _ hx1
  have I2 : PySem.W.InstAt h2 x (PySem.HandSPX.excO C t0) C none := ⟨hx2, rfl, rfl, trivial⟩
  have hm := Z.su
  unfold PySem.W.ks_superIn at hm
  rw [hcl] at hm
  refine PySem.W.kxs_getMethod PySem.W.kxs_ValueError so2 (PySem.W.looks_opaque kin2 Z.st) (l₀ := .ref C :: bm) ?_ rfl kin2 hm (I2.type.andThen (PySem.W.looks_subIn kin2 Z.sb)) (PySem.W.ks_ne kin2 I2 hcl) (by decide) ?_
  · exact fun A Q E s k q => wpAny_bind ((PySem.W.looks_clsIn kin2 hcl) A _ E s k (wpAny_pure q))
  refine PySem.W.kxs_callWith (i := "ValueError.__init__") (x := x) rfl ?_
  refine Calls.evalArgs_plain ?_
  refine Calls.spliced_cons (Calls.Constant_str (k := j) (pos := p3) (Calls.spliced_nil ?_))
  have hu3 : (h2.push (PySem.W.kxs_mw "ValueError.__init__" x)).get? h2.objs.size = some (PySem.W.kxs_mw "ValueError.__init__" x) := Heap.get?_push_at rfl rfl
  have k3' : ∀ b o, h2.get? b = some o → (h2.push (PySem.W.kxs_mw "ValueError.__init__" x)).get? b = some o := fun b o e => Heap.get?_push_of_some _ e
  have hx3 := k3' _ _ hx2
  have kin3 := kin2.keeps k3'
  refine ⟨hu3, ?_⟩
  generalize hh3 : h2.push (PySem.W.kxs_mw "ValueError.__init__" x) = h3 at *
  refine wpAny_call (codeAny_of_tree ?_)
  show wpAny _ _ (callAny (.ref h2.objs.size) ⟨_, []⟩) _ _ _
  simp only [callAny]
  refine wpAny_bind (wpAny_load hu3 ?_)
  simp only [PySem.W.kxs_mw, show (Value.type "method-wrapper" == Value.type "method" || Value.type "method-wrapper" == Value.type "builtin_function_or_method" || Value.type "method-wrapper" == Value.type "method-wrapper") = true by decide, if_true]
  refine PySem.W.KFB.if_so (by decide) ?_
  refine wpAny_bind (PySem.W.check_bound_init PySem.F.excBase_ValueError.toExcCallFacts (kin3 _ _ hC) hx3 rfl ?_)
  refine wpAny_bind (wpAny_pure (wpAny_pure ?_))
  refine ⟨plainId_quiet PySem.F.excBase_ValueError.init.plain _, codeAny_builtin PySem.F.excBase_ValueError.initEntry ?_⟩
  refine PySem.W.exc_init_tree (cls := .ref C) (t0 := t0) (dv := none) (c2 := .none) (c3 := .none) (b4 := .bool false) hx3 (by show 1 ≤ sizeLine; rw [sizeLine_eq]; omega) fun h5 k5' hx5 _ => ?_
  have k35 : ∀ b o, b ≠ x → h.get? b = some o → h5.get? b = some o := fun b o hb e => k5' b o hb (k3' b o (k2 b o (hk₁ b o e)))
  have kin5 : K.In h5 := fun b o e => by
    exact k35 b o (fun z => by rw [z, hxK] at e; cases e) (kin b o e)
  have hL : h5.Ns h.objs.size (fun y => List.lookup y [(sf, Value.ref x), (pr, u)].reverse) := by
    obtain ⟨oL, es, ep, e1, r⟩ := hns
    exact ⟨oL, es, ep, k5' _ _ (Nat.ne_of_gt xs) (k3' _ _ (k2 _ _ e1)), r⟩
  refine ks_wpAt_execs_cons (ks_wpAt_Assign_Attr (wpAt_of_wpAny (wpAny_Name (wpAny_loadName_local S.kd S.lpr hL vpr ?_) S.d2)))
  refine wpAny_Name (wpAny_loadName_local S.kd S.lsf hL vsf ?_) S.d1
  refine PySem.W.set_plain kin5 (ox := PySem.W.excRec (.ref C) h3.objs.size none .none .none (.bool false)) (od := none) ⟨hx5, rfl, rfl, trivial⟩ Z.ox.sa ?_
  refine PySem.HandSPX.exc_osa kin5 hx5 hcl (show PySem.HandSPX.refsVE (.ref C :: bm) = true from hbm) rfl Z.no fun h6 tk6 dx k6 s6 ne6 hx6 hn6 => ?_
  refine wpAt_of_wpAny (wpAny_execs_nil ?_)
  exact hq h6 tk6 dx h3.objs.size (fun b o hb e => k6 b o hb (k35 b o hb e)) (Nat.le_trans (by obtain ⟨oL, es, ep, e1, r⟩ := hL; exact Nat.le_of_lt (Heap.lt_size e1)) s6) ne6 hx6 hn6
end
section
variable {X : Cx} {C fI : Addr} {fl sf pr txt name qual x : Str} {params : Arguments} {scope : Scope} {j k : Nat} {p0 p1 p2 p3 p4 p5 p6 p7 p8 p9 p pos : Pos} {a0 : Arg} {e : Expr} {te : TE}
/-- C(e): an own exception -/
theorem pmk_sup (Z : SupC X.prog X.K C fI fl name qual params (supB txt sf fl pr j p0 p1 p2 p3 p4 p5 p6 p7 p8 p9) scope) (S : SupS scope sf pr) (hp : (params.posonlyargs ++ params.args).head? = some a0) (hl : (p2.endLine == p4.line) = true) (h0 : a0.arg = sf)
    (hb : ∀ (kV doc pm : Value) (an : Option Addr) (cdv ct : Value) (cl : List (Str × Addr)) (v1 v2 : Value), bindArgs (PySem.W.fnX name qual params (supB txt sf fl pr j p0 p1 p2 p3 p4 p5 p6 p7 p8 p9) scope cl .none kV doc pm an cdv ct) ⟨[v1, v2], []⟩ = pure [(sf, v1), (pr, v2)])
    (hr : Room (k + 1) X.A) (hsu : X.mg "super" = none) (hg : Gl X x) (hm : X.mg x = some (.ref C)) (he : PE X e te) (hdb : (x == ("__debug__" : Str)) = false := by decide) (hst : starEach [e] X.env = [(false, eval e X.env)] := by rfl) :
    PMk X (.Call (.Name x p) [e] [] pos) (fun σ H Q => te σ H fun y H1 => ∀ d, H1 d = none → Q (.ref C) (some d) (upd H1 d (.xd [(fl, y)]))) := by
  intro pins s σ H Q I h
  obtain ⟨nm, q, N, bs, bm, sn, sub, ab, col, dd, k0, k1, k2, k3, k5, hC, hbm⟩ := Z.ox.cls
  refine wpAny_Call_Name_kw (ld_glob I hg hm ?_ hdb)
  have ha : PA X [e] (tCons te tNil) := pa_cons he pa_nil hst
  refine PySem.W.callWith_K (h₀ := X.base) I.ok.mod.kin Z.ox.kC (thn (ha.run pos pins s σ H (fun vs H1 => match vs with | [y] => ∀ d, H1 d = none → Q (.ref C) (some d) (upd H1 d (.xd [(fl, y)])) | _ => False) I h) fun us s1 ⟨vs, H1, I1, r1, q1⟩ => ⟨I1.kIn, ?_⟩) hst rfl
  cases r1 with
  | nil => exact q1.elim
  | @cons y u ys us' ru rn =>
  cases rn with
  | cons _ _ => exact q1.elim
  | nil =>
  show wpAny _ _ (call (.ref C) [u]) _ _ _
  obtain ⟨hp1, g, dr, tk, os⟩ := s1
  have hsz : hp1.objs.size ≤ hp1.objs.size + 1 := Nat.le_succ _
  have kk : ∀ b o, hp1.get? b = some o → ((hp1.push (PySem.W.kdv_tup [u])).push (PySem.HandSPX.excO C hp1.objs.size)).get? b = some o := fun b o e => Heap.get?_push_of_some _ (Heap.get?_push_of_some _ e)
  have hget : ((hp1.push (PySem.W.kdv_tup [u])).push (PySem.HandSPX.excO C hp1.objs.size)).get? (hp1.objs.size + 1) = some (PySem.HandSPX.excO C hp1.objs.size) := by heap_get
  have kin := I1.kIn
  have hxK : X.K.lookup (hp1.objs.size + 1) = none := by
    cases z : X.K.lookup (hp1.objs.size + 1) with
    | none => rfl
    | some o => exact absurd (Heap.lt_size (kin _ _ z)) (by show ¬ (hp1.objs.size + 1 < hp1.objs.size); omega)
  obtain ⟨mb, hb1, hb2⟩ := I1.mod.blt
  refine wpAny_call (PySem.HandSPX.call_own PySem.F.excBase_ValueError (fun Y => PySem.HandSPX.refsVE_contains Y bm hbm) (kin _ _ hC) (PySem.W.looks_findIn kin Z.iC) (fun self => PySem.W.bind_fn kin self Z.tI) (by show 1 ≤ sizeLine; rw [sizeLine_eq]; omega)
    (sup_run Z S hp hl h0 hb (kin.keeps kk) (hr.make C [u] []).depth (I1.nolimit.keeps kk) ((I1.mod.glob.keeps I1.bk).keeps kk) ((hb1.keeps I1.bk).keeps kk) hb2 hsu hget hxK fun h' tk' dx t1 k' sdx ndx hx' hn' => ⟨rfl, ?_⟩))
  obtain ⟨G, g1, g2⟩ := restrict h' fun b => decide (b ≠ hp1.objs.size + 1)
  have gk : ∀ b, b ≠ hp1.objs.size + 1 → G.get? b = h'.get? b := fun b hb => g1 b (decide_eq_true hb)
  have ge : G.get? (hp1.objs.size + 1) = none := g2 _ (by simp)
  have k6 : ∀ b o, hp1.get? b = some o → G.get? b = some o := fun b o z => by
    have hb : b ≠ hp1.objs.size + 1 := Nat.ne_of_lt (Nat.lt_of_lt_of_le (Heap.lt_size z) hsz)
    rw [gk b hb]
    exact k' b o hb (kk b o z)
  have s2 : ((hp1.push (PySem.W.kdv_tup [u])).push (PySem.HandSPX.excO C hp1.objs.size)).objs.size = hp1.objs.size + 2 := by simp [Heap.push]
  have sd : hp1.objs.size ≤ dx := by rw [s2] at sdx; omega
  have hd0 : H1 dx = none := I1.hok.fresh sd
  have J : Inv X pins σ (upd H1 dx (.xd [(fl, y)])) ⟨G, g, dr, tk', os⟩ := I1.laid (t' := tk') (a := dx) (o := .xd [(fl, y)]) (h' := G) k6 sd ⟨_, hn'.at fun o z => (gk dx ndx).trans z, relO_put (fs := []) ru fun g => True.intro⟩
  refine ⟨hp1.objs.size + 1, _, _, ⟨G, g, dr, tk', os⟩, _, .ref C, some dx, rfl, J, fun b o z => ?_, ge, hx', ⟨rfl, rfl⟩, rfl, rfl, ?_, rfl, I1.bare, raises_own Z.ox.exC Z.ox.tyC, q1 dx hd0⟩
  · by_cases hba : b = hp1.objs.size + 1
    · rw [hba, ge] at z; cases z
    · rw [gk b hba] at z; exact z
  · rw [upd_ne (Ne.symm ndx)]
    exact I1.hok.fresh hsz
end
end RM

/-! RX: the plain side in direct style. -/
namespace RM
open PySem PySem.Spec PyProof.Rows L2
@[simp] theorem tst_pure (b : Bool) : tst (pure (.bl b)) = pure b := Eq.trans rfl rfl
@[simp] theorem tNot_pure (b : Bool) : tNot (pure b) = pure (!b) := Eq.trans rfl rfl
@[simp] theorem tAnd_pure (b : Bool) (n : M Bool) : tAnd (pure b) n = if b then n else pure false := Eq.trans rfl rfl
@[simp] theorem tOr_pure (b : Bool) (n : M Bool) : tOr (pure b) n = if b then pure true else n := Eq.trans rfl rfl
@[simp] theorem eAnd_pure (b : Bool) (n : M D) : eAnd (pure (.bl b)) n = if b then n else pure (.bl false) := Eq.trans rfl rfl
@[simp] theorem eOr_pure (b : Bool) (n : M D) : eOr (pure (.bl b)) n = if b then pure (.bl true) else n := Eq.trans rfl rfl
@[simp] theorem eNot_pure (b : Bool) : eNot (pure (.bl b)) = pure (.bl (!b)) := Eq.trans rfl rfl
@[simp] theorem ifM_pure {α : Type} (b : Bool) (x y : M α) : ifM (pure b) x y = if b then x else y := Eq.trans rfl rfl
@[simp] theorem noE_pure {α : Type} (x : α) : noE (pure x : M α) = pure x := Eq.trans rfl rfl
@[simp] theorem noE_stuck {α : Type} : noE (stuck : M α) = stuck := Eq.trans rfl rfl
@[simp] theorem asB_bl' (b : Bool) : asB (.bl b) = pure b := Eq.trans rfl rfl
theorem chain_pure (f f' : D → D → M D) (x y : D) (mc : M D) : chainM f f' (pure x) (pure y) mc = B (f x y) fun z => B (asB z) fun t => if t then B mc fun w => f' y w else pure (.bl false) := rfl
@[simp] theorem lendX_pure (d : D) : lendX (pure d) = if noLst d then pure d else stuck := Eq.trans rfl rfl
@[simp] theorem orRet_inl {α τ : Type} (r : D → α) (k : τ → M α) (d : D) : orRet r k (.inl d) = pure (r d) := Eq.trans rfl rfl
@[simp] theorem orRet_inr {α τ : Type} (r : D → α) (k : τ → M α) (x : τ) : orRet r k (.inr x) = k x := Eq.trans rfl rfl
@[simp] theorem loopN_nil {τ : Type} (f : D → τ → M τ) (x : τ) : loopN f [] x = pure x := Eq.trans rfl rfl
@[simp] theorem loopN_cons {τ : Type} (f : D → τ → M τ) (d : D) (ds : List D) (x : τ) : loopN f (d :: ds) x = B (f d x) fun y => loopN f ds y := Eq.trans rfl rfl
@[simp] theorem loopS_nil {τ : Type} (f : D → τ → M (D ⊕ τ)) (x : τ) : loopS f [] x = pure (.inr x) := Eq.trans rfl rfl
theorem idxT {xs : List D} {n : Nat} {d : D} (h : xs[n]? = some d) : idxD (.tup xs) (.int n) = pure d ∧ idxD (.lst xs) (.int n) = pure d := by
  have hl : n < xs.length := (List.getElem?_eq_some_iff.mp h).1
  obtain ⟨x, _, hx, ha⟩ := atI_in (xs := xs) (i := n) (by omega) (by omega)
  rw [Int.toNat_natCast] at hx
  rw [h] at hx
  cases hx
  exact ⟨by unfold idxD; dsimp only; rw [ha], by unfold idxD; dsimp only; rw [ha]⟩
@[simp] theorem isNon_non : isNonD .non .non = pure (.bl true) := Eq.trans rfl rfl
@[simp] theorem isNon_bl (b : Bool) : isNonD (.bl b) .non = pure (.bl false) := Eq.trans rfl rfl
@[simp] theorem isNon_int (i : Int) : isNonD (.int i) .non = pure (.bl false) := Eq.trans rfl rfl
@[simp] theorem isNon_str (x : Str) : isNonD (.str x) .non = pure (.bl false) := Eq.trans rfl rfl
@[simp] theorem isNon_tup (x : List D) : isNonD (.tup x) .non = pure (.bl false) := Eq.trans rfl rfl
@[simp] theorem isNon_lst (x : List D) : isNonD (.lst x) .non = pure (.bl false) := Eq.trans rfl rfl
@[simp] theorem isNon_dic (k : List Key) (x : List D) : isNonD (.dic k x) .non = pure (.bl false) := Eq.trans rfl rfl
@[simp] theorem isNon_ins (c : Str) (k : List Str) (x : List D) : isNonD (.ins c k x) .non = pure (.bl false) := Eq.trans rfl rfl
@[simp] theorem notNon_non : notNonD .non .non = pure (.bl false) := Eq.trans rfl rfl
@[simp] theorem notNon_bl (b : Bool) : notNonD (.bl b) .non = pure (.bl true) := Eq.trans rfl rfl
@[simp] theorem notNon_int (i : Int) : notNonD (.int i) .non = pure (.bl true) := Eq.trans rfl rfl
@[simp] theorem notNon_str (x : Str) : notNonD (.str x) .non = pure (.bl true) := Eq.trans rfl rfl
@[simp] theorem notNon_tup (x : List D) : notNonD (.tup x) .non = pure (.bl true) := Eq.trans rfl rfl
@[simp] theorem notNon_lst (x : List D) : notNonD (.lst x) .non = pure (.bl true) := Eq.trans rfl rfl
@[simp] theorem notNon_dic (k : List Key) (x : List D) : notNonD (.dic k x) .non = pure (.bl true) := Eq.trans rfl rfl
@[simp] theorem notNon_ins (c : Str) (k : List Str) (x : List D) : notNonD (.ins c k x) .non = pure (.bl true) := Eq.trans rfl rfl
@[simp] theorem idx_tup0 (a : D) (xs : List D) : idxD (.tup (a :: xs)) (.int 0) = pure a := (idxT (n := 0) rfl).1
@[simp] theorem idx_tup1 (a b : D) (xs : List D) : idxD (.tup (a :: b :: xs)) (.int 1) = pure b := (idxT (n := 1) rfl).1
@[simp] theorem idx_tup2 (a b c : D) (xs : List D) : idxD (.tup (a :: b :: c :: xs)) (.int 2) = pure c := (idxT (n := 2) rfl).1
@[simp] theorem idx_tup3 (a b c d : D) (xs : List D) : idxD (.tup (a :: b :: c :: d :: xs)) (.int 3) = pure d := (idxT (n := 3) rfl).1
@[simp] theorem idx_lst0 (a : D) (xs : List D) : idxD (.lst (a :: xs)) (.int 0) = pure a := (idxT (n := 0) rfl).2
@[simp] theorem idx_lst1 (a b : D) (xs : List D) : idxD (.lst (a :: b :: xs)) (.int 1) = pure b := (idxT (n := 1) rfl).2
@[simp] theorem idx_lst2 (a b c : D) (xs : List D) : idxD (.lst (a :: b :: c :: xs)) (.int 2) = pure c := (idxT (n := 2) rfl).2
@[simp] theorem idx_lst3 (a b c d : D) (xs : List D) : idxD (.lst (a :: b :: c :: d :: xs)) (.int 3) = pure d := (idxT (n := 3) rfl).2
@[simp] theorem lstD_eq (xs : List D) : lstD xs = if xs.length ≤ sizeLine then pure (.lst xs) else stuck := Eq.trans rfl rfl
@[simp] theorem tupD_eq (xs : List D) : tupD xs = if xs.length ≤ sizeLine then pure (.tup xs) else stuck := Eq.trans rfl rfl
@[simp] theorem sizeL_eq (xs : List D) : sizeL xs = if xs.length ≤ sizeLine then pure xs else stuck := Eq.trans rfl rfl
@[simp] theorem addD_lst_eq (xs ys : List D) : addD (.lst xs) (.lst ys) = if xs.length + ys.length ≤ sizeLine then pure (.lst (xs ++ ys)) else stuck := Eq.trans rfl rfl
@[simp] theorem addD_str_eq (xs ys : Str) : addD (.str xs) (.str ys) = if xs.length + ys.length ≤ sizeLine then pure (.str (xs ++ ys)) else stuck := Eq.trans rfl rfl
@[simp] theorem lenD_str_eq (x : Str) : lenD [.str x] = if x.length ≤ sizeLine then pure (.int x.length) else stuck := Eq.trans rfl rfl
@[simp] theorem appO_eq (xs : List D) (y : D) : appO xs y = if xs.length < sizeLine then pure (xs ++ [y]) else stuck := Eq.trans rfl rfl
@[simp] theorem listF_lst (xs : List D) : listF (.lst xs) = pure xs := Eq.trans rfl rfl
@[simp] theorem listF_tup (xs : List D) : listF (.tup xs) = pure xs := Eq.trans rfl rfl
@[simp] theorem tupleD_lst (xs : List D) : tupleD [.lst xs] = pure (.tup xs) := Eq.trans rfl rfl
@[simp] theorem tupleD_tup (xs : List D) : tupleD [.tup xs] = pure (.tup xs) := Eq.trans rfl rfl
@[simp] theorem listD_lst (xs : List D) : listD [.lst xs] = pure (.lst xs) := Eq.trans rfl rfl
@[simp] theorem listD_tup (xs : List D) : listD [.tup xs] = pure (.lst xs) := Eq.trans rfl rfl
@[simp] theorem minD_2 (i j : Int) : minD [.int i, .int j] = pure (.int (if j < i then j else i)) := Eq.trans rfl rfl
@[simp] theorem maxD_2 (i j : Int) : maxD [.int i, .int j] = pure (.int (if j > i then j else i)) := Eq.trans rfl rfl
@[simp] theorem addD_tup (xs ys : List D) : addD (.tup xs) (.tup ys) = if xs.length + ys.length ≤ sizeLine then pure (.tup (xs ++ ys)) else stuck := Eq.trans rfl rfl
@[simp] theorem sliceD_lst (xs : List D) (lo hi : Option Int) : sliceD (.lst xs) lo hi = pure (.lst (cutL xs lo hi)) := Eq.trans rfl rfl
@[simp] theorem sliceD_tup (xs : List D) (lo hi : Option Int) : sliceD (.tup xs) lo hi = pure (.tup (cutL xs lo hi)) := Eq.trans rfl rfl
@[simp] theorem powD_109 : powD (.int 10) (.int 9) = pure (.int 1000000000) := Eq.trans rfl rfl
@[simp] theorem powD_1012 : powD (.int 10) (.int 12) = pure (.int 1000000000000) := Eq.trans rfl rfl
@[simp] theorem neD_lst_nil : neD (.lst []) (.lst []) = pure (.bl false) := Eq.trans rfl rfl
theorem if_pure_bl (b : Bool) (x y : Bool) : (if b then pure (.bl x) else pure (.bl y) : M D) = pure (.bl (if b then x else y)) := by cases b <;> rfl
/-! ### what draws comes to the head -/
@[simp] theorem B_Bs {α β γ : Type} (m : M α) (f : α → M β) (g : β → M γ) (d : Dep f) (e : Dep g) : B (B m f d) g e = B m (fun x => B (f x) g e) := B_B m f g d e
@[simp] theorem tst_B {α : Type} (m : M α) (f : α → M D) (d : Dep f) : tst (B m f d) = B m (fun x => tst (f x)) := B_B ..
@[simp] theorem tNot_B {α : Type} (m : M α) (f : α → M Bool) (d : Dep f) : tNot (B m f d) = B m (fun x => tNot (f x)) := B_B ..
@[simp] theorem tAnd_B {α : Type} (m : M α) (f : α → M Bool) (n : M Bool) (d : Dep f) : tAnd (B m f d) n = B m (fun x => tAnd (f x) n) := B_B ..
@[simp] theorem tOr_B {α : Type} (m : M α) (f : α → M Bool) (n : M Bool) (d : Dep f) : tOr (B m f d) n = B m (fun x => tOr (f x) n) := B_B ..
@[simp] theorem eAnd_B {α : Type} (m : M α) (f : α → M D) (n : M D) (d : Dep f) : eAnd (B m f d) n = B m (fun x => eAnd (f x) n) := B_B ..
@[simp] theorem eOr_B {α : Type} (m : M α) (f : α → M D) (n : M D) (d : Dep f) : eOr (B m f d) n = B m (fun x => eOr (f x) n) := B_B ..
@[simp] theorem eNot_B {α : Type} (m : M α) (f : α → M D) (d : Dep f) : eNot (B m f d) = B m (fun x => eNot (f x)) := B_B ..
@[simp] theorem ifM_B {α β : Type} (m : M α) (f : α → M Bool) (x y : M β) (d : Dep f) : ifM (B m f d) x y = B m (fun z => ifM (f z) x y) := B_B ..
@[simp] theorem noE_B {α β : Type} (m : M α) (f : α → M β) (d : Dep f) : noE (B m f d) = B (noE m) (fun x => noE (f x)) := by
  funext S
  show (match (m S).andThen f with | .exc _ _ => Res.stuck | r => r) = (match m S with | .exc _ _ => Res.stuck | r => r).andThen fun x => noE (f x)
  cases m S <;> rfl
@[simp] theorem lendX_B {α : Type} (m : M α) (f : α → M D) (d : Dep f) : lendX (B m f d) = B (noE m) (fun x => lendX (f x)) := by
  unfold lendX
  rw [noE_B, B_B]
@[simp] theorem joinX_pure (s : Str) (m : M D) : joinX (pure (.str s)) m = B m fun y => joinD (.str s) y := Eq.trans rfl rfl
@[simp] theorem chainM_pure (f f' : D → D → M D) (x : D) (mb mc : M D) : chainM f f' (pure x) mb mc = B mb fun y => B (f x y) fun z => B (asB z) fun t => if t then B mc fun w => f' y w else pure (.bl false) := Eq.trans rfl rfl
@[simp] theorem tst_ite (c : Prop) [Decidable c] (a b : M D) : tst (if c then a else b) = if c then tst a else tst b := by split <;> rfl
@[simp] theorem B_ite {α β : Type} (c : Prop) [Decidable c] (a b : M α) (f : α → M β) (d : Dep f) : B (if c then a else b) f d = if c then B a f d else B b f d := by split <;> rfl
/-! ### isinstance -/
@[simp] theorem isi_int_non (cs : List Str) : isiD cs [.b "int"] .non = pure (.bl false) := Eq.trans rfl rfl
@[simp] theorem isi_int_bl (cs : List Str) (b : Bool) : isiD cs [.b "int"] (.bl b) = pure (.bl true) := Eq.trans rfl rfl
@[simp] theorem isi_int_int (cs : List Str) (i : Int) : isiD cs [.b "int"] (.int i) = pure (.bl true) := Eq.trans rfl rfl
@[simp] theorem isi_int_str (cs : List Str) (x : Str) : isiD cs [.b "int"] (.str x) = pure (.bl false) := Eq.trans rfl rfl
@[simp] theorem isi_int_tup (cs : List Str) (xs : List D) : isiD cs [.b "int"] (.tup xs) = pure (.bl false) := Eq.trans rfl rfl
@[simp] theorem isi_int_lst (cs : List Str) (xs : List D) : isiD cs [.b "int"] (.lst xs) = pure (.bl false) := Eq.trans rfl rfl
@[simp] theorem isi_int_dic (cs : List Str) (ks : List Key) (vs : List D) : isiD cs [.b "int"] (.dic ks vs) = pure (.bl false) := Eq.trans rfl rfl
theorem isi_int_ins {cs : List Str} {c : Str} (h : c ∈ cs) (ns : List Str) (fs : List D) : isiD cs [.b "int"] (.ins c ns fs) = pure (.bl false) := if_pos ⟨decide_eq_true h, rfl⟩
@[simp] theorem isi_bool_non (cs : List Str) : isiD cs [.b "bool"] .non = pure (.bl false) := Eq.trans rfl rfl
@[simp] theorem isi_bool_bl (cs : List Str) (b : Bool) : isiD cs [.b "bool"] (.bl b) = pure (.bl true) := Eq.trans rfl rfl
@[simp] theorem isi_bool_int (cs : List Str) (i : Int) : isiD cs [.b "bool"] (.int i) = pure (.bl false) := Eq.trans rfl rfl
@[simp] theorem isi_bool_str (cs : List Str) (x : Str) : isiD cs [.b "bool"] (.str x) = pure (.bl false) := Eq.trans rfl rfl
@[simp] theorem isi_bool_tup (cs : List Str) (xs : List D) : isiD cs [.b "bool"] (.tup xs) = pure (.bl false) := Eq.trans rfl rfl
@[simp] theorem isi_bool_lst (cs : List Str) (xs : List D) : isiD cs [.b "bool"] (.lst xs) = pure (.bl false) := Eq.trans rfl rfl
@[simp] theorem isi_bool_dic (cs : List Str) (ks : List Key) (vs : List D) : isiD cs [.b "bool"] (.dic ks vs) = pure (.bl false) := Eq.trans rfl rfl
theorem isi_bool_ins {cs : List Str} {c : Str} (h : c ∈ cs) (ns : List Str) (fs : List D) : isiD cs [.b "bool"] (.ins c ns fs) = pure (.bl false) := if_pos ⟨decide_eq_true h, rfl⟩
@[simp] theorem isi_str_non (cs : List Str) : isiD cs [.b "str"] .non = pure (.bl false) := Eq.trans rfl rfl
@[simp] theorem isi_str_bl (cs : List Str) (b : Bool) : isiD cs [.b "str"] (.bl b) = pure (.bl false) := Eq.trans rfl rfl
@[simp] theorem isi_str_int (cs : List Str) (i : Int) : isiD cs [.b "str"] (.int i) = pure (.bl false) := Eq.trans rfl rfl
@[simp] theorem isi_str_str (cs : List Str) (x : Str) : isiD cs [.b "str"] (.str x) = pure (.bl true) := Eq.trans rfl rfl
@[simp] theorem isi_str_tup (cs : List Str) (xs : List D) : isiD cs [.b "str"] (.tup xs) = pure (.bl false) := Eq.trans rfl rfl
@[simp] theorem isi_str_lst (cs : List Str) (xs : List D) : isiD cs [.b "str"] (.lst xs) = pure (.bl false) := Eq.trans rfl rfl
@[simp] theorem isi_str_dic (cs : List Str) (ks : List Key) (vs : List D) : isiD cs [.b "str"] (.dic ks vs) = pure (.bl false) := Eq.trans rfl rfl
theorem isi_str_ins {cs : List Str} {c : Str} (h : c ∈ cs) (ns : List Str) (fs : List D) : isiD cs [.b "str"] (.ins c ns fs) = pure (.bl false) := if_pos ⟨decide_eq_true h, rfl⟩
@[simp] theorem isi_tuple_non (cs : List Str) : isiD cs [.b "tuple"] .non = pure (.bl false) := Eq.trans rfl rfl
@[simp] theorem isi_tuple_bl (cs : List Str) (b : Bool) : isiD cs [.b "tuple"] (.bl b) = pure (.bl false) := Eq.trans rfl rfl
@[simp] theorem isi_tuple_int (cs : List Str) (i : Int) : isiD cs [.b "tuple"] (.int i) = pure (.bl false) := Eq.trans rfl rfl
@[simp] theorem isi_tuple_str (cs : List Str) (x : Str) : isiD cs [.b "tuple"] (.str x) = pure (.bl false) := Eq.trans rfl rfl
@[simp] theorem isi_tuple_tup (cs : List Str) (xs : List D) : isiD cs [.b "tuple"] (.tup xs) = pure (.bl true) := Eq.trans rfl rfl
@[simp] theorem isi_tuple_lst (cs : List Str) (xs : List D) : isiD cs [.b "tuple"] (.lst xs) = pure (.bl false) := Eq.trans rfl rfl
@[simp] theorem isi_tuple_dic (cs : List Str) (ks : List Key) (vs : List D) : isiD cs [.b "tuple"] (.dic ks vs) = pure (.bl false) := Eq.trans rfl rfl
theorem isi_tuple_ins {cs : List Str} {c : Str} (h : c ∈ cs) (ns : List Str) (fs : List D) : isiD cs [.b "tuple"] (.ins c ns fs) = pure (.bl false) := if_pos ⟨decide_eq_true h, rfl⟩
@[simp] theorem isi_list_non (cs : List Str) : isiD cs [.b "list"] .non = pure (.bl false) := Eq.trans rfl rfl
@[simp] theorem isi_list_bl (cs : List Str) (b : Bool) : isiD cs [.b "list"] (.bl b) = pure (.bl false) := Eq.trans rfl rfl
@[simp] theorem isi_list_int (cs : List Str) (i : Int) : isiD cs [.b "list"] (.int i) = pure (.bl false) := Eq.trans rfl rfl
@[simp] theorem isi_list_str (cs : List Str) (x : Str) : isiD cs [.b "list"] (.str x) = pure (.bl false) := Eq.trans rfl rfl
@[simp] theorem isi_list_tup (cs : List Str) (xs : List D) : isiD cs [.b "list"] (.tup xs) = pure (.bl false) := Eq.trans rfl rfl
@[simp] theorem isi_list_lst (cs : List Str) (xs : List D) : isiD cs [.b "list"] (.lst xs) = pure (.bl true) := Eq.trans rfl rfl
@[simp] theorem isi_list_dic (cs : List Str) (ks : List Key) (vs : List D) : isiD cs [.b "list"] (.dic ks vs) = pure (.bl false) := Eq.trans rfl rfl
theorem isi_list_ins {cs : List Str} {c : Str} (h : c ∈ cs) (ns : List Str) (fs : List D) : isiD cs [.b "list"] (.ins c ns fs) = pure (.bl false) := if_pos ⟨decide_eq_true h, rfl⟩
@[simp] theorem isi_dict_non (cs : List Str) : isiD cs [.b "dict"] .non = pure (.bl false) := Eq.trans rfl rfl
@[simp] theorem isi_dict_bl (cs : List Str) (b : Bool) : isiD cs [.b "dict"] (.bl b) = pure (.bl false) := Eq.trans rfl rfl
@[simp] theorem isi_dict_int (cs : List Str) (i : Int) : isiD cs [.b "dict"] (.int i) = pure (.bl false) := Eq.trans rfl rfl
@[simp] theorem isi_dict_str (cs : List Str) (x : Str) : isiD cs [.b "dict"] (.str x) = pure (.bl false) := Eq.trans rfl rfl
@[simp] theorem isi_dict_tup (cs : List Str) (xs : List D) : isiD cs [.b "dict"] (.tup xs) = pure (.bl false) := Eq.trans rfl rfl
@[simp] theorem isi_dict_lst (cs : List Str) (xs : List D) : isiD cs [.b "dict"] (.lst xs) = pure (.bl false) := Eq.trans rfl rfl
@[simp] theorem isi_dict_dic (cs : List Str) (ks : List Key) (vs : List D) : isiD cs [.b "dict"] (.dic ks vs) = pure (.bl true) := Eq.trans rfl rfl
theorem isi_dict_ins {cs : List Str} {c : Str} (h : c ∈ cs) (ns : List Str) (fs : List D) : isiD cs [.b "dict"] (.ins c ns fs) = pure (.bl false) := if_pos ⟨decide_eq_true h, rfl⟩
theorem isi_o_non {cs : List Str} {o : Str} (h : o ∈ cs) : isiD cs [.o o] .non = pure (.bl false) := if_pos ⟨rfl, by simp [tyOk, h]⟩
@[simp] theorem isi_lt_non (cs : List Str) : isiD cs [.b "list", .b "tuple"] .non = pure (.bl false) := Eq.trans rfl rfl
theorem isi_o_bl {cs : List Str} {o : Str} (h : o ∈ cs) (b : Bool) : isiD cs [.o o] (.bl b) = pure (.bl false) := if_pos ⟨rfl, by simp [tyOk, h]⟩
@[simp] theorem isi_lt_bl (cs : List Str) (b : Bool) : isiD cs [.b "list", .b "tuple"] (.bl b) = pure (.bl false) := Eq.trans rfl rfl
theorem isi_o_int {cs : List Str} {o : Str} (h : o ∈ cs) (i : Int) : isiD cs [.o o] (.int i) = pure (.bl false) := if_pos ⟨rfl, by simp [tyOk, h]⟩
@[simp] theorem isi_lt_int (cs : List Str) (i : Int) : isiD cs [.b "list", .b "tuple"] (.int i) = pure (.bl false) := Eq.trans rfl rfl
theorem isi_o_str {cs : List Str} {o : Str} (h : o ∈ cs) (x : Str) : isiD cs [.o o] (.str x) = pure (.bl false) := if_pos ⟨rfl, by simp [tyOk, h]⟩
@[simp] theorem isi_lt_str (cs : List Str) (x : Str) : isiD cs [.b "list", .b "tuple"] (.str x) = pure (.bl false) := Eq.trans rfl rfl
theorem isi_o_tup {cs : List Str} {o : Str} (h : o ∈ cs) (xs : List D) : isiD cs [.o o] (.tup xs) = pure (.bl false) := if_pos ⟨rfl, by simp [tyOk, h]⟩
@[simp] theorem isi_lt_tup (cs : List Str) (xs : List D) : isiD cs [.b "list", .b "tuple"] (.tup xs) = pure (.bl true) := Eq.trans rfl rfl
theorem isi_o_lst {cs : List Str} {o : Str} (h : o ∈ cs) (xs : List D) : isiD cs [.o o] (.lst xs) = pure (.bl false) := if_pos ⟨rfl, by simp [tyOk, h]⟩
@[simp] theorem isi_lt_lst (cs : List Str) (xs : List D) : isiD cs [.b "list", .b "tuple"] (.lst xs) = pure (.bl true) := Eq.trans rfl rfl
theorem isi_o_dic {cs : List Str} {o : Str} (h : o ∈ cs) (ks : List Key) (vs : List D) : isiD cs [.o o] (.dic ks vs) = pure (.bl false) := if_pos ⟨rfl, by simp [tyOk, h]⟩
@[simp] theorem isi_lt_dic (cs : List Str) (ks : List Key) (vs : List D) : isiD cs [.b "list", .b "tuple"] (.dic ks vs) = pure (.bl false) := Eq.trans rfl rfl
theorem isi_o_ins {cs : List Str} {o c : Str} (h : o ∈ cs) (h2 : c ∈ cs) (ns : List Str) (fs : List D) : isiD cs [.o o] (.ins c ns fs) = pure (.bl (decide (c = o))) := by
  unfold isiD
  exact (if_pos ⟨decide_eq_true h2, by simp [tyOk, h]⟩).trans (by simp [isKind])
theorem isi_lt_ins {cs : List Str} {c : Str} (h : c ∈ cs) (ns : List Str) (fs : List D) : isiD cs [.b "list", .b "tuple"] (.ins c ns fs) = pure (.bl false) := if_pos ⟨decide_eq_true h, rfl⟩
/-! ### data that can be compared -/
def flatN : Nat → D → Bool
  | _, .non => true
  | _, .bl _ => true
  | _, .int _ => true
  | _, .str x => PyData.canLay0 (.str x)
  | n + 1, .tup xs => xs.all (flatN n)
  | n + 1, .lst xs => xs.all (flatN n)
  | _, _ => false
theorem toPyL_of {n : Nat} (ih : ∀ d, flatN n d = true → ∃ x, toPy d = some x ∧ PyData.canLay0 x = true ∧ PyData.depth x ≤ n) : ∀ (ds : List D), ds.all (flatN n) = true → ∃ xs, toPyL ds = some xs ∧ PyData.canLayAll0 xs = true ∧ PyData.depthAll xs ≤ n ∧ xs.length = ds.length
  | [], _ => ⟨[], rfl, rfl, Nat.zero_le _, rfl⟩
  | d :: ds, h => by
    rw [List.all_cons, Bool.and_eq_true] at h
    obtain ⟨x, h1, h2, h3⟩ := ih d h.1
    obtain ⟨xs, k1, k2, k3, k4⟩ := toPyL_of ih ds h.2
    refine ⟨x :: xs, ?_, ?_, ?_, by rw [List.length_cons, k4, List.length_cons]⟩
    · show (match toPy d, toPyL ds with | some y, some ys => some (y :: ys) | _, _ => none) = _
      rw [h1, k1]
    · show (PyData.canLay0 x && PyData.canLayAll0 xs) = true
      rw [h2, k2]; rfl
    · show max (PyData.depth x) (PyData.depthAll xs) ≤ n
      omega
theorem flatN_py : ∀ (n : Nat) (d : D), flatN n d = true → ∃ x, toPy d = some x ∧ PyData.canLay0 x = true ∧ PyData.depth x ≤ n
  | _, .non, _ => ⟨_, rfl, rfl, Nat.zero_le _⟩
  | _, .bl _, _ => ⟨_, rfl, rfl, Nat.zero_le _⟩
  | _, .int _, _ => ⟨_, rfl, rfl, Nat.zero_le _⟩
  | 0, .str x, h => ⟨_, rfl, h, Nat.zero_le _⟩
  | n + 1, .str x, h => ⟨_, rfl, h, Nat.zero_le _⟩
  | 0, .tup _, h => by cases h
  | 0, .lst _, h => by cases h
  | n + 1, .tup ds, h => by
    obtain ⟨xs, k1, k2, k3, _⟩ := toPyL_of (flatN_py n) ds h
    exact ⟨.tuple xs, by show (toPyL ds).map _ = _; rw [k1]; rfl, k2, by show PyData.depthAll xs + 1 ≤ n + 1; omega⟩
  | n + 1, .lst ds, h => by
    obtain ⟨xs, k1, k2, k3, _⟩ := toPyL_of (flatN_py n) ds h
    exact ⟨.list xs, by show (toPyL ds).map _ = _; rw [k1]; rfl, k2, by show PyData.depthAll xs + 1 ≤ n + 1; omega⟩
  | 0, .ins _ _ _, h => by cases h
  | _ + 1, .ins _ _ _, h => by cases h
  | 0, .mref _, h => by cases h
  | _ + 1, .mref _, h => by cases h
  | 0, .dic _ _, h => by cases h
  | _ + 1, .dic _ _, h => by cases h
  | 0, .scr _, h => by cases h
  | _ + 1, .scr _, h => by cases h
  | 0, .xcp _ _ _, h => by cases h
  | _ + 1, .xcp _ _ _, h => by cases h
theorem shaped_of {x : PyData} {n : Nat} (h : PyData.canLay0 x = true) (h2 : PyData.depth x ≤ n) (hn : n ≤ 64) : SeqAt.shaped x = true := by
  unfold SeqAt.shaped
  rw [h, decide_eq_true (by omega : PyData.depth x ≤ 64)]; rfl
theorem nil_eq {n : Nat} {ds : List D} (h : ds.all (flatN n) = true) (hn : n < 64) : eqD (.lst ds) (.lst []) = pure (.bl ds.isEmpty) ∧ neD (.lst ds) (.lst []) = pure (.bl (!ds.isEmpty)) := by
  obtain ⟨xs, k1, k2, k3, k4⟩ := toPyL_of (flatN_py n) ds h
  have e1 : toPy (.lst ds) = some (.list xs) := by show (toPyL ds).map _ = _; rw [k1]; rfl
  have sh : SeqAt.shaped (.list xs) = true := shaped_of (n := n + 1) k2 (by show PyData.depthAll xs + 1 ≤ n + 1; omega) (by omega)
  have key : ∀ neg, eqDeep neg (.lst ds) (.lst []) = pure (.bl (if neg then !ds.isEmpty else ds.isEmpty)) := fun neg => by
    unfold eqDeep
    rw [e1]
    show (if SeqAt.shaped _ = true ∧ SeqAt.shaped (.list []) = true then _ else _) = _
    rw [if_pos ⟨sh, rfl⟩]
    have : PyData.eqv (.list xs) (.list []) = ds.isEmpty := by
      cases xs with
      | nil =>
        have : ds = [] := List.length_eq_zero_iff.mp k4.symm
        rw [this]; rfl
      | cons y ys =>
        cases ds with
        | nil => cases k4
        | cons _ _ => rfl
    rw [this]
  exact ⟨key false, key true⟩
/-! ### comprehensions that do not draw -/
theorem lcX_pure {mt : D → M Bool} {me : D → M D} (c : D → Bool) (f : D → D) : ∀ (ds acc : List D), (∀ d ∈ ds, mt d = pure (c d) ∧ (c d = true → me d = pure (f d))) → acc.length + ds.length ≤ sizeLine → lcX mt me ds acc = pure (acc ++ (ds.filter c).map f)
  | [], acc, _, _ => by simp [lcX]
  | d :: ds, acc, h, hl => by
    obtain ⟨h1, h2⟩ := h d (List.mem_cons_self ..)
    rw [List.length_cons] at hl
    unfold lcX
    rw [h1, B_pure]
    by_cases q : c d = true
    · rw [if_pos q, h2 q, B_pure, if_pos (by omega), lcX_pure c f ds (acc ++ [f d]) (fun z hz => h z (List.mem_cons_of_mem _ hz)) (by rw [List.length_append]; simp; omega), List.filter_cons_of_pos q]
      simp
    · rw [if_neg q, lcX_pure c f ds acc (fun z hz => h z (List.mem_cons_of_mem _ hz)) (by omega), List.filter_cons_of_neg q]
theorem lc_pureF {mt : D → M Bool} {me : D → M D} {ds : List D} (c : D → Bool) (f : D → D) (h : ∀ d ∈ ds, mt d = pure (c d) ∧ (c d = true → me d = pure (f d))) (hl : ds.length ≤ sizeLine) : lc mt me ds = pure ((ds.filter c).map f) := by
  unfold lc
  rw [lcX_pure c f ds [] h (by simpa using hl)]; rfl
theorem lc_map {me : D → M D} {ds : List D} (f : D → D) (h : ∀ d ∈ ds, me d = pure (f d)) (hl : ds.length ≤ sizeLine) : lc (fun _ => pure true) me ds = pure (ds.map f) := by
  rw [lc_pureF (fun _ => true) f (fun d hd => ⟨rfl, fun _ => h d hd⟩) hl, List.filter_eq_self.mpr fun _ _ => rfl]
/-! ### loops that do not draw -/
theorem loopN_pure {τ : Type} {f : D → τ → M τ} (g : D → τ → τ) : ∀ (ds : List D) (x : τ), (∀ d ∈ ds, ∀ x, f d x = pure (g d x)) → loopN f ds x = pure (ds.foldl (fun x d => g d x) x)
  | [], x, _ => rfl
  | d :: ds, x, h => by
    rw [loopN_cons, h d (List.mem_cons_self ..) x, B_pure, loopN_pure g ds _ fun z hz => h z (List.mem_cons_of_mem _ hz)]
    rfl
/-! ### draws -/
section
variable [Pre]
theorem HT.B {α β : Type} {n k : Nat} {m : M α} {f : α → M β} {P : α → Prop} {Q : β → Prop} (h : HT n m P) (hf : ∀ a, P a → HT k (f a) Q) : HT (n + k) (RM.B m f) Q := HT.bind h hf
/-- from the left -/
theorem HT.C {α β : Type} {n k : Nat} {m : M α} {f : α → M β} {P : α → Prop} {Q : β → Prop} (h : HT n m P) (hf : ∀ a, P a → HT k (f a) Q) : HT (k + n) (RM.B m f) Q := by rw [Nat.add_comm]; exact HT.bind h hf
theorem HT.Bp {α β : Type} {k : Nat} {m : M α} {f : α → M β} {x : α} {Q : β → Prop} (h : m = Pure.pure x) (hf : HT k (f x) Q) : HT k (RM.B m f) Q := by rw [h, B_pure]; exact hf
theorem HT.p0 {α : Type} {P : α → Prop} {x : α} (h : P x) (n : Nat := 0) : HT n (Pure.pure x : M α) P := HT.mono (HT.pure h) (Nat.zero_le _) fun _ h => h
theorem HT.e0 {α : Type} {x : α} {n : Nat} : HT n (Pure.pure x : M α) fun r => r = x := HT.p0 (P := fun r => r = x) rfl n
theorem HT.le {α : Type} {n k : Nat} {m : M α} {P : α → Prop} (h : HT n m P) (hn : n ≤ k) : HT k m P := HT.mono h hn fun _ h => h
theorem HT.imp {α : Type} {n : Nat} {m : M α} {P Q : α → Prop} (h : HT n m P) (hp : ∀ a, P a → Q a) : HT n m Q := HT.mono h (Nat.le_refl _) hp
theorem HT.drawI {n : Int} (hn : 0 < n) (hl : n < 18446744073709551616 := by omega) : HT 1 (drawM [.mref Pre.ix, .int n]) fun d => ∃ k, d = .int k ∧ 0 ≤ k ∧ k < n := drawM_ok hn (by
  have h2 : n.natAbs ≠ 0 := by omega
  have := (Nat.log2_lt h2 (k := 64)).mpr (by omega)
  omega)
theorem HT.draw {β : Type} {n : Int} {k : Nat} {f : D → M β} {Q : β → Prop} (hn : 0 < n) (hf : ∀ i, 0 ≤ i → i < n → HT k (f (.int i)) Q) (hl : n < 18446744073709551616 := by omega) : HT (k + 1) (RM.B (drawM [.mref Pre.ix, .int n]) f) Q := HT.C (HT.drawI hn hl) (by rintro _ ⟨i, rfl, h0, h1⟩; exact hf i h0 h1)
theorem HT.lend {n : Nat} {m : M D} {P : D → Prop} (h : HT n m P) (hp : ∀ d, P d → noLst d = true) : HT n (lendX m) P := by
  unfold lendX
  refine HT.le (HT.C (k := 0) (HT.noE h) fun d hd => ?_) (by omega)
  rw [if_pos (hp d hd)]
  exact HT.p0 hd
theorem ht_lcX {mt : D → M Bool} {me : D → M D} {n : Nat} {P : D → Prop} : ∀ (ds acc : List D), (∀ d ∈ ds, mt d = pure true ∧ HT n (me d) P) → acc.length + ds.length ≤ sizeLine → HT (ds.length * n) (lcX mt me ds acc) fun r => ∃ ys, r = acc ++ ys ∧ ys.length = ds.length ∧ ∀ y ∈ ys, P y
  | [], acc, _, _ => HT.p0 ⟨[], by simp, rfl, fun y hy => by cases hy⟩ _
  | d :: ds, acc, h, hl => by
    obtain ⟨h1, h2⟩ := h d (List.mem_cons_self ..)
    rw [List.length_cons] at hl
    unfold lcX
    rw [h1, B_pure, if_pos rfl]
    have sz : (d :: ds).length * n = n + ds.length * n := by rw [List.length_cons, Nat.add_mul, Nat.one_mul, Nat.add_comm]
    rw [sz]
    refine HT.B h2 fun y hy => ?_
    rw [if_pos (by omega)]
    refine HT.imp (ht_lcX ds (acc ++ [y]) (fun z hz => h z (List.mem_cons_of_mem _ hz)) (by rw [List.length_append]; simp; omega)) ?_
    rintro r ⟨ys, rfl, hl2, hp⟩
    exact ⟨y :: ys, by simp, by rw [List.length_cons, hl2, List.length_cons], fun z hz => by
      rcases List.mem_cons.mp hz with rfl | hz
      · exact hy
      · exact hp z hz⟩
theorem ht_lcN {mt : D → M Bool} {me : D → M D} {n : Nat} {P : D → Prop} {ds : List D} (h : ∀ d ∈ ds, mt d = pure true ∧ HT n (me d) P) (hl : ds.length ≤ sizeLine) : HT (ds.length * n) (lc mt me ds) fun r => r.length = ds.length ∧ ∀ y ∈ r, P y := by
  unfold lc
  refine HT.noE (HT.imp (ht_lcX ds [] h (by simpa using hl)) ?_)
  rintro r ⟨ys, rfl, h1, h2⟩
  exact ⟨h1, h2⟩
theorem ht_loopN {τ : Type} {f : D → τ → M τ} {n : Nat} {J : Nat → τ → Prop} : ∀ (ds : List D) (i : Nat) (x : τ), J i x → (∀ d ∈ ds, ∀ i x, J i x → HT n (f d x) (J (i + 1))) → HT (ds.length * n) (loopN f ds x) (J (i + ds.length))
  | [], i, x, h, _ => HT.p0 h _
  | d :: ds, i, x, h, hf => by
    have sz : (d :: ds).length * n = n + ds.length * n := by rw [List.length_cons, Nat.add_mul, Nat.one_mul, Nat.add_comm]
    rw [sz, loopN_cons]
    refine HT.B (hf d (List.mem_cons_self ..) i x h) fun y hy => ?_
    have := ht_loopN ds (i + 1) y hy fun z hz => hf z (List.mem_cons_of_mem _ hz)
    rw [List.length_cons]
    rwa [show i + 1 + ds.length = i + (ds.length + 1) by omega] at this
theorem ht_loopAux {τ : Type} {f : D → τ → M τ} {n N : Nat} {J : Nat → τ → Prop} : ∀ (ds : List D) (i : Nat) (x : τ), i + ds.length = N → J i x → (∀ d ∈ ds, ∀ i x, i < N → J i x → HT n (f d x) (J (i + 1))) → HT (ds.length * n) (loopN f ds x) (J N)
  | [], i, x, e, h, _ => by
    have : i = N := by simpa using e
    subst this
    exact HT.p0 h _
  | d :: ds, i, x, e, h, hf => by
    have sz : (d :: ds).length * n = n + ds.length * n := by rw [List.length_cons, Nat.add_mul, Nat.one_mul, Nat.add_comm]
    rw [List.length_cons] at e
    rw [sz, loopN_cons]
    refine HT.B (hf d (List.mem_cons_self ..) i x (by omega) h) fun y hy => ?_
    exact ht_loopAux ds (i + 1) y (by omega) hy fun z hz => hf z (List.mem_cons_of_mem _ hz)
theorem ht_loop0 {τ : Type} {f : D → τ → M τ} {n : Nat} (J : Nat → τ → Prop) (ds : List D) (x : τ) (h : J 0 x) (hf : ∀ d ∈ ds, ∀ i x, i < ds.length → J i x → HT n (f d x) (J (i + 1))) : HT (ds.length * n) (loopN f ds x) (J ds.length) := ht_loopAux ds 0 x (by omega) h hf
/-- a loop that goes on: nothing is returned -/
theorem ht_loopS {τ : Type} {f : D → τ → M (D ⊕ τ)} {n : Nat} {J : τ → Prop} : ∀ (ds : List D) (x : τ), J x → (∀ d ∈ ds, ∀ x, J x → HT n (f d x) fun r => ∃ y, r = .inr y ∧ J y) → HT (ds.length * n) (loopS f ds x) fun r => ∃ y, r = .inr y ∧ J y
  | [], x, h, _ => HT.p0 ⟨x, rfl, h⟩ _
  | d :: ds, x, h, hf => by
    have sz : (d :: ds).length * n = n + ds.length * n := by rw [List.length_cons, Nat.add_mul, Nat.one_mul, Nat.add_comm]
    rw [sz]
    show HT _ (RM.B (f d x) _) _
    refine HT.B (hf d (List.mem_cons_self ..) x h) ?_
    rintro r ⟨y, rfl, hy⟩
    exact ht_loopS ds y hy fun z hz => hf z (List.mem_cons_of_mem _ hz)
theorem ht_loopU {f : D → Unit → M (D ⊕ Unit)} {n : Nat} {ds : List D} (hf : ∀ d ∈ ds, HT n (f d ()) fun r => r = .inr ()) : HT (ds.length * n) (loopS f ds ()) fun r => r = .inr () := by
  refine HT.imp (ht_loopS (J := fun _ => True) ds () trivial fun d hd x _ => HT.imp (hf d hd) fun r e => ⟨(), e, trivial⟩) ?_
  rintro r ⟨y, rfl, _⟩
  rfl
end
theorem rangeD_one {j : Int} (h0 : 0 ≤ j) (h1 : j < 1000000) : rangeD [.int j] = pure (rangeL 0 j) := if_pos ⟨by omega, by omega⟩
theorem rangeL_length (i j : Int) : (rangeL i j).length = (j - i).toNat := by unfold rangeL; simp
theorem idx_at {xs : List D} {i : Int} (h0 : 0 ≤ i) (h1 : i < xs.length) : ∃ d, d ∈ xs ∧ xs[i.toNat]? = some d ∧ idxD (.lst xs) (.int i) = pure d ∧ idxD (.tup xs) (.int i) = pure d := by
  obtain ⟨d, hm, hg, ha⟩ := atI_in h0 h1
  exact ⟨d, hm, hg, by unfold idxD; dsimp only; rw [ha], by unfold idxD; dsimp only; rw [ha]⟩
/-- the beginning of a script -/
theorem good_begun (ns : List Int) (h : ns.length ≤ 63) : Good (begun ns) := by
  have ab : ∀ z : Int, 0 ≤ absI z := fun z => by unfold absI; split <;> omega
  refine ⟨fun z hz => ?_, fun z hz => ?_, Int.le_refl 0, Int.le_refl 0, ?_⟩
  · obtain ⟨c, hc, rfl⟩ := List.mem_map.mp hz
    have := of_decide_eq_true (List.mem_filter.mp hc).2
    omega
  · obtain ⟨c, _, rfl⟩ := List.mem_map.mp hz
    exact ab c
  · show (List.map _ (List.filter _ (List.map absI ns))).length ≤ 1000
    rw [List.length_map]
    have h1 := List.length_filter_le (fun c => decide (10 ^ 18 ≤ c)) (ns.map absI)
    rw [List.length_map] at h1
    omega
theorem begun_run [Pre] (ns : List Int) (h : ns.length ≤ 63) : begunD [.scr ns] Pre.pre = .ok (.mref Pre.ix) (onT (begun ns)) := by
  show (if ns.length ≤ 1000 then Res.ok (D.mref Pre.pre.length) (Pre.pre ++ [.tape (begun ns)]) else .stuck) = _
  rw [if_pos (by omega), Pre.hx]
/-- a law by its body's draws -/
theorem law_run [Pre] {ns : List Int} (h : ns.length ≤ 63) {k : D → M D} {n : Nat} (hn : n ≤ 1000000000000) (hk : HT n (k (.mref Pre.ix)) fun d => d = .bl true) : ∃ S', (B (begunD [.scr ns]) k) Pre.pre = .ok (.bl true) S' := by
  obtain ⟨a, t', e, _, _, rfl⟩ := hk (begun ns) (good_begun ns h) (by show (0 : Int) + _ ≤ _; omega)
  refine ⟨onT t', ?_⟩
  show (begunD [.scr ns] Pre.pre).andThen k = _
  rw [begun_run ns h]
  exact e
@[simp] theorem putX4_0 (a b c d y : D) : putX [a, b, c, d] y (.int 0) = pure [y, b, c, d] := Eq.trans rfl rfl
@[simp] theorem putX4_1 (a b c d y : D) : putX [a, b, c, d] y (.int 1) = pure [a, y, c, d] := Eq.trans rfl rfl
@[simp] theorem putX4_2 (a b c d y : D) : putX [a, b, c, d] y (.int 2) = pure [a, b, y, d] := Eq.trans rfl rfl
@[simp] theorem putX4_3 (a b c d y : D) : putX [a, b, c, d] y (.int 3) = pure [a, b, c, y] := Eq.trans rfl rfl
theorem putX_at {xs : List D} {y : D} {i : Int} (h0 : 0 ≤ i) (h1 : i < xs.length) : putX xs y (.int i) = pure (xs.set i.toNat y) := by
  unfold putX putO ixN
  dsimp only
  rw [if_pos h0, if_pos h1]; rfl
@[simp] theorem sizeLine_v : sizeLine = 16777216 := PySem.sizeLine_eq
end RM

/-! RM: how long a repr is. -/
namespace RM
open PySem PySem.Spec PyProof.Rows L2
mutual
def wt : PyData → Nat
  | .list xs => wts xs + 2
  | .tuple xs => wts xs + 3
  | .none => 4
  | .bool _ => 5
  | .int i => (PyData.shown (.int i)).length
  | .str x => (PyData.shown (.str x)).length
  | .dict kvs => (PyData.shown (.dict kvs)).length
def wts : List PyData → Nat
  | [] => 0
  | x :: xs => wt x + 2 + wts xs
end
def lens (ts : List Str) : Nat := (ts.map fun t => t.length + 2).sum
theorem textFrom_le : ∀ (ts : List Str) (k : Nat) (acc : Str), (textFrom k acc ts).length ≤ acc.length + lens ts
  | [], k, acc => by show acc.length ≤ acc.length + _; omega
  | t :: ts, k, acc => by
    have ih := textFrom_le ts (k + 1) (acc ++ (if k > 0 then ", " else "" : String) ++ t)
    have e : (acc ++ (if k > 0 then ", " else "" : String) ++ t).length ≤ acc.length + 2 + t.length := by
      rw [strLen_append, strLen_append]
      have : (Str.ofString (if k > 0 then ", " else "" : String)).length ≤ 2 := by split <;> decide
      omega
    show (textFrom (k + 1) (acc ++ (if k > 0 then ", " else "" : String) ++ t) ts).length ≤ _
    unfold lens at ih ⊢
    rw [List.map_cons, List.sum_cons]
    omega
theorem join_le : ∀ ts : List Str, (Str.join ", " ts).length ≤ lens ts
  | [] => Nat.zero_le _
  | [x] => by show x.length ≤ _; unfold lens; simp
  | x :: y :: r => by
    have ih := join_le (y :: r)
    show (x ++ ", " ++ Str.join ", " (y :: r)).length ≤ _
    rw [strLen_append, strLen_append]
    have : ((", " : String) : Str).length = 2 := rfl
    unfold lens at ih ⊢
    rw [List.map_cons, List.sum_cons]
    omega
mutual
theorem shown_le : ∀ x : PyData, (PyData.shown x).length ≤ wt x
  | .none => by decide +kernel
  | .bool true => by decide +kernel
  | .bool false => by decide +kernel
  | .int i => Nat.le_refl _
  | .str x => Nat.le_refl _
  | .dict kvs => Nat.le_refl _
  | .list xs => by
    have ih := shownAll_le xs
    show (listText (PyData.shownAll xs)).length ≤ wts xs + 2
    unfold listText
    rw [strLen_append]
    have := textFrom_le (PyData.shownAll xs) 0 "["
    have e1 : (("[" : String) : Str).length = 1 := rfl
    have e2 : (("]" : String) : Str).length = 1 := rfl
    omega
  | .tuple xs => by
    have ih := shownAll_le xs
    show (tupleText (PyData.shownAll xs)).length ≤ wts xs + 3
    unfold tupleText
    rw [strLen_append, strLen_append]
    have := join_le (PyData.shownAll xs)
    have e1 : (("(" : String) : Str).length = 1 := rfl
    have e2 : (Str.ofString (if (PyData.shownAll xs).length == 1 then ",)" else ")" : String)).length ≤ 2 := by split <;> decide
    omega
theorem shownAll_le : ∀ xs : List PyData, lens (PyData.shownAll xs) ≤ wts xs
  | [] => Nat.le_refl _
  | x :: xs => by
    have h1 := shown_le x
    have h2 := shownAll_le xs
    show lens (PyData.shown x :: PyData.shownAll xs) ≤ wt x + 2 + wts xs
    unfold lens at h2 ⊢
    rw [List.map_cons, List.sum_cons]
    omega
end
theorem wts_le {k : Nat} : ∀ {xs : List PyData}, (∀ x ∈ xs, wt x ≤ k) → wts xs ≤ xs.length * (k + 2)
  | [], _ => Nat.zero_le _
  | x :: xs, h => by
    have h1 := h x (by simp)
    have h2 := wts_le fun z hz => h z (List.mem_cons_of_mem x hz)
    show wt x + 2 + wts xs ≤ (xs.length + 1) * (k + 2)
    rw [Nat.add_mul]
    omega
theorem reprD_le {d : D} {x : PyData} (h : toPy d = some x) (s : x.showable = true) (dp : x.depth ≤ 64) (hw : wt x ≤ 1000000) : reprD [d] = pure (.str x.shown) := by
  unfold reprD
  dsimp only
  rw [h]
  exact if_pos ⟨s, dp, size_big _ (Nat.le_trans (shown_le x) hw)⟩
end RM

/-! RM: data whose repr is short. -/
namespace RM
open PySem PySem.Spec PyProof.Rows L2
mutual
def rp : PyData → Bool
  | .none => true
  | .bool _ => true
  | .int i => decide (i.natAbs < 10 ^ 12)
  | .str x => PyData.canLay0 (.str x)
  | .list xs => rps xs
  | .tuple xs => rps xs
  | .dict _ => false
def rps : List PyData → Bool
  | [] => true
  | x :: xs => rp x && rps xs
end
theorem show_small {i : Int} (h : i.natAbs < 10 ^ 12) : PyData.showable (.int i) = true := by
  show decide (i.natAbs.log2 < 1920) = true
  refine decide_eq_true ?_
  by_cases z : i.natAbs = 0
  · rw [z]; decide
  · exact (Nat.log2_lt z).mpr (Nat.lt_trans h (by decide +kernel))
mutual
theorem rp_ok : ∀ x : PyData, rp x = true → x.canLay0 = true ∧ x.intsShort 13 = true ∧ x.showable = true
  | .none, _ => ⟨rfl, rfl, rfl⟩
  | .bool _, _ => ⟨rfl, rfl, rfl⟩
  | .int i, h => by
    have h : i.natAbs < 10 ^ 12 := of_decide_eq_true h
    exact ⟨rfl, decide_eq_true (PyData.shown_int_le h), show_small h⟩
  | .str x, h => ⟨h, rfl, rfl⟩
  | .list xs, h => rps_ok xs h
  | .tuple xs, h => rps_ok xs h
  | .dict _, h => by cases h
theorem rps_ok : ∀ xs : List PyData, rps xs = true → PyData.canLayAll0 xs = true ∧ PyData.intsShortAll 13 xs = true ∧ PyData.showableAll xs = true
  | [], _ => ⟨rfl, rfl, rfl⟩
  | x :: xs, h => by
    have h : (rp x && rps xs) = true := h
    rw [Bool.and_eq_true] at h
    obtain ⟨a, b, c⟩ := rp_ok x h.1
    obtain ⟨d, e, f⟩ := rps_ok xs h.2
    refine ⟨?_, ?_, ?_⟩
    · show (PyData.canLay0 x && PyData.canLayAll0 xs) = true
      rw [a, d]; rfl
    · show (PyData.intsShort 13 x && PyData.intsShortAll 13 xs) = true
      rw [b, e]; rfl
    · show (PyData.showable x && PyData.showableAll xs) = true
      rw [c, f]; rfl
end
theorem repr_rp {d : D} {x : PyData} (h : toPy d = some x) (r : rp x = true) (dp : x.depth ≤ 64) (w : x.weight ≤ 2 ^ 20) : reprD [d] = pure (.str x.shown) := by
  obtain ⟨a, b, c⟩ := rp_ok x r
  unfold reprD
  dsimp only
  rw [h]
  exact if_pos ⟨c, dp, PyData.shown_fits (by decide) (by decide) (PyData.leavesShort_of_canLay0 13 x a b) w⟩
/-- the pieces of a repr, told of data -/
structure Rp (n w : Nat) (d : D) : Prop where
  ex : ∃ x, toPy d = some x ∧ rp x = true ∧ x.depth ≤ n ∧ x.weight ≤ w
theorem Rp.le {n w n' w' : Nat} {d : D} (h : Rp n w d) (h1 : n ≤ n') (h2 : w ≤ w') : Rp n' w' d := by
  obtain ⟨x, a, b, c, e⟩ := h.ex
  exact ⟨x, a, b, by omega, by omega⟩
theorem Rp.repr {n w : Nat} {d : D} (h : Rp n w d) (hn : n ≤ 64) (hw : w ≤ 1000000) : ∃ s, reprD [d] = pure (.str s) := by
  obtain ⟨x, a, b, c, e⟩ := h.ex
  exact ⟨_, repr_rp a b (by omega) (by have : (2 : Nat) ^ 20 = 1048576 := by decide
                                       omega)⟩
structure RpL (n w : Nat) (ds : List D) : Prop where
  ex : ∃ xs, toPyL ds = some xs ∧ rps xs = true ∧ PyData.depthAll xs ≤ n ∧ PyData.weightAll xs ≤ w
theorem Rp.non : Rp 0 0 .non := ⟨_, rfl, rfl, Nat.le_refl _, Nat.le_refl _⟩
theorem Rp.bl (b : Bool) : Rp 0 0 (.bl b) := ⟨_, rfl, rfl, Nat.le_refl _, Nat.le_refl _⟩
theorem Rp.int {i : Int} (h : i.natAbs < 10 ^ 12) : Rp 0 50 (.int i) := by
  refine ⟨_, rfl, decide_eq_true h, Nat.le_refl _, ?_⟩
  show (if i == 0 then 0 else i.natAbs.log2 + 1) ≤ 50
  split
  · omega
  · rename_i z
    have z : i.natAbs ≠ 0 := fun e => z (by have : i = 0 := by omega
                                            rw [this]; rfl)
    have := (Nat.log2_lt z).mpr (Nat.lt_trans h (show 10 ^ 12 < 2 ^ 49 by decide +kernel))
    omega
theorem Rp.str {x : Str} {w : Nat} (h : PyData.canLay0 (.str x) = true) (hw : x.cps.size ≤ w) : Rp 0 w (.str x) := ⟨_, rfl, h, Nat.le_refl _, hw⟩
theorem RpL.nil : RpL 0 0 [] := ⟨_, rfl, rfl, Nat.le_refl _, Nat.le_refl _⟩
theorem RpL.cons {n n' w w' : Nat} {d : D} {ds : List D} (h : Rp n w d) (t : RpL n' w' ds) : RpL (max n n') (w + 1 + w') (d :: ds) := by
  obtain ⟨x, a, b, c, e⟩ := h.ex
  obtain ⟨xs, a', b', c', e'⟩ := t.ex
  refine ⟨x :: xs, ?_, ?_, ?_, ?_⟩
  · show (match toPy d, toPyL ds with | some y, some ys => some (y :: ys) | _, _ => none) = _
    rw [a, a']
  · show (rp x && rps xs) = true
    rw [b, b']; rfl
  · show max (PyData.depth x) (PyData.depthAll xs) ≤ _
    omega
  · show PyData.weight x + 1 + PyData.weightAll xs ≤ _
    omega
theorem RpL.le {n w n' w' : Nat} {ds : List D} (h : RpL n w ds) (h1 : n ≤ n') (h2 : w ≤ w') : RpL n' w' ds := by
  obtain ⟨x, a, b, c, e⟩ := h.ex
  exact ⟨x, a, b, by omega, by omega⟩
theorem RpL.all {n w : Nat} : ∀ {ds : List D}, (∀ d ∈ ds, Rp n w d) → RpL n (ds.length * (w + 1)) ds
  | [], _ => RpL.nil.le (by omega) (by omega)
  | d :: ds, h => (RpL.cons (h d (by simp)) (RpL.all fun x hx => h x (List.mem_cons_of_mem _ hx))).le (by omega) (by rw [List.length_cons, Nat.add_mul]; omega)
theorem Rp.tup {n w : Nat} {ds : List D} (h : RpL n w ds) : Rp (n + 1) w (.tup ds) := by
  obtain ⟨xs, a, b, c, e⟩ := h.ex
  refine ⟨.tuple xs, ?_, b, ?_, e⟩
  · show (toPyL ds).map _ = _
    rw [a]; rfl
  · show PyData.depthAll xs + 1 ≤ _
    omega
theorem Rp.lst {n w : Nat} {ds : List D} (h : RpL n w ds) : Rp (n + 1) w (.lst ds) := by
  obtain ⟨xs, a, b, c, e⟩ := h.ex
  refine ⟨.list xs, ?_, b, ?_, e⟩
  · show (toPyL ds).map _ = _
    rw [a]; rfl
  · show PyData.depthAll xs + 1 ≤ _
    omega
end RM

/-! RY: enumerate over lists and tuples. -/
namespace RM
open PySem PySem.Spec PyProof.Rows L2
theorem meets_enumB1 {v : Value} {o : Obj} {H : Heap → Prop} (B : Begins v o H) :
    Meets (Builtin.«enumerate.__new__» ⟨[.type "enumerate", v], []⟩) (fun _ R s => H s.heap ∧
      R (.ok (.ret (.ref (s.heap.push o).objs.size))) { s with heap := (s.heap.push o).push { cls := .type "enumerate", data := .fields #[.none, .bool false, .ref s.heap.objs.size, rawInt 0, .none, .none] } }) :=
  .of_wp fun prog w A R s h => by
    obtain ⟨hp, g, d, tk, os⟩ := s; obtain ⟨h1, h⟩ := h
    have hsub := sub_enumerate
    have q1 : ∀ {A' : Around} {E : Value → Shared → Prop} {Q : Value → Shared → Prop}, Q (.ref hp.objs.size) ⟨hp.push o, g, d, tk, os⟩ → wpAny (model prog w) A' (pyIter v) Q E ⟨hp, g, d, tk, os⟩ :=
      fun q => B.iter prog w _ _ ⟨hp, g, d, tk, os⟩ _ h1 q
    wp_walk using q1
    refine wpAny_stack_any fun st => wpAny_pure ?_
    split
    · rename_i c _ _ _ _ _
      cases (c == Value.type "enumerate")
      · wp_walk using q1
        exact ⟨_, rfl, h⟩
      · wp_walk using q1
        exact ⟨_, rfl, h⟩
    · wp_walk using q1
      exact ⟨_, rfl, h⟩
theorem call_enumB1 {prog : Program} {w : World} {A : Around} {E : Value → Shared → Prop} {s : Shared} {v : Value} {o : Obj} {H : Heap → Prop} {Q : Value → Shared → Prop} (B : Begins v o H) (h1 : H s.heap)
    (h : ∀ h', IsEnum h' (s.heap.objs.size + 1) s.heap.objs.size 0 .none → h'.get? s.heap.objs.size = some o → h'.objs.size = s.heap.objs.size + 2 →
      (∀ b o, s.heap.get? b = some o → h'.get? b = some o) → Q (.ref (s.heap.objs.size + 1)) { s with heap := h' }) :
    wpAny (model prog w) A (call (.type "enumerate") [v]) Q E s := by
  refine callType_new F.called_enumerate (by decide) (F.typeCall_enumerate_1 _) (F.newCall_enumerate_1 _) (fun obj => F.args_object_init_2 obj _) F.entry_enumerate_new
    (meets_enumB1 B) ⟨h1, ?_⟩
  have hz : (s.heap.push o).objs.size = s.heap.objs.size + 1 := Heap.size_push ..
  show _ ∧ _
  rw [hz]
  have he : IsEnum ((s.heap.push o).push { cls := .type "enumerate", data := .fields #[.none, .bool false, .ref s.heap.objs.size, rawInt 0, .none, .none] }) (s.heap.objs.size + 1) s.heap.objs.size 0 .none := by
    have := Heap.get?_push_size (s.heap.push o) (o := { cls := .type "enumerate", data := .fields #[.none, .bool false, .ref s.heap.objs.size, rawInt 0, .none, .none] }) rfl
    rw [hz] at this; exact this
  refine ⟨⟨_, he, rfl⟩, h _ he (Heap.get?_push_of_some _ (Heap.get?_push_size _ B.free)) (by rw [Heap.size_push, hz]) fun b o x => Heap.get?_push_of_some _ (Heap.get?_push_of_some _ x)⟩
/-- the tuple at a, each item in a new pair -/
def IteT (K : PySem.W.Frag) (a : Addr) : It :=
  ⟨fun i H => ∃ (xs : List V) (x : V), SqT K H a xs ∧ xs[i]? = some x, fun i H v H' => ∃ T x, v = .ref T ∧ H T = none ∧ H' = upd H T (.tup [.int (i : Nat), x]) ∧ ∀ xs, SqT K H a xs → xs[i]? = some x, fun i H => ∃ xs : List V, SqT K H a xs ∧ xs.length ≤ i⟩
theorem turn_enumT {P : Program} {w : World} {K : PySem.W.Frag} {elts : List Expr} {kk : Nat} {tpos : Pos} (a e it : Addr) (hai : a ≠ it) (hea : e ≠ a) :
    Turn P w K (.Tuple elts kk tpos) (IteT K a) [e, it] e (fun i h => (∃ old, IsEnum h e it ((i : Nat) : Int) old) ∧ h.IsTupleIter it a i ∧ e ≠ it) where
  mem := by simp
  obj := fun i h st b hb => by
    obtain ⟨⟨old, he⟩, ⟨o, ho, hc, hd⟩, _⟩ := st
    have e' : b = e ∨ b = it := by simpa using hb
    rcases e' with z | z
    · rw [z]; exact ⟨_, he, fun v q => nomatch q⟩
    · rw [z]; exact ⟨o, ho, fun v q => by rw [hd] at q; cases q⟩
  keep := fun i h h' st k => let ⟨⟨old, he⟩, hi, hne⟩ := st; ⟨⟨old, k e (by simp) _ he⟩, hi.at fun o q => k it (by simp) o q, hne⟩
  item := by
    intro X hP hw hK hc i pins s σ H E I hf st hg
    subst hP hw hK
    obtain ⟨⟨old, he⟩, hit, hne⟩ := st
    obtain ⟨xs, x, hq, hx⟩ := hg
    obtain ⟨its, rv, p, hz⟩ := I.tuple hq
    obtain ⟨u, hu, ru⟩ := rv.get hx
    have hel : e < s.heap.objs.size := Heap.lt_size he
    have hil : it < s.heap.objs.size := by obtain ⟨_, q, _⟩ := hit; exact Heap.lt_size q
    have hil2 : i < its.toArray.size := by
      have := (List.getElem?_eq_some_iff.mp hu).1
      simpa using this
    have D := Draws.tuple (prog := X.prog) (w := X.w) (A := X.A.in1) (I.ok.hd hc) it a hai its.toArray
    refine wpAny_pyNext_enum_itemD D he ⟨hit, p⟩ hil2 hne (by simp [hne, hea]) fun x' h' tk hP ho hst' hT hsz hk => ?_
    obtain rfl : x' = u := by
      have h1 : its.toArray[i]? = some x' := hP
      have h2 : its.toArray[i]? = some u := by simpa using hu
      rw [h1] at h2; exact Option.some.inj h2
    obtain ⟨hit', _⟩ := hst'
    refine ⟨_, rfl, wpAny_letOwnedTupleGo_enum (s := { s with heap := h', toks := tk + 1 }) ho fun h'' he' sb => ?_⟩
    have hT2 : h''.get? s.heap.objs.size = some { cls := .type "tuple", data := .seq #[.int i tk, x'] } := (sb.2 _ (Nat.ne_of_gt hel)).trans hT
    have new : ObjOk X.prog X.w (upd H s.heap.objs.size (.tup [.int (i : Nat), x])) h'' s.heap.objs.size (.tup [.int (i : Nat), x]) :=
      ⟨by show 2 ≤ sizeLine; decide, [.int i tk, x'], .cons ⟨_, rfl⟩ (.cons ru .nil), ⟨_, hT2, rfl, _, rfl⟩⟩
    have I1 : Inv X pins σ (upd H s.heap.objs.size (.tup [.int (i : Nat), x])) { s with heap := h'', toks := tk + 1 } :=
      I.turnedNew (ch := [e, it]) (fun b ob hb q => (sb.2 b (fun z => hb (by simp [z]))).trans (hk b ob (fun z => hb (by simp [z])) (fun z => hb (by simp [z])) q)) hf (Nat.le_refl _) new
    refine ⟨.ref s.heap.objs.size, _, I1, rfl, ⟨_, x, rfl, I.hok.fresh (Nat.le_refl _), rfl, fun ys hy => by rw [I.tuple_inj hy hq]; exact hx⟩, ⟨⟨x', ?_⟩, hit'.at fun o q => (sb.2 it (Ne.symm hne)).trans q, hne⟩, fun b hb => ?_⟩
    · have e1 : ((i + 1 : Nat) : Int) = (i : Int) + 1 := by omega
      rw [e1]; exact he'
    · have hb' : b < s.heap.objs.size := by
        have e' : b = e ∨ b = it := by simpa using hb
        rcases e' with z | z
        · rw [z]; exact hel
        · rw [z]; exact hil
      rw [upd_ne (Nat.ne_of_lt hb')]
      exact (hf b hb).1
  done := by
    intro X hP hw hK hc i pins s σ H E I hf st hg
    subst hP hw hK
    obtain ⟨⟨old, he⟩, hit, hne⟩ := st
    obtain ⟨xs, hq, hx⟩ := hg
    obtain ⟨its, rv, p, hz⟩ := I.tuple hq
    obtain ⟨f0, f1, f2, f3, f4, f5⟩ := hf it (by simp)
    have hl := rv.length
    have hT : s.TypeIs (.ref e) "enumerate" := ⟨_, he, rfl⟩
    unfold pyNext
    refine wpAny_bind (wpAny_attempt (wpAny_callSpecial?_slot (name := Str.ofString "__next__") hT F.slot_enumerate_next
      (wpAny_call_entry F.slot_enumerate_next hT F.entry_enumerate_next ?_ (F.args_enumerate_next_1 _))))
    show wpAny _ _ (field (.ref e) 2 >>= _) _ _ _
    refine wpAny_bind (wpAny_field he rfl (x := .ref it) rfl ?_)
    refine wpAny_bind (wpAny_nextOf_tuple_end (I.ok.hd hc) hit p (by simp; omega) fun h' x he' hx' => ?_)
    obtain ⟨o, ho, hc⟩ := hx'
    refine wpAny_bind (wpAny_isInstance (T := "StopIteration") (b := true) ⟨o, ho, hc⟩ isSubtype_stop ?_)
    exact wpAny_pure ⟨rfl, I.turned (t' := s.toks) (fun b o hb q => he' b o hb q) f0 f1 f3 f4 f5⟩
  self := fun A i s Q E st h => let ⟨⟨_, he⟩, _⟩ := st; wpAny_pyIter_enum he h
def iEnumT (K : PySem.W.Frag) (ta : TA) : TI := fun σ H R => ta σ H fun vs H1 => ∃ a xs, vs = [.ref a] ∧ SqT K H1 a xs ∧ R (IteT K a) H1
theorem pi_enumT {X : Cx} {e : Expr} {ta : TA} {p pos tpos : Pos} {elts : List Expr} {kk : Nat} (hg : Gl X "enumerate") (hm : X.mg "enumerate" = none) (ha : PA X [e] ta) (hs : starEach [e] X.env = [(false, eval e X.env)] := by rfl) :
    PI X (.Tuple elts kk tpos) (.Call (.Name "enumerate" p) [e] [] pos) (iEnumT X.K ta) := by
  refine ⟨fun pins s σ H R I h => ?_⟩
  refine Call_ (ld_blt I hg hm boot_enumerate (PyProof.Rows.callWith_type1 (thn (ha.run pos pins s σ H _ I h) fun us s1 ⟨vs, H1, I1, r1, q1⟩ => ?_) hs rfl))
  obtain ⟨a, xs, ex, hq, q⟩ := q1
  subst ex
  cases r1 with
  | cons r rr =>
    cases rr
    cases r
    obtain ⟨its, rv, p', hz⟩ := I1.tuple hq
    have hal : a < s1.heap.objs.size := by obtain ⟨_, q, _⟩ := p'; exact Heap.lt_size q
    refine call_enumB1 (begins_tuple a its.toArray) p' fun h' he hit hsz hk => wpAny_pyIter_enum he ?_
    have I2 : Inv X pins σ H1 { s1 with heap := h' } := I1.kept (t' := s1.toks) hk
    refine ⟨s1.heap.objs.size + 1, [s1.heap.objs.size + 1, s1.heap.objs.size], _, _, H1, rfl, I2, turn_enumT a (s1.heap.objs.size + 1) s1.heap.objs.size (Nat.ne_of_lt hal) (Nat.ne_of_gt (Nat.lt_succ_of_lt hal)), ⟨⟨.none, he⟩, ⟨_, hit, rfl, rfl⟩, Nat.succ_ne_self _⟩, fun b hb => ?_, q⟩
    have e' : b = s1.heap.objs.size + 1 ∨ b = s1.heap.objs.size := by simpa using hb
    have hle : s1.heap.objs.size ≤ b := by
      rcases e' with z | z
      · rw [z]; exact Nat.le_add_right _ _
      · rw [z]; exact Nat.le_refl _
    exact I1.fpOk hle (I1.hok.fresh hle)
/-! ### the data -/
def enumFrom : Nat → List D → List D
  | _, [] => []
  | k, d :: ds => .tup [.int k, d] :: enumFrom (k + 1) ds
def enumD : D → M (List D)
  | .lst xs => pure (enumFrom 0 xs)
  | .tup xs => pure (enumFrom 0 xs)
  | _ => stuck
theorem enumFrom_len : ∀ (xs : List D) (k : Nat), (enumFrom k xs).length = xs.length
  | [], _ => rfl
  | _ :: xs, k => by
    show (enumFrom (k + 1) xs).length + 1 = xs.length + 1
    rw [enumFrom_len xs]
theorem enumFrom_get : ∀ (xs : List D) (k i : Nat), (enumFrom k xs)[i]? = (xs[i]?).map fun d => .tup [.int ((k + i : Nat) : Int), d]
  | [], _, _ => rfl
  | _ :: _, _, 0 => rfl
  | _ :: xs, k, i + 1 => by
    show (enumFrom (k + 1) xs)[i]? = _
    rw [enumFrom_get xs]
    show _ = (xs[i]?).map _
    rw [show k + 1 + i = k + (i + 1) from by omega]
section
variable {K : PySem.W.Frag} {p : List (List Addr)} {G : Hp}
theorem itok_enum {a : Addr} {ds : List D} {vs : List V} (h : SqL K G a vs) (dn : DenL K p G ds vs) : ItOk K p G (enumFrom 0 ds) (Ite K a) where
  go := fun i H s hi => by
    rw [enumFrom_len] at hi
    have hl := dn.length
    exact ⟨vs, vs[i], s.seq h, by simp [hl, hi]⟩
  stop := fun H s => ⟨vs, s.seq h, by rw [enumFrom_len, dn.length]; exact Nat.le_refl _⟩
  yld := fun i d H x H' e s y => by
    obtain ⟨T, x', rfl, hT, rfl, y⟩ := y
    rw [enumFrom_get] at e
    cases e0 : ds[i]? with
    | none => rw [e0] at e; cases e
    | some d0 =>
      rw [e0] at e
      obtain ⟨v, e1, e2⟩ := dn.get e0
      have := y vs (s.seq h)
      rw [e1] at this
      cases this
      cases e
      refine .inr ⟨T, _, _, rfl, hT, rfl, rfl, DenL.cons (d := .int _) ?_ (DenL.one e2)⟩
      show V.int _ = V.int _
      rw [Nat.zero_add]
theorem itok_enumT {a : Addr} {ds : List D} {vs : List V} (h : SqT K G a vs) (dn : DenL K p G ds vs) : ItOk K p G (enumFrom 0 ds) (IteT K a) where
  go := fun i H s hi => by
    rw [enumFrom_len] at hi
    have hl := dn.length
    exact ⟨vs, vs[i], SqT.mono s h, by simp [hl, hi]⟩
  stop := fun H s => ⟨vs, SqT.mono s h, by rw [enumFrom_len, dn.length]; exact Nat.le_refl _⟩
  yld := fun i d H x H' e s y => by
    obtain ⟨T, x', rfl, hT, rfl, y⟩ := y
    rw [enumFrom_get] at e
    cases e0 : ds[i]? with
    | none => rw [e0] at e; cases e
    | some d0 =>
      rw [e0] at e
      obtain ⟨v, e1, e2⟩ := dn.get e0
      have := y vs (SqT.mono s h)
      rw [e1] at this
      cases this
      cases e
      refine .inr ⟨T, _, _, rfl, hT, rfl, rfl, DenL.cons (d := .int _) ?_ (DenL.one e2)⟩
      show V.int _ = V.int _
      rw [Nat.zero_add]
end
section
variable {X : Cx} {W : WX} {g : DSt} {a : Expr} {ma : M D} {p pos tpos : Pos} {elts : List Expr} {kk : Nat}
theorem xi_enum (hg : Gl X "enumerate") (hm : X.mg "enumerate" = none) (ha : XE X W g a ma) (hs : starEach [a] X.env = [(false, eval a X.env)] := by rfl) : XI X W g (.Tuple elts kk tpos) (.Call (.Name "enumerate" p) [a] [] pos) (B ma enumD) := by
  have hA : PA X [a] _ := pa_cons ha pa_nil hs
  refine PI.imp (PI.or (pi_enum hg hm hA hs) (pi_enumT hg hm hA hs)) fun σ H R ⟨p, G, S, ow, r, h⟩ => ?_
  have h : okR (ItOk X.K) X.K p G H (fun c d H' => W c d σ H') ((ma S).andThen enumD) R := h
  cases e : ma S with
  | stuck => rw [e] at h; exact h.elim
  | exc z S1 =>
    rw [e] at h
    exact .inl ⟨p, G, S, ow, r, by rw [e]; exact h⟩
  | ok d S1 =>
    rw [e] at h
    cases d <;> try exact h.elim
    · rename_i xs
      refine .inr ⟨p, G, S, ow, r, ?_⟩
      rw [e]
      intro v p1 G1 H1 dn r1 x1
      obtain ⟨l, vs, rfl, hl, hv⟩ := dn
      exact ⟨l, vs, rfl, SqT.mono r1.sub hl, h _ p1 G1 H1 (itok_enumT hl hv) r1 x1⟩
    · rename_i xs
      refine .inl ⟨p, G, S, ow, r, ?_⟩
      rw [e]
      intro v p1 G1 H1 dn r1 x1
      obtain ⟨l, vs, rfl, hl, hv⟩ := dn
      exact ⟨l, vs, rfl, SqL.of (r1.sub _ _ hl), h _ p1 G1 H1 (itok_enum (SqL.of hl) hv) r1 x1⟩
end
end RM

/-! RY: tables of the top (text keys, text values). -/
namespace RM
open PySem PySem.Spec PyProof.Rows L2
abbrev TT := List (Str × Str)
/-- at the global x: a dict written with these keys and values -/
structure TabF (K : PySem.W.Frag) (w : World) (a : Addr) (kvs : TT) : Prop where
  d : ∃ es n, KDict K w a es n
  v : ∀ z, ∃ r, PySem.W.nsIn K a z = some r ∧ (match kvs.lookup z with
    | some y => ∃ u, r = some u ∧ RelV (.str y) u
    | none => r = none)
def tabVals (kvs : TT) : List (Str × He.Dv) := kvs.map fun q => (q.1, .str q.2)
theorem lookup_mem {α : Type} : ∀ {kvs : List (Str × α)} {z : Str} {y : α}, kvs.lookup z = some y → (z, y) ∈ kvs
  | [], _, _, h => by cases h
  | q :: r, z, y, h => by
    obtain ⟨k, v⟩ := q
    rw [List.lookup_cons] at h
    cases e : z == k with
    | true =>
      rw [e] at h
      cases h
      rw [beq_iff_eq.mp e]
      exact List.mem_cons_self ..
    | false =>
      rw [e] at h
      exact List.mem_cons_of_mem _ (lookup_mem h)
theorem lookup_none {α : Type} : ∀ {kvs : List (Str × α)} {z : Str}, kvs.lookup z = none → z ∉ kvs.map (·.1)
  | [], _, _ => by simp
  | q :: r, z, h => by
    obtain ⟨k, v⟩ := q
    rw [List.lookup_cons] at h
    cases e : z == k with
    | true => rw [e] at h; cases h
    | false =>
      rw [e] at h
      have := lookup_none h
      simp only [List.map_cons, List.mem_cons, not_or]
      exact ⟨fun q => by rw [q] at e; simp at e, this⟩
theorem keyOf_mem {P : Params} : ∀ {l : List DictEntry} {ks : List Str}, l.map He.keyOf = He.keysIn P ks → ∀ e ∈ l, ∃ x t, e.key = .str x t ∧ x ∈ ks
  | [], _, _, e, he => by cases he
  | e :: r, [], h, _, _ => by cases h
  | e :: r, k :: ks, h, e', he => by
    have h1 : He.keyOf e :: r.map He.keyOf = some (k, PyData.keyHash P k) :: He.keysIn P ks := h
    injection h1 with h2 h3
    rcases List.mem_cons.mp he with rfl | he
    · unfold He.keyOf at h2
      split at h2
      · rename_i x t q
        obtain ⟨h5, h6⟩ := Prod.mk.inj (Option.some.inj h2)
        exact ⟨x, t, q, by rw [h5]; exact List.mem_cons_self ..⟩
      · cases h2
    · obtain ⟨x, t, a, b⟩ := keyOf_mem h3 e' he
      exact ⟨x, t, a, List.mem_cons_of_mem _ b⟩
theorem tabF_of {K : PySem.W.Frag} {w : World} {a : Addr} {kvs : TT} (h : He.dicW K a = some (He.keysIn w.params (kvs.map (·.1)))) (hv : He.valsB K a (tabVals kvs) = true) : TabF K w a kvs := by
  obtain ⟨es, n, KD⟩ := He.dicW_ok h
  refine ⟨⟨es, n, KD⟩, fun z => ?_⟩
  cases e : kvs.lookup z with
  | some y =>
    have hm : (z, He.Dv.str y) ∈ tabVals kvs := List.mem_map.mpr ⟨_, lookup_mem e, rfl⟩
    obtain ⟨u, h1, h2⟩ := He.valsB_ok hv hm
    exact ⟨some u, h1, u, rfl, h2⟩
  | none =>
    refine ⟨none, ?_, rfl⟩
    have hz := lookup_none e
    have hk : es.toList.map He.keyOf = He.keysIn w.params (kvs.map (·.1)) := by
      have h2 := h
      unfold He.dicW at h2
      rw [KD.at_] at h2
      have h3 : (match decide ("dict" = "dict") && ((#[] : Array (Option Value)).isEmpty && !(a == sysModules)) with
        | true => some (es.toList.map He.keyOf)
        | false => none) = some (He.keysIn w.params (kvs.map (·.1))) := h2
      rw [KD.low] at h3
      exact Option.some.inj h3
    have hs := keyOf_mem hk
    unfold PySem.W.nsIn
    rw [KD.at_]
    have f1 : es.toList.find? (·.key.isStr z) = none := List.find?_eq_none.mpr fun x hx => by
      obtain ⟨y, t, e1, e2⟩ := hs x hx
      rw [e1]
      show ¬ (y == z) = true
      intro q
      rw [beq_iff_eq.mp q] at e2
      exact hz e2
    have f2 : es.toList.any (·.refKey) = false := List.any_eq_false.mpr fun x hx => by
      obtain ⟨y, t, e1, e2⟩ := hs x hx
      unfold DictEntry.refKey
      rw [e1]
      simp
    show (match es.toList.find? (·.key.isStr z) with
      | some e => some (some e.val)
      | none => if es.toList.any (·.refKey) then none else some none) = some none
    rw [f1, f2]
    rfl
/-! ### in, [] -/
def inTab (neg : Bool) (kvs : TT) : D → M D
  | .str z => pure (.bl (if neg then !(kvs.lookup z).isSome else (kvs.lookup z).isSome))
  | _ => stuck
def ixTab (kvs : TT) : D → M D
  | .str z => match kvs.lookup z with
    | some y => pure (.str y)
    | none => stuck
  | _ => stuck
section
variable {X : Cx} {V : Wf} {g : DSt} {a : Expr} {ma : M D} {pos p : Pos} {kvs : TT} {x : Str}
theorem TabF.some_eq {K : PySem.W.Frag} {w : World} {a : Addr} {kvs : TT} (T : TabF K w a kvs) (z : Str) : ∃ r, PySem.W.nsIn K a z = some r ∧ r.isSome = (kvs.lookup z).isSome := by
  obtain ⟨r, h1, h2⟩ := T.v z
  refine ⟨r, h1, ?_⟩
  cases e : kvs.lookup z with
  | some y =>
    rw [e] at h2
    obtain ⟨u, rfl, _⟩ := h2
    rfl
  | none =>
    rw [e] at h2
    rw [h2]
    rfl
theorem tab_in {w : Bool} (T : TabF X.K X.w (He.ga X.K x) kvs) : OpR X (compareOp (if w then .NotIn else .In)) (fun v u H Q => u = .ref (He.ga X.K x) ∧ ∃ z, v = .str z ∧ Q (.bl (if w then !(kvs.lookup z).isSome else (kvs.lookup z).isSome)) H) := by
  obtain ⟨es, n, KD⟩ := T.d
  cases w with
  | false =>
    intro pins s σ H v0 u0 v u Q I rx ry ⟨e, z, ez, q⟩
    obtain ⟨r, h1, h2⟩ := T.some_eq z
    exact op_in_kd KD pins s σ H v0 u0 v u Q I rx ry ⟨z, r, ez, e, h1, by rw [h2]; exact q⟩
  | true =>
    intro pins s σ H v0 u0 v u Q I rx ry ⟨e, z, ez, q⟩
    obtain ⟨r, h1, h2⟩ := T.some_eq z
    exact op_notIn_kd KD pins s σ H v0 u0 v u Q I rx ry ⟨z, r, ez, e, h1, by rw [h2]; exact q⟩
theorem xe_inT (T : TabF X.K X.w (He.ga X.K x) kvs) (hg : Gl X x) (hm : X.mg x = some (.ref (He.ga X.K x))) (ha : XE X V.x g a ma) (hd : (x == ("__debug__" : Str)) = false := by decide) : XE X V.x g (.Compare a [.In] [.Name x p] pos) (B ma (inTab false kvs)) := by
  refine PE.imp (pe_cmpR (tab_in (w := false) T) ha (pe_glob (v := .ref (He.ga X.K x)) hg hm rfl hd) rfl) fun σ H Q ⟨p, G, S, ow, r, h⟩ => ?_
  refine ⟨p, G, S, ow, r, okR.seq h fun d S1 v p1 G1 H1 e1 dn r1 x1 h1 => ?_⟩
  cases d <;> try exact h1.elim
  exact ⟨rfl, _, dn, okR.fin (d := D.bl _) (v := L2.V.bl _) h1 rfl r1⟩
theorem xe_notInT (T : TabF X.K X.w (He.ga X.K x) kvs) (hg : Gl X x) (hm : X.mg x = some (.ref (He.ga X.K x))) (ha : XE X V.x g a ma) (hd : (x == ("__debug__" : Str)) = false := by decide) : XE X V.x g (.Compare a [.NotIn] [.Name x p] pos) (B ma (inTab true kvs)) := by
  refine PE.imp (pe_cmpR (tab_in (w := true) T) ha (pe_glob (v := .ref (He.ga X.K x)) hg hm rfl hd) rfl) fun σ H Q ⟨p, G, S, ow, r, h⟩ => ?_
  refine ⟨p, G, S, ow, r, okR.seq h fun d S1 v p1 G1 H1 e1 dn r1 x1 h1 => ?_⟩
  cases d <;> try exact h1.elim
  exact ⟨rfl, _, dn, okR.fin (d := D.bl _) (v := L2.V.bl _) h1 rfl r1⟩
theorem ix_tab (T : TabF X.K X.w (He.ga X.K x) kvs) : IxR X (fun v u H Q => v = .ref (He.ga X.K x) ∧ ∃ z y, u = .str z ∧ kvs.lookup z = some y ∧ Q (.str y) H) := by
  obtain ⟨es, n, KD⟩ := T.d
  intro value slice pins s σ H v0 u0 v u Q I rx ry ⟨e, z, y, ez, ey, q⟩ hs
  subst e ez
  obtain ⟨r, h1, h2⟩ := T.v z
  rw [ey] at h2
  obtain ⟨u1, rfl, hu⟩ := h2
  cases rx
  refine tail_any (kd_type KD I) F.slot_dict_getitem.lookup ?_ hs
  exact op_item_kd KD pins s σ H (.ref _) (.str z) _ _ Q I rfl ry ⟨z, u1, .str y, rfl, rfl, h1, hu, q⟩
theorem xe_ixT (T : TabF X.K X.w (He.ga X.K x) kvs) (hg : Gl X x) (hm : X.mg x = some (.ref (He.ga X.K x))) (ha : XE X V.x g a ma) (hs : PlainIx a) (hd : (x == ("__debug__" : Str)) = false := by decide) : XE X V.x g (.Subscript (.Name x p) a pos) (B ma (ixTab kvs)) := by
  refine PE.imp (pe_ix (ix_tab T) (pe_glob (v := .ref (He.ga X.K x)) hg hm rfl hd) ha hs) fun σ H Q ⟨p, G, S, ow, r, h⟩ => ?_
  refine ⟨p, G, S, ow, r, okR.seq h fun d S1 v p1 G1 H1 e1 dn r1 x1 h1 => ?_⟩
  cases d <;> try exact h1.elim
  rename_i z
  have h1 : okR (Den X.K) X.K p1 G1 H1 _ ((match kvs.lookup z with
    | some y => (pure (.str y) : M D)
    | none => stuck) S1) Q := h1
  cases ez : kvs.lookup z with
  | none => rw [ez] at h1; exact h1.elim
  | some y =>
    rw [ez] at h1
    exact ⟨rfl, z, y, dn, ez, okR.fin (d := D.str y) (v := L2.V.str y) h1 rfl r1⟩
end
end RM

/-! RY: own ==, &, +, len; the hook with tables. -/
namespace RM
open PySem PySem.Spec PyProof.Rows L2
/-! ### == of two instances of one class -/
def eqX (T : MT) (d e : D) : M D := match d, e with
  | .ins c ns fs, .ins c' ns' fs' => if c' = c then match T.lookup c with
    | some h => B (h (.ins c ns fs) (.ins c' ns' fs')) fun r => B (asB r) fun b => pure (.bl b)
    | none => stuck
    else stuck
  | d, e => eqD d e
def opX (T : MT) (d e : D) : M D := match d, e with
  | .ins c ns fs, .ins c' ns' fs' => if c' = c then match T.lookup c with
    | some h => h (.ins c ns fs) (.ins c' ns' fs')
    | none => stuck
    else stuck
  | _, _ => stuck
section
variable {X : Cx} {V : Wf} {k : Nat} {T : MT}
theorem eqX_split {K : PySem.W.Frag} {p : List (List Addr)} {G H : Hp} {S : Sto} {Q : VK} {d e : D} (h : okR (Den K) K p G H V (eqX T d e S) Q) : (∃ c ns fs ns' fs' m, d = .ins c ns fs ∧ e = .ins c ns' fs' ∧ T.lookup c = some m ∧ okR (Den K) K p G H V (m d e S) fun r H' => ∃ b, r = .bl b ∧ Q (.bl b) H') ∨ okR (Den K) K p G H V (eqD d e S) Q := by
  unfold eqX at h
  split at h
  · rename_i c ns fs c' ns' fs'
    by_cases q : c' = c
    · rw [if_pos q] at h
      subst q
      cases el : T.lookup c' with
      | none => rw [el] at h; exact h.elim
      | some m =>
        rw [el] at h
        refine .inl ⟨_, _, _, _, _, m, rfl, rfl, el, ?_⟩
        have h : okR (Den K) K p G H V ((m (.ins c' ns fs) (.ins c' ns' fs') >>= fun r => asB r >>= fun b => pure (.bl b)) S) Q := h
        refine okR.seq h fun r S1 v p1 G1 H1 e1 dn r1 x1 h1 => ?_
        cases r <;> try exact h1.elim
        rename_i b
        cases (show v = .bl b from dn)
        exact ⟨b, rfl, okR.fin (d := D.bl b) (v := L2.V.bl b) h1 rfl r1⟩
    · rw [if_neg q] at h; exact h.elim
  · exact .inr h
theorem op_eqX (hu : X.A.units + 64 < cLine) (hT : AllM X k "__eq__" T) (hr : Room k X.A) (hG : X.A.guards = some []) (tk : Takes X V.x) : OpR X (compareOp .Eq) (rD X.K V (eqX T)) := by
  intro pins s σ H x y v u Q I rx ry ⟨d, e, p, G, S, hd, he, r, h⟩
  rcases eqX_split h with ⟨c, ns, fs, ns', fs', m, rfl, rfl, hl, h2⟩ | h2
  · obtain ⟨f, a, dx, xs, rfl, ha, _, me, run⟩ := own_run hT hl hr hG tk I rfl hd he ry r h2
    obtain rfl : v = Value.ref a := rx
    obtain ⟨od, J⟩ := inst_at I ha
    obtain ⟨a2, dx2, vs2, rfl, ha2, _⟩ := id he
    obtain rfl : u = Value.ref a2 := ry
    obtain ⟨od2, J2⟩ := inst_at I (r.sub _ _ ha2)
    obtain ⟨mm, F⟩ := I.fr
    show wpAny _ _ (richCompare .Eq (.ref a) (.ref a2)) _ _ _
    refine PySem.W.cmp_K (by omega) F I.mod.kin J J2.type (by unfold PySem.W.notFirst; simp) me.at_ me.fn (wpAny_mono run (fun rv s1 hz => ?_) fun _ _ z => z)
    obtain ⟨z, H1, I1, rz, b, rfl, q⟩ := hz
    cases (show rv = Value.bool b from rz)
    exact ⟨.bl b, H1, I1, rfl, q⟩
  · exact (op_eq.or (op_eqD hu)) pins s σ H x y v u Q I rx ry (by_eq d e x y p G H S V Q hd he r h2)
def AllF (K : PySem.W.Frag) : MT → Prop
  | [] => True
  | q :: r => PySem.W.selfFirst K (He.ga K q.1) = true ∧ AllF K r
theorem AllF.get {K : PySem.W.Frag} {c : Str} {h : D → D → M D} : ∀ {T : MT}, AllF K T → T.lookup c = some h → PySem.W.selfFirst K (He.ga K c) = true
  | [], _, e => by cases e
  | q :: r, ⟨a, b⟩, e => by
    obtain ⟨c', h'⟩ := q
    rw [List.lookup_cons] at e
    cases z : c == c' with
    | true =>
      rw [beq_iff_eq.mp z]
      exact a
    | false =>
      rw [z] at e
      exact AllF.get b e
theorem op_binX {op : Operator} (hT : AllM X k (PySem.dunder op.info.2) T) (hF : AllF X.K T) (hr : Room k X.A) (hG : X.A.guards = some []) (tk : Takes X V.x) : OpR X (binaryOp op) (rD X.K V (opX T)) := by
  intro pins s σ H x y v u Q I rx ry ⟨d, e, p, G, S, hd, he, r, h⟩
  unfold opX at h
  split at h
  · rename_i c ns fs c' ns' fs'
    by_cases q : c' = c
    · rw [if_pos q] at h
      subst q
      cases hl : T.lookup c' with
      | none => rw [hl] at h; exact h.elim
      | some m =>
        rw [hl] at h
        obtain ⟨f, a, dx, xs, rfl, ha, _, me, run⟩ := own_run hT hl hr hG tk I rfl hd he ry r h
        obtain rfl : v = Value.ref a := rx
        obtain ⟨od, J⟩ := inst_at I ha
        obtain ⟨a2, dx2, vs2, rfl, ha2, _⟩ := id he
        obtain rfl : u = Value.ref a2 := ry
        obtain ⟨od2, J2⟩ := inst_at I (r.sub _ _ ha2)
        obtain ⟨mm, F⟩ := I.fr
        refine PySem.W.binop_K F I.mod.kin J J2.type (hF.get hl) me.at_ me.fn (wpAny_mono run (fun rv s1 hz => ?_) fun _ _ z => z)
        obtain ⟨z, H1, I1, rz, q⟩ := hz
        have fin : EP X pins σ Q rv s1 := ⟨z, H1, I1, rz, q⟩
        cases rv <;> first | exact fin | skip
        cases z <;> first | (cases rz; done) | (obtain ⟨_, rz⟩ := rz; cases rz)
    · rw [if_neg q] at h; exact h.elim
  · exact h.elim
end
/-! ### the hook with tables -/
abbrev TabD := Str × TT
def tabKeys (t : TabD) : List Str := t.2.map fun q : Str × Str => q.1
abbrev AlY : Type := AlX × List (Option (List (Option (Str × Int))))
section
variable (fa : List He.Fa) (fn : List He.DefD) (pr : List PrD) (chk : PySem.W.Frag → Bool) (ts : List TabD)
def obsY (K : PySem.W.Frag) : AlY := (obsX fa fn pr chk K, ts.map fun t => He.dicW K (He.ga K t.1))
def obsYG (n : Nat) (g : Addr → Option Obj) : AlY := obsY fa fn pr chk ts (He.frG g (He.asD g n))
structure SaysY (w : World) (K : PySem.W.Frag) : Prop where
  x : SaysX fa fn pr chk K
  t : ts.map (fun t => He.dicW K (He.ga K t.1)) = ts.map fun t => some (He.keysIn w.params (tabKeys t))
def hookY (n : Nat) : PySem.W.Hook where
  α := AlY
  obs := fun s => obsYG fa fn pr chk ts n s.heap.get?
  val := fun w => ((He.valD fn, true, pr.map fun q : PrD => q.d.val), ts.map fun t => some (He.keysIn w.params (tabKeys t)))
  says := fun w h => ∃ K : PySem.W.Frag, K.In h ∧ SaysY fa fn pr chk ts w K
  of := fun _ _ e => ⟨_, He.frG_in, ⟨SaysX.of (congrArg (fun z : AlY => z.1) e), congrArg (fun z : AlY => z.2) e⟩⟩
  keeps := fun _ _ _ ⟨K, hK, c⟩ k => ⟨K, PySem.W.Frag.In.keeps hK k, c⟩
theorem obsYG_eq {n : Nat} {g : Addr → Option Obj} {s : Shared} (h : ∀ a, g a = s.heap.get? a) : obsYG fa fn pr chk ts n g = (hookY fa fn pr chk ts n).obs s := by
  have e : g = s.heap.get? := funext h
  rw [e] <;> rfl
end
theorem SaysY.tab {fa : List He.Fa} {fn : List He.DefD} {pr : List PrD} {chk : PySem.W.Frag → Bool} {ts : List TabD} {w : World} {K : PySem.W.Frag} (s : SaysY fa fn pr chk ts w K) (i : Nat) {t : TabD} (hv : He.valsB K (He.ga K t.1) (tabVals t.2) = true) (h : ts[i]? = some t := by rfl) : TabF K w (He.ga K t.1) t.2 := by
  have e : (ts.map fun t => He.dicW K (He.ga K t.1))[i]? = (ts.map fun t => some (He.keysIn w.params (tabKeys t)))[i]? := by rw [s.t]
  rw [List.getElem?_map, List.getElem?_map, h] at e
  exact tabF_of (Option.some.inj e) hv
end RM

/-! RY: own len. -/
namespace RM
open PySem PySem.Spec PyProof.Rows L2
abbrev MT1 := List (Str × (D → M D))
def AllM1 (X : Cx) (k : Nat) (m : Str) : MT1 → Prop
  | [] => True
  | q :: r => (∃ f fd ps, OwnM X k q.1 m f fd ps (l1 q.2) ∧ ps.length = 1 ∧ Binds X.K fd ps []) ∧ AllM1 X k m r
theorem AllM1.get {X : Cx} {k : Nat} {m c : Str} {h : D → M D} : ∀ {T : MT1}, AllM1 X k m T → T.lookup c = some h → ∃ f fd ps, OwnM X k c m f fd ps (l1 h) ∧ ps.length = 1 ∧ Binds X.K fd ps []
  | [], _, e => by cases e
  | q :: r, ⟨a, b⟩, e => by
    obtain ⟨c', h'⟩ := q
    rw [List.lookup_cons] at e
    cases z : c == c' with
    | true =>
      rw [z] at e
      cases e
      rw [beq_iff_eq.mp z]
      exact a
    | false =>
      rw [z] at e
      exact AllM1.get b e
def lenI (r : D) : M D := match r with
  | .int n => if 0 ≤ n ∧ n < 2 ^ 63 then pure (.int n) else stuck
  | _ => stuck
def lenX (T : MT1) (ds : List D) : M D := match ds with
  | [.ins c ns fs] => match T.lookup c with
    | some h => B (noE (h (.ins c ns fs))) lenI
    | none => stuck
  | ds => lenD ds
section
variable {X : Cx} {V : Wf} {k : Nat} {T : MT1}
theorem lenX_split {K : PySem.W.Frag} {p : List (List Addr)} {G H : Hp} {S : Sto} {Q : VK} {ds : List D} (h : okR (Den K) K p G H V (lenX T ds S) Q) : (∃ c ns fs m, ds = [.ins c ns fs] ∧ T.lookup c = some m ∧ okR (Den K) K p G H (fun _ _ _ => False) (m (.ins c ns fs) S) fun r H' => ∃ n, r = .int n ∧ 0 ≤ n ∧ n < 2 ^ 63 ∧ Q (.int n) H') ∨ okR (Den K) K p G H V (lenD ds S) Q := by
  unfold lenX at h
  split at h
  · rename_i c ns fs
    cases el : T.lookup c with
    | none => rw [el] at h; exact h.elim
    | some m =>
      rw [el] at h
      refine .inl ⟨c, ns, fs, m, rfl, el, ?_⟩
      have h : okR (Den K) K p G H V ((noE (m (.ins c ns fs)) >>= lenI) S) Q := h
      refine okR.noE (okR.seq h fun r S1 v p1 G1 H1 e1 dn r1 x1 h1 => ?_)
      cases r <;> try exact h1.elim
      rename_i n
      have h1 : okR (Den K) K p1 G1 H1 V ((if 0 ≤ n ∧ n < 2 ^ 63 then (pure (.int n) : M D) else stuck) S1) Q := h1
      by_cases q : 0 ≤ n ∧ n < 2 ^ 63
      · rw [if_pos q] at h1
        exact ⟨n, dn, q.1, q.2, okR.fin (d := D.int n) (v := L2.V.int n) h1 rfl r1⟩
      · rw [if_neg q] at h1; exact h1.elim
  · exact .inr h
theorem cr_lenX (hT : AllM1 X k "__len__" T) (hr : Room (k + 1) X.A) (hG : X.A.guards = some []) : CallR X (.builtin "len") (rA X.K V (lenX T)) := by
  intro pins s σ H vs us Q I rv ⟨ds, p, G, S, hd, r, h⟩
  rcases lenX_split h with ⟨c, ns, fs, m, rfl, hl, h2⟩ | h2
  · obtain ⟨f, fd, ps, M, hps, hb⟩ := hT.get hl
    obtain ⟨v, vr, rfl, hv, hn⟩ := id hd
    obtain rfl : vr = [] := hn
    obtain ⟨a, dx, ws, rfl, ha, hn⟩ := id hv
    cases rv with
    | cons r1 rr =>
      cases rr
      rename_i u
      obtain rfl : u = Value.ref a := r1
      obtain ⟨od, J⟩ := inst_at I (r.sub _ _ ha)
      obtain ⟨mm, F⟩ := I.fr
      have q1 : spD X.K ps.length (l1 m) [.ref a] H (fun r H' => ∃ n, r = L2.V.int n ∧ 0 ≤ n ∧ n < 2 ^ 63 ∧ Q (.int n) H') fun _ _ _ => False := ⟨[.ins c ns fs], p, G, S, hps.symm, hd, r, h2⟩
      have bd := hb s [.ref a] I.kIn (by rw [List.append_nil]; exact hps.symm)
      rw [List.append_nil] at bd
      refine PySem.W.len_K F I.mod.kin J M.me.at_ M.me.fn (wpAny_call (codeAny_mono (M.fn.go X.A.in1 X.stack s H ⟨[.ref a], []⟩ [.ref a] [.ref a] _ (fun _ _ _ => False) hG hr.in1 I.env0.in1 bd (.cons rfl .nil) q1) fun rr s' hz => ?_))
      cases rr with
      | error er =>
        obtain ⟨_, _, _, _, _, _, _, _, _, _, _, _, z⟩ := hz
        exact z.elim
      | ok fl =>
        cases fl with
        | ret u =>
          obtain ⟨v, H', I3, rv, n, rfl, n0, n1, q3⟩ := I.after hz
          obtain ⟨t, rfl⟩ := rv
          exact ⟨⟨n0, n1⟩, .int n, H', I3.tok _, ⟨_, rfl⟩, q3⟩
        | next => exact False.elim hz
        | brk => exact False.elim hz
        | cont => exact False.elim hz
  · exact call_len pins s σ H vs us Q I rv (by_len ds vs p G H S V Q hd r h2)
end
end RM

/-! RY: x.append(y.pop(e)). -/
namespace RM
open PySem PySem.Spec PyProof.Rows L2
section
variable {X : Cx} {W : Wf} {e : Expr} {ma : DSt → M D} {pos : Pos}
abbrev FewA (X : Cx) (e : Expr) (cpos : Pos) : Prop := ((backTo cpos (starEach [e] X.env)).all (fun x => !x.1) && (backToKw cpos (keywordEach [] X.env)).all (fun x => x.1.isSome) && decide ([e].length + ([] : List Keyword).length + (if ([] : List Keyword).isEmpty then 0 else 1) < 30)) = true
theorem ds_appPop (i j : Nat) (hij : i ≠ j) {x y : Str} {px py apos cpos bpos dpos : Pos} (hN : X.N[i]? = some x) (hN2 : X.N[j]? = some y) (he : DE X W.x e ma) (hv : Vis X.env.scope x) (hd : (x == ("__debug__" : Str)) = false) (hcd : (x == ("__classdict__" : Str)) = false)
    (hv2 : Vis X.env.scope y) (hd2 : (y == ("__debug__" : Str)) = false) (hcd2 : (y == ("__classdict__" : Str)) = false)
    (hst : starEach [e] X.env = [(false, eval e X.env)]) (hst2 : starEach [.Call (.Attribute (.Name y py) "pop" bpos) [e] [] dpos] X.env = [(false, eval (.Call (.Attribute (.Name y py) "pop" bpos) [e] [] dpos) X.env)])
    (hfew : FewA X e dpos) (hfew2 : FewA X (.Call (.Attribute (.Name y py) "pop" bpos) [e] [] dpos) cpos) (hline : (bpos.endLine == dpos.line) = true) (hline2 : (apos.endLine == cpos.line) = true)
    (hs : swapsWith (.Call (.Attribute (.Name x px) "append" apos) [.Call (.Attribute (.Name y py) "pop" bpos) [e] [] dpos] [] cpos) none pos.line X.env = pure false) :
    DS X W (.Expr (.Call (.Attribute (.Name x px) "append" apos) [.Call (.Attribute (.Name y py) "pop" bpos) [e] [] dpos] [] cpos) pos)
      (fun t => do let xs ← getO t i; let ys ← getO t j; let k ← ma t; let r ← liftO (popO ys k); if xs.length < sizeLine then pure (.nx ((t.set j (some (.own r.2))).set i (some (.own (xs ++ [r.1]))))) else stuck) := by
  refine PS.imp (ps_expr (pe_bm PySem.F.plainAttrs_list PySem.F.slot_list_append PySem.F.type_list_append mt_append (pe_var hN hv hd hcd)
    (pa_cons (pe_bm PySem.F.plainAttrs_list PySem.F.slot_list_pop PySem.F.type_list_pop mt_popAt (pe_var hN2 hv2 hd2 hcd2) (pa_cons he pa_nil hst) rfl hfew hline hst rfl) pa_nil hst2) rfl hfew2 hline2 hst2 rfl) hs) fun E σ H ⟨n, t, p, G, S, ow, r, h⟩ => ?_
  obtain ⟨xs, l, vs, e1, e2, e3, e4, e5, h⟩ := own_at (Z := fun z => okS X.K W n z E) r (fun z => z) h
  obtain ⟨ys, l2, vs2, a1, a2, a3, a4, a5, h⟩ := own_at (Z := fun z => okS X.K W n z E) r (fun z => z) h
  refine ⟨_, e2, .inl ⟨rfl, vs, SqL.of e4⟩, _, a2, .inl ⟨rfl, vs2, SqL.of a4⟩, t, p, G, S, ow, r.rs, okS.seq h r fun y S1 v p1 G1 H1 ey dy r1 x1 h1 => ?_⟩
  obtain ⟨f1, f2⟩ := own_later r x1 a3 a4 a5
  cases eq : popO ys y with
  | none => rw [eq] at h1; exact h1.elim
  | some q =>
    rw [eq] at h1
    obtain ⟨w, zs⟩ := q
    obtain ⟨k, jj, u, rfl, g1, g2, g3, g4, g5, g6⟩ := popO_ok f2 dy eq
    have R2 := r1.putO a1 a2 a3 g6
    have ei : (t.set j (some (.own zs)))[i]? = some (some (.own xs)) := by
      rw [List.getElem?_set_ne (Ne.symm hij)]; exact e1
    obtain ⟨l3, vs3, c1, c2, c3, c4⟩ := R2.rs.sl.getO ei
    rw [e2] at c1
    cases c1
    refine ⟨l2, vs2, k, jj, u, rfl, rfl, f1, g1, g2, g3, g4, ?_⟩
    by_cases hz : xs.length < sizeLine
    · have h2 : okS X.K W n ((if xs.length < sizeLine then pure (.nx ((t.set j (some (.own zs))).set i (some (.own (xs ++ [w]))))) else stuck : M Ctl) S1) E := h1
      rw [if_pos hz] at h2
      exact ⟨l, vs3, u, rfl, rfl, c3, by rw [c4.length]; exact hz, h2 p1 G1 _ σ ow (R2.putO ei e2 e3 (c4.append (DenL.one g5)))⟩
    · have h2 : okS X.K W n ((if xs.length < sizeLine then pure (.nx ((t.set j (some (.own zs))).set i (some (.own (xs ++ [w]))))) else stuck : M Ctl) S1) E := h1
      rw [if_neg hz] at h2
      exact h2.elim
end
section
variable {α : Type} {X : Cx} {W : Wf} {g : DSt} {I : IC α} {e : Expr} {rest : List Stmt} {pos : Pos} {me : M D}
/-- the popped item, then the two lists: (x's, y's) -/
def appPop (xs ys : List D) (k : D) : M (List D × List D) := B (popX ys k) fun r => B (appO xs r.1) fun zs => pure (zs, r.2)
theorem xs_appPop (i j : Nat) (hij : i ≠ j) {x y : Str} {px py apos cpos bpos dpos : Pos} {xs ys : List D} {k : List D × List D → M α} (hg : g[i]? = some (some (.own xs))) (hg2 : g[j]? = some (some (.own ys))) (hN : X.N[i]? = some x) (hN2 : X.N[j]? = some y) (he : XE X W.x g e me)
    (hk : ∀ v, XS X W ((g.set j (some (.own v.2))).set i (some (.own v.1))) I rest (k v)) (hv : Vis X.env.scope x := by first | exact Or.inl rfl | exact Or.inr (Or.inl rfl) | exact Or.inr (Or.inr rfl)) (hv2 : Vis X.env.scope y := by first | exact Or.inl rfl | exact Or.inr (Or.inl rfl) | exact Or.inr (Or.inr rfl)) (hd : (x == ("__debug__" : Str)) = false := by decide) (hcd : (x == ("__classdict__" : Str)) = false := by decide) (hd2 : (y == ("__debug__" : Str)) = false := by decide) (hcd2 : (y == ("__classdict__" : Str)) = false := by decide)
    (hst : starEach [e] X.env = [(false, eval e X.env)] := by rfl) (hst2 : starEach [.Call (.Attribute (.Name y py) "pop" bpos) [e] [] dpos] X.env = [(false, eval (.Call (.Attribute (.Name y py) "pop" bpos) [e] [] dpos) X.env)] := by rfl)
    (hfew : FewA X e dpos := by rfl) (hfew2 : FewA X (.Call (.Attribute (.Name y py) "pop" bpos) [e] [] dpos) cpos := by rfl) (hline : (bpos.endLine == dpos.line) = true := by rfl) (hline2 : (apos.endLine == cpos.line) = true := by rfl)
    (hs : swapsWith (.Call (.Attribute (.Name x px) "append" apos) [.Call (.Attribute (.Name y py) "pop" bpos) [e] [] dpos] [] cpos) none pos.line X.env = pure false := by rfl) :
    XS X W g I (.Expr (.Call (.Attribute (.Name x px) "append" apos) [.Call (.Attribute (.Name y py) "pop" bpos) [e] [] dpos] [] cpos) pos :: rest) (B (B me fun c => appPop xs ys c) k) := by
  refine xs_next (e := fun v => (g.set j (some (.own v.2))).set i (some (.own v.1))) (ds_appPop i j hij hN hN2 he.de hv hd hcd hv2 hd2 hcd2 hst hst2 hfew hfew2 hline hline2 hs) ?_ hk
  rw [AtG_self, getO_at hg, getO_at hg2]
  unfold appPop B popX appO
  rw [pure_bind, pure_bind, bind_assoc]
  congr 1
  funext c
  rw [bind_assoc]
  congr 1
  funext r
  split <;> rfl
end
end RM

/-! RY: set(xs) of ints and texts; len(set(xs)). -/
namespace RM
open PySem PySem.Spec PyProof.Rows L2
/-- the keys met, each once, in their order -/
def stepK (σ : List Key) (k : Key) : List Key := if σ.any (fun x => decide (x = k)) then σ else σ ++ [k]
def once (ks : List Key) : List Key := ks.foldl stepK []
theorem once_snoc (ks : List Key) (k : Key) : once (ks ++ [k]) = stepK (once ks) k := by unfold once; rw [List.foldl_append]; rfl
theorem stepK_any (σ : List Key) (v k : Key) : (stepK σ v).any (fun x => decide (x = k)) = (σ.any (fun x => decide (x = k)) || decide (k = v)) := by
  unfold stepK
  by_cases h : σ.any (fun x => decide (x = v)) = true
  · rw [if_pos h]
    by_cases e : k = v
    · subst e; rw [h]; simp
    · simp [e]
  · rw [if_neg h, List.any_append]
    by_cases e : k = v
    · subst e; simp
    · have hb : ¬ v = k := fun h' => e h'.symm
      simp [hb, e]
theorem stepK_len (σ : List Key) (v : Key) : (stepK σ v).length = if σ.any (fun x => decide (x = v)) then σ.length else σ.length + 1 := by
  unfold stepK; split <;> simp
theorem stepK_le (σ : List Key) (v : Key) : (stepK σ v).length ≤ σ.length + 1 := by rw [stepK_len]; split <;> omega
theorem once_le : ∀ (n : Nat) (ks : List Key), ks.length = n → (once ks).length ≤ n
  | 0, ks, h => by
    have : ks = [] := List.length_eq_zero_iff.mp h
    subst this; exact Nat.le_refl _
  | n + 1, ks, h => by
    have hn : ks ≠ [] := fun e => by rw [e] at h; cases h
    rw [← List.dropLast_concat_getLast hn, once_snoc]
    have := once_le n ks.dropLast (by rw [List.length_dropLast]; omega)
    have := stepK_le (once ks.dropLast) (ks.getLast hn)
    omega
theorem setOf_congr {prog : Program} {w : World} {h : Heap} {a : Addr} {S S' : Key → Bool} {n n' : Nat} (hS : h.SetOf (mixKind prog w) a S n) (e : ∀ k, S k = S' k) (en : n = n') : h.SetOf (mixKind prog w) a S' n' := by
  have : S = S' := funext e
  subst this; subst en; exact hS
theorem set_fresh {prog : Program} {w : World} {h : Heap} {a : Addr} {led : Bool} (hg : h.get? a = some { cls := .type "set", dict := none, data := .set #[] 0 (.fresh 0 0 led) }) : h.SetOf (mixKind prog w) a (fun k' => (once (([] : List Key))).any fun x => decide (x = k')) (once ([] : List Key)).length := by
  refine ⟨_, #[], 0, _, hg, ⟨rfl, rfl, rfl⟩, rfl, (fun e he => by simp at he), (fun k => by simp [once]), ?_, by cases led <;> rfl, rfl⟩
  decide
section
variable {prog : Program} {w : World} {A : Around} {R : Result → Shared → Prop} {I : Addr} {fp wr : List Addr} {G : Array GenState → Array GenState → Prop} {n : Nat} {P : Nat → Value → Prop} {St : Nat → Shared → Prop}
theorem loopKey (W : WalksS prog w A.in1 I fp wr G n P St) (S : Addr) (hSf : S ∉ fp) (ks : List Key) (hval : ∀ i v, P i v → ∃ k, ks[i]? = some k ∧ RelV (kV k) v) (hb : ks.length + 1 < scanBound) :
    ∀ (c i : Nat) (s : Shared), n - i = c → i ≤ n → St i s →
      s.heap.SetOf (mixKind prog w) S (fun k' => (once (ks.take i)).any fun x => decide (x = k')) (once (ks.take i)).length →
      (∀ s', Moved (S :: wr) G s s' → s'.heap.SetOf (mixKind prog w) S (fun k' => (once (ks.take n)).any fun x => decide (x = k')) (once (ks.take n)).length → R (.ok (.ret .none)) s') →
      codeAny (model prog w) A (.builtin "set.update.loop" ⟨[.ref S, .ref I], []⟩) R s := by
  have hSw : S ∉ wr := fun h => hSf (W.sub _ h)
  have hsub : ∀ b ∈ wr, b ∈ S :: wr := fun b hb => List.mem_cons_of_mem _ hb
  intro c
  induction c with
  | zero =>
    intro i s hk hi hst hS hR
    have hin : i = n := by omega
    subst hin
    refine codeAny_builtin PyProof.Rows.F.entry_set_update_loop ?_
    rw [Around.under_plainId PyProof.Rows.F.plain_set_update_loop _]
    show wpAny _ A.in1 (pyNext (.ref I) >>= _) _ _ s
    refine wpAny_bind (W.done s _ _ hst fun s' hm => ?_)
    show wpAny _ A.in1 (ret Value.none) _ _ s'
    exact wpAny_pure (hR s' (hm.mono hsub) (by
      obtain ⟨o, es, ep, t, ho, rest⟩ := hS
      exact ⟨o, es, ep, t, hm.heap S _ hSw ho, rest⟩))
  | succ c ih =>
    intro i s hk hi hst hS hR
    have hlt : i < n := by omega
    refine codeAny_builtin PyProof.Rows.F.entry_set_update_loop ?_
    rw [Around.under_plainId PyProof.Rows.F.plain_set_update_loop _]
    show wpAny _ A.in1 (pyNext (.ref I) >>= _) _ _ s
    refine wpAny_bind (W.item i s _ _ hlt hst fun v s' hP hst' hm => ?_)
    obtain ⟨k, ek, rv⟩ := hval i v hP
    have hS' : s'.heap.SetOf (mixKind prog w) S (fun k' => (once (ks.take i)).any fun x => decide (x = k')) (once (ks.take i)).length := by
      obtain ⟨o, es, ep, tb, ho, rest⟩ := hS
      exact ⟨o, es, ep, tb, hm.heap S _ hSw ho, rest⟩
    show wpAny _ A.in1 (holding [v] (setAdd S v) >>= _) _ _ s'
    refine wpAny_bind (wpAny_holding ?_)
    unfold setAdd
    refine wpAny_holding ?_
    refine wpAny_bind ((mixKind prog w).pyHash (k := k) (kV_is rv) ?_)
    have hil : i < ks.length := (List.getElem?_eq_some_iff.mp ek).1
    have hroom : (once (ks.take i)).length + 1 < scanBound := by
      have := once_le (ks.take i).length (ks.take i) rfl
      rw [List.length_take] at this
      omega
    refine wpAny_setAddHashed_of (knd := mixKind prog w) (s := { s' with toks := s'.toks + 1 }) (kV_is rv) (key_scan rv) hS' hroom fun h' hsb hS2 => ?_
    have et : ks.take (i + 1) = ks.take i ++ [k] := by rw [List.take_add_one, ek]; rfl
    have hSi : h'.SetOf (mixKind prog w) S (fun k' => (once (ks.take (i + 1))).any fun x => decide (x = k')) (once (ks.take (i + 1))).length :=
      setOf_congr hS2 (fun k' => by rw [et, once_snoc, stepK_any]) (by rw [et, once_snoc, stepK_len])
    refine wpAny_pure ⟨plainId_quiet PyProof.Rows.F.plain_set_update_loop _, ih (i + 1) _ (by omega) hlt (W.frame _ s' _ _ hst' (Nat.le_succ _) fun b hb o e => ?_) hSi fun s'' hm'' hS'' => ?_⟩
    · rw [hsb.2 b (fun h : b = S => hSf (by rw [← h]; exact hb))]; exact e
    · refine hR s'' (Moved.trans W.gtrans ((hm.mono hsub).then_heap (Nat.le_succ _) fun b o hb e => ?_) hm'') hS''
      rw [hsb.2 b (fun h : b = S => hb (by rw [h]; exact List.mem_cons_self))]; exact e
end
/-- what is walked by set(l): a list, a tuple -/
structure Src (prog : Program) (w : World) (T : String) (l : Addr) (items : Array Value) (h : Heap) : Prop where
  at_ : ∃ od nl sl, h.get? l = some { cls := .type T, dict := od, data := .seq items nl, slots := sl }
  s1 : isSubtype (.type T) (.type "set") = pure false
  s2 : isSubtype (.type T) (.type "frozenset") = pure false
  s3 : (Value.type T == Value.type "dict") = false
  it : ∃ (o : Obj) (Hh : Heap → Prop), Begins (.ref l) o Hh ∧ Hh h ∧ ∀ (A : Around) (I : Addr), A.handled = none → l ≠ I → ∃ St : Nat → Heap → Prop, Walks prog w A I [I, l] [I] items.size (fun i v => items[i]? = some v) St ∧ ∀ h', Hh h' → h'.get? I = some o → St 0 h'
theorem src_list {prog : Program} {w : World} {l : Addr} {items : Array Value} {h : Heap} (hl : h.IsList l items) : Src prog w "list" l items h where
  at_ := by
    obtain ⟨⟨c, d, dt, sl⟩, h1, h2, n, h3⟩ := hl
    simp only at h2 h3
    subst h2 h3
    exact ⟨d, n, sl, h1⟩
  s1 := PySem.F.sub_list_set
  s2 := PySem.F.sub_list_frozenset
  s3 := by decide
  it := ⟨_, _, begins_list l items, hl, fun A I hh hne => ⟨_, Walks.list hh I l hne items, fun h' a b => ⟨⟨_, b, rfl, rfl⟩, a⟩⟩⟩
theorem src_tup {prog : Program} {w : World} {l : Addr} {items : Array Value} {h : Heap} (hl : h.IsTuple l items) : Src prog w "tuple" l items h where
  at_ := by
    obtain ⟨⟨c, d, dt, sl⟩, h1, h2, n, h3⟩ := hl
    simp only at h2 h3
    subst h2 h3
    exact ⟨d, n, sl, h1⟩
  s1 := PySem.F.sub_tuple_set
  s2 := PySem.F.sub_tuple_frozenset
  s3 := by decide
  it := ⟨_, _, begins_tuple l items, hl, fun A I hh hne => ⟨_, Walks.tuple hh I l hne items, fun h' a b => ⟨⟨_, b, rfl, rfl⟩, a⟩⟩⟩
section
variable {prog : Program} {w : World} {A : Around} {E : Value → Shared → Prop} {s : Shared}
theorem call_setK {T : String} {l : Addr} {items : Array Value} {ks : List Key} {Q : Value → Shared → Prop}
    (hh : A.handled = none) (sr : Src prog w T l items s.heap) (hi : ∀ (i : Nat) (v : Value), items[i]? = some v → ∃ k, ks[i]? = some k ∧ RelV (kV k) v) (hsz : ks.length = items.size) (hn1 : ks.length + 1 < scanBound)
    (h : ∀ (h' : Heap) (tk : Nat), h'.SetOf (mixKind prog w) s.heap.objs.size (fun k' => (once ks).any fun x => decide (x = k')) (once ks).length →
      (∀ b o, b < s.heap.objs.size → s.heap.get? b = some o → h'.get? b = some o) → Q (.ref s.heap.objs.size) { s with heap := h', toks := tk }) :
    wpAny (model prog w) A (call (.type "set") [.ref l]) Q E s := by
  obtain ⟨c, tl, hmro⟩ := PySem.F.called_set.mro
  have hmade := PySem.F.called_set.made
  have hsub := PySem.F.called_set.sub
  refine wpAny_call (codeAny_of_tree ?_)
  show wpAny _ _ (callAny (.type "set") _) _ _ _
  refine wpAny_pure ⟨Code.quiet_builtin _ (by decide +kernel), codeAny_builtin PySem.F.entry_type_call ?_⟩
  rw [Around.under_plain (weight_type_call_type "set" [.ref l] []) rfl]
  have h1 := PySem.F.called_set.notType
  have h2 := PySem.F.called_set.canCreate
  have hct := PySem.F.typeCall_set_1 (.ref l)
  repeat (any_goals (first | assumption | wp_step))
  refine codeAny_mono (PySem.code_set_new_1 (.ref l) (E := E) (Q₁ := fun obj s₁ => ∃ led : Bool, obj = .ref s.heap.objs.size ∧ s₁ = { s with heap := s.heap.push { cls := .type "set", dict := none, data := .set #[] 0 (.fresh 0 0 led) } }) fun led => ⟨led, rfl, rfl⟩) fun r s₁ hr => ?_
  cases r with
  | error e => exact hr
  | ok fl =>
    cases fl with
    | ret obj =>
      obtain ⟨led, rfl, rfl⟩ := hr
      have hS : (s.heap.push { cls := .type "set", dict := none, data := .set #[] 0 (.fresh 0 0 led) }).get? s.heap.objs.size = some { cls := .type "set", dict := none, data := .set #[] 0 (.fresh 0 0 led) } := Heap.get?_push_size _ rfl
      have hT : Shared.TypeIs { s with heap := s.heap.push { cls := .type "set", dict := none, data := .set #[] 0 (.fresh 0 0 led) } } (.ref s.heap.objs.size) "set" := ⟨_, hS, rfl⟩
      have hli := PySem.F.called_set.init.lookup
      have hbi := PySem.F.called_set.init.bind (.ref s.heap.objs.size)
      repeat (any_goals (first | assumption | wp_step))
      refine codeAny_mono (codeAny_call_builtin (R := wants (fun r s₂ => r = .none ∧ ∃ h' tk, s₂ = { s with heap := h', toks := tk } ∧
          h'.SetOf (mixKind prog w) s.heap.objs.size (fun k' => (once ks).any fun x => decide (x = k')) (once ks).length ∧
          (∀ b o, b < s.heap.objs.size → s.heap.get? b = some o → h'.get? b = some o)) E) PySem.F.called_set.init.plain PySem.F.entry_set_init (PySem.check_set_init_1 hT ?_)) fun r₂ s₂ hr₂ => ?_
      · obtain ⟨od, nl, osl, hol⟩ := sr.at_
        obtain ⟨o, Hh, Bg, hH, hW⟩ := sr.it
        have hol' : (s.heap.push { cls := .type "set", dict := none, data := .set #[] 0 (.fresh 0 0 led) }).get? l = some { cls := .type T, dict := od, data := .seq items nl, slots := osl } := Heap.get?_push_of_some _ hol
        have hsls := sr.s1
        have hslf := sr.s2
        have hne := sr.s3
        have hH1 : Hh (s.heap.push { cls := .type "set", dict := none, data := .set #[] 0 (.fresh 0 0 led) }) := Bg.keeps _ _ hH fun b o' e => Heap.get?_push_of_some _ e
        unfold Builtin.«set.__init__» noKeywords Builtin.Frozenset.updateFrom
        generalize hPI : pyIter = PI
        wp_walk
        subst hPI
        refine Bg.iter _ _ _ _ _ _ hH1 ?_
        refine wpAny_bind (wpAny_runValue ?_)
        have hlS : l < s.heap.objs.size := Heap.lt_size hol
        have hh3 : A.in1.in1.in1.handled = none := by simp [hh]
        have hneI : l ≠ (s.heap.push { cls := .type "set", dict := none, data := .set #[] 0 (.fresh 0 0 led) }).objs.size := by
          rw [Heap.size_push]; exact Nat.ne_of_lt (Nat.lt_succ_of_lt hlS)
        have hSf : s.heap.objs.size ∉ [(s.heap.push { cls := .type "set", dict := none, data := .set #[] 0 (.fresh 0 0 led) }).objs.size, l] := by
          rw [Heap.size_push]; simp only [List.mem_cons, List.mem_singleton, List.not_mem_nil, or_false, not_or]
          exact ⟨Nat.ne_of_lt (Nat.lt_succ_self _), Nat.ne_of_gt hlS⟩
        obtain ⟨St, Wk, st0⟩ := hW _ _ hh3 hneI
        refine loopKey (Wk.toS) s.heap.objs.size hSf ks hi hn1 (items.size - 0) 0 _ (by omega) (Nat.zero_le _)
          (st0 _ (Bg.keeps _ _ hH1 fun b o' e => Heap.get?_push_of_some _ e) (Heap.get?_push_size _ Bg.free)) ?hS0 ?hR
        case hS0 =>
          have hget : ((s.heap.push { cls := .type "set", dict := none, data := .set #[] 0 (.fresh 0 0 led) }).push o).get? s.heap.objs.size
              = some { cls := .type "set", dict := none, data := .set #[] 0 (.fresh 0 0 led) } := Heap.get?_push_of_some _ hS
          have := set_fresh (prog := prog) (w := w) hget
          simpa using this
        case hR =>
          intro s' hm hS'
          rw [← hsz, List.take_length] at hS'
          obtain ⟨h', g', d', tk', os'⟩ := s'
          have eg : g' = s.gens := hm.gens
          have ed : d' = s.drawn := hm.drawn
          have eo : os' = s.os := hm.os
          subst eg; subst ed; subst eo
          show wpAny _ _ _ _ _ _
          refine wpAny_pure ?_
          show wpAny _ _ (ret Value.none) _ _ _
          refine wpAny_pure ⟨rfl, h', tk', rfl, hS', fun b o hb e => ?_⟩
          have hb1 : b ≠ s.heap.objs.size := Nat.ne_of_lt hb
          have hb2 : b ≠ (s.heap.push { cls := .type "set", dict := none, data := .set #[] 0 (.fresh 0 0 led) }).objs.size := by
            rw [Heap.size_push]; exact Nat.ne_of_lt (Nat.lt_succ_of_lt hb)
          exact hm.heap b o (by simp only [List.mem_cons, List.mem_singleton, List.not_mem_nil, or_false, not_or]; exact ⟨hb1, hb2⟩) (Heap.get?_push_of_some _ (Heap.get?_push_of_some _ e))
      · cases r₂ with
        | error e => exact hr₂
        | ok fl₂ =>
          cases fl₂ with
          | ret r =>
            obtain ⟨rfl, h', tk, rfl, hS', hk'⟩ := hr₂
            repeat (any_goals (first | assumption | wp_step))
            exact h _ _ hS' hk'
          | _ => exact hr₂.elim
    | _ => exact hr.elim
end
end RM

/-! RY: len(set(xs)). -/
namespace RM
open PySem PySem.Spec PyProof.Rows L2
def keyD : D → Option Key
  | .int i => some (.inl i)
  | .str x => some (.inr x)
  | _ => none
def keysD : List D → Option (List Key)
  | [] => some []
  | d :: ds => match keyD d, keysD ds with
    | some k, some ks => some (k :: ks)
    | _, _ => none
theorem keysD_den {K : PySem.W.Frag} {p : List (List Addr)} {G : Hp} : ∀ {ds : List D} {vs : List V} {ks : List Key}, DenL K p G ds vs → keysD ds = some ks → vs = ks.map kV
  | [], vs, ks, h, e => by
    cases e
    exact h
  | d :: ds, vs, ks, ⟨v, r, h1, h2, h3⟩, e => by
    unfold keysD at e
    cases e1 : keyD d with
    | none => rw [e1] at e; cases e
    | some k =>
      cases e2 : keysD ds with
      | none => rw [e1, e2] at e; cases e
      | some ks' =>
        rw [e1, e2] at e
        cases e
        rw [h1, keysD_den h3 e2]
        cases d <;> try cases e1
        · cases (show v = .int _ from h2); rfl
        · cases (show v = .str _ from h2); rfl
def lenSetD : D → M D
  | .lst xs => match keysD xs with
    | some ks => if ks.length ≤ 4000 then pure (.int (once ks).length) else stuck
    | none => stuck
  | .tup xs => match keysD xs with
    | some ks => if ks.length ≤ 4000 then pure (.int (once ks).length) else stuck
    | none => stuck
  | _ => stuck
/-- the reading of len(set(..)) -/
def tLenK (K : PySem.W.Frag) (ta : TE) : TE := fun σ H Q => ta σ H fun x H1 => ∃ (l : Addr) (ks : List Key), x = .ref l ∧ (SqL K H1 l (ks.map kV) ∨ SqT K H1 l (ks.map kV)) ∧ ks.length ≤ 4000 ∧ Q (.int (once ks).length) H1
section
variable {X : Cx}
theorem pe_lenK {a : Expr} {ta : TE} {p p2 q pos : Pos} (hc : X.calm = true) (hg : Gl X "len") (hm : X.mg "len" = none) (hg2 : Gl X "set") (hm2 : X.mg "set" = none) (ha : PE X a ta)
    (na : starEach [a] X.env = (false, eval a X.env) :: starEach [] X.env := by rfl) : PE X (.Call (.Name "len" p) [.Call (.Name "set" p2) [a] [] q] [] pos) (tLenK X.K ta) := by
  refine ⟨fun pins s σ H Q I h => ?_⟩
  refine Call_ (ld_blt I hg hm boot_len ?_)
  refine PyProof.Rows.callWith_builtin1 (PyProof.Rows.args_cons ?_ rfl) rfl rfl
  refine Call_ (ld_blt I hg2 hm2 PyProof.Rows.boot_set ?_)
  refine PyProof.Rows.callWith_type1 (PyProof.Rows.args_cons (thn (ha.run pins s σ H _ I h) fun v s1 ⟨x, H1, I1, r1, q1⟩ => PyProof.Rows.args_nil ?_) na) na rfl
  obtain ⟨l, ks, rfl, hq, h1, q1⟩ := q1
  cases r1
  have hle := once_le ks.length ks rfl
  have fin : ∀ (h' : Heap) (tk : Nat), h'.SetOf (mixKind X.prog X.w) s1.heap.objs.size (fun k' => (once ks).any fun x => decide (x = k')) (once ks).length →
      (∀ b o, b < s1.heap.objs.size → s1.heap.get? b = some o → h'.get? b = some o) →
      wpAny (model X.prog X.w) X.A (spliced (backTo pos (starEach [] X.env))) (fun vs s₂ => wpAny (model X.prog X.w) X.A (call (.builtin "len") (Value.ref s1.heap.objs.size :: vs)) (EP X pins σ Q) X.xe s₂) X.xe { s1 with heap := h', toks := tk } := fun h' tk hS hk => by
    refine PyProof.Rows.args_nil ?_
    obtain ⟨o, es, ep, t, ho, hex, hd, _, _, _, hf, hn⟩ := hS
    have I2 : Inv X pins σ H1 { s1 with heap := h', toks := tk } := I1.kept fun b o e => hk b o (Heap.lt_size e) e
    refine call_len_set ho hex hd hf (by rw [hn] <;> omega) ⟨.int (once ks).length, H1, I2.tok _, ⟨_, by rw [hn]⟩, q1⟩
  have at_ : ∀ (its : List Value), Vals (ks.map kV) its → (∀ (i : Nat) (v : Value), its.toArray[i]? = some v → ∃ k, ks[i]? = some k ∧ RelV (kV k) v) ∧ ks.length = its.toArray.size := fun its r => by
    have hl := r.length
    rw [List.length_map] at hl
    refine ⟨fun i v hv => ?_, by simp [hl]⟩
    have hv : its[i]? = some v := by simpa using hv
    have hi : i < ks.length := by
      have := (List.getElem?_eq_some_iff.mp hv).1
      omega
    obtain ⟨u, e1, e2⟩ := r.get (i := i) (x := kV ks[i]) (by simp [hi])
    rw [hv] at e1
    cases e1
    exact ⟨ks[i], by simp [hi], e2⟩
  rcases hq with hq | hq
  · obtain ⟨its, r, pl, hz⟩ := I1.list hq
    obtain ⟨a1, a2⟩ := at_ its r
    exact call_setK (I1.ok.hd hc) (src_list pl.isList) a1 a2 (by unfold scanBound; omega) fin
  · obtain ⟨its, r, pl, hz⟩ := I1.tuple hq
    obtain ⟨a1, a2⟩ := at_ its r
    exact call_setK (I1.ok.hd hc) (src_tup pl) a1 a2 (by unfold scanBound; omega) fin
theorem xe_lenSet {W : WX} {g : DSt} {a : Expr} {ma : M D} {p p2 q pos : Pos} (hc : X.calm = true) (hg : Gl X "len") (hm : X.mg "len" = none) (hg2 : Gl X "set") (hm2 : X.mg "set" = none) (ha : XE X W g a ma)
    (na : starEach [a] X.env = (false, eval a X.env) :: starEach [] X.env := by rfl) : XE X W g (.Call (.Name "len" p) [.Call (.Name "set" p2) [a] [] q] [] pos) (B ma lenSetD) := by
  refine PE.imp (pe_lenK hc hg hm hg2 hm2 ha na) fun σ H Q ⟨p, G, S, ow, r, h⟩ => ?_
  refine ⟨p, G, S, ow, r, okR.seq h fun d S1 v p1 G1 H1 e1 dn r1 x1 h1 => ?_⟩
  have key : ∀ (xs : List D) (l : Addr) (vs : List V), v = .ref l → (SqL X.K H1 l vs ∨ SqT X.K H1 l vs) → DenL X.K p1 G1 xs vs → okR (Den X.K) X.K p1 G1 H1 (fun c d H' => W c d σ H') ((match keysD xs with
      | some ks => if ks.length ≤ 4000 then (pure (.int (once ks).length) : M D) else stuck
      | none => stuck) S1) Q → ∃ (l : Addr) (ks : List Key), v = .ref l ∧ (SqL X.K H1 l (ks.map kV) ∨ SqT X.K H1 l (ks.map kV)) ∧ ks.length ≤ 4000 ∧ Q (.int (once ks).length) H1 := by
    intro xs l vs ev hs hd h
    cases e : keysD xs with
    | none => rw [e] at h; exact h.elim
    | some ks =>
      rw [e] at h
      have h : okR (Den X.K) X.K p1 G1 H1 (fun c d H' => W c d σ H') ((if ks.length ≤ 4000 then (pure (.int (once ks).length) : M D) else stuck) S1) Q := h
      by_cases hz : ks.length ≤ 4000
      · rw [if_pos hz] at h
        rw [keysD_den hd e] at hs
        exact ⟨l, ks, ev, hs, hz, okR.fin (d := D.int _) (v := L2.V.int _) h rfl r1⟩
      · rw [if_neg hz] at h; exact h.elim
  cases d <;> try exact h1.elim
  · obtain ⟨l, vs, ev, hl, hv⟩ := dn
    exact key _ l vs ev (.inr (SqT.mono r1.sub hl)) hv h1
  · obtain ⟨l, vs, ev, hl, hv⟩ := dn
    exact key _ l vs ev (.inl (SqL.of (r1.sub _ _ hl))) hv h1
end
end RM

/-! RY: is True, is not True. -/
namespace RM
open PySem PySem.Spec PyProof.Rows L2
def isBlD (neg : Bool) : D → D → M D
  | .bl a, .bl b => pure (.bl (if neg then !(a == b) else a == b))
  | .non, .bl _ => pure (.bl neg)
  | .int _, .bl _ => pure (.bl neg)
  | .str _, .bl _ => pure (.bl neg)
  | _, _ => stuck
section
variable {X : Cx} {V : Wf}
theorem op_isBl : OpR X (compareOp .Is) (rD X.K V (isBlD false)) := by
  intro pins s σ H x y v u Q I rx ry ⟨d, e, p, G, S, hd, he, r, h⟩
  cases e <;> try (cases d <;> exact h.elim)
  rename_i b
  cases (show y = .bl b from he)
  cases (show u = .bool b from ry)
  cases d <;> try exact h.elim
  · cases (show x = .non from hd)
    cases (show v = Value.none from rx)
    exact wpAny_pure ⟨.bl false, H, I, rfl, okR.fin (d := D.bl false) (v := L2.V.bl false) h rfl r⟩
  · rename_i a
    cases (show x = .bl a from hd)
    cases (show v = Value.bool a from rx)
    refine wpAny_pure ⟨.bl (a == b), H, I, ?_, okR.fin (d := D.bl (a == b)) (v := L2.V.bl (a == b)) h rfl r⟩
    cases a <;> cases b <;> rfl
  · rename_i i
    cases (show x = .int i from hd)
    obtain ⟨t, rfl⟩ := rx
    exact wpAny_pure ⟨.bl false, H, I, rfl, okR.fin (d := D.bl false) (v := L2.V.bl false) h rfl r⟩
  · rename_i i
    cases (show x = .str i from hd)
    obtain ⟨t, rfl⟩ := rx
    exact wpAny_pure ⟨.bl false, H, I, rfl, okR.fin (d := D.bl false) (v := L2.V.bl false) h rfl r⟩
theorem op_isNotBl : OpR X (compareOp .IsNot) (rD X.K V (isBlD true)) := by
  intro pins s σ H x y v u Q I rx ry ⟨d, e, p, G, S, hd, he, r, h⟩
  cases e <;> try (cases d <;> exact h.elim)
  rename_i b
  cases (show y = .bl b from he)
  cases (show u = .bool b from ry)
  cases d <;> try exact h.elim
  · cases (show x = .non from hd)
    cases (show v = Value.none from rx)
    exact wpAny_pure ⟨.bl true, H, I, rfl, okR.fin (d := D.bl true) (v := L2.V.bl true) h rfl r⟩
  · rename_i a
    cases (show x = .bl a from hd)
    cases (show v = Value.bool a from rx)
    refine wpAny_pure ⟨.bl (!(a == b)), H, I, ?_, okR.fin (d := D.bl (!(a == b))) (v := L2.V.bl (!(a == b))) h rfl r⟩
    cases a <;> cases b <;> rfl
  · rename_i i
    cases (show x = .int i from hd)
    obtain ⟨t, rfl⟩ := rx
    exact wpAny_pure ⟨.bl true, H, I, rfl, okR.fin (d := D.bl true) (v := L2.V.bl true) h rfl r⟩
  · rename_i i
    cases (show x = .str i from hd)
    obtain ⟨t, rfl⟩ := rx
    exact wpAny_pure ⟨.bl true, H, I, rfl, okR.fin (d := D.bl true) (v := L2.V.bl true) h rfl r⟩
end
end RM

/-! RY: the head's run told in parts. -/
namespace RM
open PySem PySem.Spec PyProof.Rows L2
abbrev KT (n : Nat) (s : PySem.W.SharedT) : PySem.W.Frag := He.frG (HandSHeadRun.getT s) (He.asD (HandSHeadRun.getT s) n)
theorem map_two {α β γ : Type} {x : Option α} {f : α → β} {g : α → γ} {a : β} {b : γ} (h : x.map f = some a) (h2 : x.map g = some b) : x.map (fun s => (f s, g s)) = some (a, b) := by
  cases x with
  | none => cases h
  | some s =>
    cases h
    cases h2
    rfl
section
variable (R : PySem.W.OpenRow) (q : Program) (fa : List He.Fa) (fn : List He.DefD) (pr : List PrD) (chk : PySem.W.Frag → Bool) (ts : List TabD) (n M : Nat) (loose : List Str) (w : World)
def RunA : Prop := ∀ os : OsState, (HandSHeadRun.endF (HandSHeadRun.stepQ (HandSHeadRun.denQ HandSHeadRun.tabQ) R.prog w) M R.prog w os).map (fun s => (HandSHeadRun.looksF R.prog (PySem.W.boot_heap w.params) s.abs, HandSHeadRun.seenQ q loose (importedModules R.prog.main.body) (fun s => PySem.W.xlAt q [] s && PySem.W.recOk R.records s) s.abs)) = some (true, PySem.W.openGood q loose)
def RunB : Prop := ∀ os : OsState, (HandSHeadRun.endF (HandSHeadRun.stepQ (HandSHeadRun.denQ HandSHeadRun.tabQ) R.prog w) M R.prog w os).map (fun s => He.obsD fa fn (KT n s)) = some (He.valD fn)
def RunC : Prop := ∀ os : OsState, (HandSHeadRun.endF (HandSHeadRun.stepQ (HandSHeadRun.denQ HandSHeadRun.tabQ) R.prog w) M R.prog w os).map (fun s => ((chk (KT n s) && pr.all fun q => q.ok (KT n s)), pr.map fun q => fnWA (KT n s) (pAd (KT n s) q.cls q.prop))) = some (true, pr.map fun q : PrD => q.d.val)
def RunD : Prop := ∀ os : OsState, (HandSHeadRun.endF (HandSHeadRun.stepQ (HandSHeadRun.denQ HandSHeadRun.tabQ) R.prog w) M R.prog w os).map (fun s => ts.map fun t => He.dicW (KT n s) (He.ga (KT n s) t.1)) = some (ts.map fun t => some (He.keysIn w.params (tabKeys t)))
variable {R q fa fn pr chk ts n M loose w}
theorem run_join (a : RunA R q M loose w) (b : RunB R fa fn n M w) (c : RunC R pr chk n M w) (d : RunD R ts n M w) : HandSHeadRun.RunEq R q (hookY fa fn pr chk ts n) (fun s => obsYG fa fn pr chk ts n (HandSHeadRun.getT s)) M loose w := by
  intro os
  have e := map_two (a os) (map_two (map_two (b os) (c os)) (d os))
  generalize HandSHeadRun.endF (HandSHeadRun.stepQ (HandSHeadRun.denQ HandSHeadRun.tabQ) R.prog w) M R.prog w os = x at *
  cases x with
  | none => cases e
  | some s =>
    have e2 := Option.some.inj e
    obtain ⟨e3, e4⟩ := Prod.mk.inj e2
    obtain ⟨e5, e6⟩ := Prod.mk.inj e3
    show some (_, _, _) = some (_, _, _)
    congr 1
    refine Prod.ext e5 (Prod.ext e6 ?_)
    exact e4
end
end RM

/-! RZ: sets of ints and texts that can be walked; sorted(set(xs)). -/
namespace RM
open PySem PySem.Spec PyProof.Rows L2
def keyV : Value → Key
  | .int k _ => .inl k
  | .str x _ => .inr x
  | _ => .inl 0
theorem keyV_of {k : Key} {v : Value} (h : keyIs k v = true) : keyV v = k := by
  rcases keyIs_shape h with ⟨i, t, rfl, rfl⟩ | ⟨x, t, rfl, rfl⟩ <;> rfl
theorem keyV_rel {k : Key} {v : Value} (h : keyIs k v = true) : RelV (kV k) v := by
  rcases keyIs_shape h with ⟨i, t, rfl, rfl⟩ | ⟨x, t, rfl, rfl⟩
  · exact ⟨t, rfl⟩
  · exact ⟨t, rfl⟩
abbrev keysOf (l : List (Int × Value)) : List Key := l.map fun e => keyV e.2
/-- the set at a holds the keys ks, and can be walked -/
def SetW (P : Program) (w : World) (h : Heap) (a : Addr) (ks : List Key) : Prop :=
  ∃ o es ep t, h.get? a = some o ∧ o.ExactSet ∧ o.data = .set es ep t ∧ ElemsOf (mixKind P w) es.toList ∧ (keysOf es.toList).Perm (once ks) ∧
    es.size < scanBound ∧ t.fits es.size = true ∧ Ris t.place.toList ∧ (w.params.followText "set-order" = true ∨ t.led = true)
theorem SetW.at {P : Program} {w : World} {h h' : Heap} {a : Addr} {ks : List Key} (R : SetW P w h a ks) (k : ∀ o, h.get? a = some o → h'.get? a = some o) : SetW P w h' a ks := by
  obtain ⟨o, es, ep, t, ho, r⟩ := R
  exact ⟨o, es, ep, t, k o ho, r⟩
section
variable {P : Program} {w : World} {A : Around} {E : Value → Shared → Prop} {s : Shared} {a : Addr} {ks : List Key}
theorem stored {h : Heap} {o : Obj} {xs ys : Array (Int × Value)} {ep : Nat} {t u : SetTable} (ho : h.get? a = some o) (hd : o.data = .set xs ep t) :
    (h.update a (Obj.putSet ys u)).get? a = some { o with data := .set ys (ep + 1) u } := by
  have e := putSet_of ys u hd
  have z := Heap.get?_update_self (Obj.putSet ys u) ho (by rw [e]; rfl)
  rwa [e] at z
theorem setW_tail {say : Bool → Sem Unit} (hs : ∀ (b : Bool) (z : Shared) (Q' : Unit → Shared → Prop), Q' () z → wpAny (model P w) A (say b) Q' E z)
    {o : Obj} {xs : Array (Int × Value)} {ep : Nat} {t : SetTable} (ho : s.heap.get? a = some o) (hx : o.ExactSet) (hd : o.data = .set xs ep t)
    {ys : Array (Int × Value)} {u : SetTable} (el : ElemsOf (mixKind P w) ys.toList) (pm : (keysOf ys.toList).Perm (once ks))
    (hb : ys.size < scanBound) (hf : u.fits ys.size = true) (hr : Ris u.place.toList) (hl : w.params.followText "set-order" = true ∨ u.led = true) {dm : Bool} {R : Option Bool → Shared → Prop}
    (hR : ∀ h', Heap.SameBut a s.heap h' → SetW P w h' a ks → R (some true) { s with heap := h' }) :
    wpAny (model P w) A (do
        storeSet a ys u
        if (!dm && u.tooFull) = true then do
            say (relayAll u ys (SetTable.grown ys.size)).2.2
            storeSet a (relayAll u ys (SetTable.grown ys.size)).1 (relayAll u ys (SetTable.grown ys.size)).2.1
            pure (some true)
          else pure (some true)) R E s := by
  refine wpAny_bind (wpAny_storeSet_of ho hd ?_ (fits_of_scanBound hb))
  have o1 := stored (ys := ys) (u := u) ho hd
  have c1 := Heap.SameBut.update s.heap a (Obj.putSet ys u)
  split
  · have q1 := relayAll_perm u ys (SetTable.grown ys.size)
    have q2 := relayAll_fits u ys (SetTable.grown ys.size)
    have q3 := relayAll_ris u ys (SetTable.grown ys.size)
    have q4 := relayAll_led u ys (SetTable.grown ys.size)
    generalize relayAll u ys (SetTable.grown ys.size) = Z at q1 q2 q3 q4 ⊢
    obtain ⟨zs, t3, gave⟩ := Z
    dsimp only at q1 q2 q3 q4 ⊢
    have hz : zs.size = ys.size := by rw [← Array.length_toList, q1.length_eq, Array.length_toList]
    have hb2 : zs.size < scanBound := by omega
    refine wpAny_bind (hs _ _ _ ?_)
    refine wpAny_bind (wpAny_storeSet_of o1 rfl ?_ (fits_of_scanBound hb2))
    refine wpAny_pure (hR _ (c1.trans (Heap.SameBut.update _ a _)) ⟨_, zs, _, t3, stored o1 rfl, hx, rfl, ElemsOf.perm el q1, (q1.map _).trans pm, hb2, q2, q3, ?_⟩)
    rcases hl with hl | hl
    · exact .inl hl
    · exact .inr (q4.trans hl)
  · exact wpAny_pure (hR _ c1 ⟨_, ys, _, u, o1, hx, rfl, el, pm, hb, hf, hr, hl⟩)
theorem keys_find {l : List (Int × Value)} {k : Key} (el : ElemsOf (mixKind P w) l) : (∃ e ∈ l, (mixKind P w).is k e.2 = true) ↔ k ∈ keysOf l := by
  unfold keysOf
  rw [List.mem_map]
  constructor
  · rintro ⟨e, he, q⟩
    exact ⟨e, he, keyV_of q⟩
  · rintro ⟨e, he, q⟩
    obtain ⟨⟨k', h1, _⟩, _⟩ := el e he
    have : k' = k := (keyV_of h1).symm.trans q
    rw [this] at h1
    exact ⟨e, he, h1⟩
theorem once_any {ks : List Key} {k : Key} : ((once ks).any fun x => decide (x = k)) = true ↔ k ∈ once ks := by
  rw [List.any_eq_true]
  constructor
  · rintro ⟨x, hx, e⟩
    rw [← of_decide_eq_true e]; exact hx
  · intro h
    exact ⟨k, h, decide_eq_true rfl⟩
theorem setW_add {k : Key} {x : Value} {Q : Bool → Shared → Prop} (R : SetW P w s.heap a ks) (rx : RelV (kV k) x) (room : (once ks).length + 1 < scanBound)
    (hQ : ∀ h' b, Heap.SameBut a s.heap h' → SetW P w h' a (ks ++ [k]) → Q b { s with heap := h' }) :
    wpAny (model P w) A (setAddHashed a x ((mixKind P w).hash k)) Q E s := by
  obtain ⟨o, es, ep, t, ho, hx, hd, el, pm, hb, hf, hr, hl⟩ := R
  have hk : (mixKind P w).is k x = true := kV_is rx
  have hsc := key_scan rx
  unfold setAddHashed setAddHashedIn
  refine wpAny_holding (wpAny_bind (wpAny_setState_of ho hd hf ?_))
  dsimp only
  rw [byScan_of hsc hb el]
  simp only [↓reduceIte]
  unfold setAddByScan
  refine wpAny_bind ?_
  refine wpAny_bind (wpAny_rule ?_)
  refine wpAny_bind (wpAny_setScan_of hk ho hd hf el ?_)
  cases hfi : List.findIdx? (fun e => (mixKind P w).is k e.2) es.toList with
  | some j =>
    dsimp only
    obtain ⟨hj, pj, _⟩ := List.findIdx?_eq_some_iff_getElem.mp hfi
    have hm : k ∈ once ks := pm.mem_iff.mp ((keys_find el).mp ⟨es.toList[j], List.getElem_mem hj, pj⟩)
    have e1 : once (ks ++ [k]) = once ks := by rw [once_snoc]; unfold stepK; rw [if_pos (once_any.mpr hm)]
    refine wpAny_pure (wpAny_pure (hQ s.heap _ (Heap.SameBut.refl a s.heap) ⟨o, es, ep, t, ho, hx, hd, el, ?_, hb, hf, hr, hl⟩))
    rw [e1]; exact pm
  | none =>
    dsimp only
    have hm : k ∉ once ks := fun z => by
      obtain ⟨e, he, q⟩ := (keys_find el).mpr (pm.mem_iff.mpr z)
      have c := List.findIdx?_eq_none_iff.mp hfi e he
      rw [q] at c
      cases c
    have e1 : once (ks ++ [k]) = once ks ++ [k] := by
      rw [once_snoc]; unfold stepK; rw [if_neg (fun z => hm (once_any.mp z))]
    have sy : ∀ (b : Bool) {z : Shared} {Q' : Unit → Shared → Prop}, Q' () z → wpAny (model P w) A (match b with | true => rule "set.scan.the-table-gave-way" | false => pure ()) Q' E z :=
      fun b z Q' q => by cases b <;> first | exact wpAny_pure q | exact wpAny_rule q
    have q1 := layNew_perm t es ((mixKind P w).hash k) x
    have q2 := layNew_fits t es ((mixKind P w).hash k) x
    have q3 := layNew_ris t es ((mixKind P w).hash k) x hr
    have q4 := layNew_led t es ((mixKind P w).hash k) x
    generalize layNew t es ((mixKind P w).hash k) x = Z at q1 q2 q3 q4 ⊢
    obtain ⟨ys, u, dm, gave⟩ := Z
    dsimp only at q1 q2 q3 q4 ⊢
    rw [Array.toList_push] at q1
    have el1 : ElemsOf (mixKind P w) ys.toList := fun e he => by
      rcases List.mem_append.mp (q1.mem_iff.mp he) with z | z
      · exact el e z
      · rw [List.mem_singleton.mp z]
        exact ⟨⟨k, hk, rfl⟩, hsc⟩
    have pm1 : (keysOf ys.toList).Perm (once (ks ++ [k])) := by
      rw [e1]
      refine (q1.map _).trans ?_
      rw [List.map_append, List.map_singleton, keyV_of hk]
      exact pm.append_right _
    have hz : ys.size = (once ks).length + 1 := by
      have := pm1.length_eq
      rw [e1, List.length_map, Array.length_toList, List.length_append] at this
      exact this
    have hb1 : ys.size < scanBound := by omega
    have hl1 : w.params.followText "set-order" = true ∨ u.led = true := hl.elim .inl fun z => .inr (q4.trans z)
    refine wpAny_bind (sy _ ?_)
    split
    · refine wpAny_bind ?_
      rw [hashByValue_scannable 8 hsc]
      refine wpAny_pure ?_
      refine setW_tail (ks := ks ++ [k]) ?_ ho hx hd el1 pm1 hb1 ?_ ?_ ?_ ?_
      · intro b z Q' q; cases b <;> first | exact wpAny_pure q | exact wpAny_rule q
      · first | (split <;> first | exact q2 | exact SetTable.fits_plain_off q2) | exact q2
      · first | (split <;> exact q3) | exact q3
      · first | (split <;> exact hl1) | exact hl1
      · intro h' sb r; dsimp only; exact wpAny_pure (hQ h' _ sb r)
    · refine wpAny_bind (wpAny_pure ?_)
      simp only [↓reduceIte]
      refine setW_tail (ks := ks ++ [k]) ?_ ho hx hd el1 pm1 hb1 q2 q3 hl1 ?_
      · intro b z Q' q; cases b <;> first | exact wpAny_pure q | exact wpAny_rule q
      · intro h' sb r; dsimp only; exact wpAny_pure (hQ h' _ sb r)
theorem setW_fresh {h : Heap} (hg : h.get? a = some { cls := .type "set", dict := none, data := .set #[] 0 (.fresh 0 0 (!w.params.followText "set-order")) }) : SetW P w h a [] := by
  refine ⟨_, #[], 0, _, hg, ⟨rfl, rfl, rfl⟩, rfl, (fun e he => by simp at he), ?_, (by decide), (by rfl), List.Pairwise.nil, ?_⟩
  · exact List.Perm.refl _
  · show _ ∨ (!w.params.followText "set-order") = true
    cases w.params.followText "set-order" <;> simp
end
section
variable {prog : Program} {w : World} {A : Around} {R : Result → Shared → Prop} {I : Addr} {fp wr : List Addr} {G : Array GenState → Array GenState → Prop} {n : Nat} {P : Nat → Value → Prop} {St : Nat → Shared → Prop}
theorem loopW (W : WalksS prog w A.in1 I fp wr G n P St) (S : Addr) (hSf : S ∉ fp) (ks : List Key) (hval : ∀ i v, P i v → ∃ k, ks[i]? = some k ∧ RelV (kV k) v) (hb : ks.length + 1 < scanBound) :
    ∀ (c i : Nat) (s : Shared), n - i = c → i ≤ n → St i s →
      SetW prog w s.heap S (ks.take i) →
      (∀ s', Moved (S :: wr) G s s' → SetW prog w s'.heap S (ks.take n) → R (.ok (.ret .none)) s') →
      codeAny (model prog w) A (.builtin "set.update.loop" ⟨[.ref S, .ref I], []⟩) R s := by
  have hSw : S ∉ wr := fun h => hSf (W.sub _ h)
  have hsub : ∀ b ∈ wr, b ∈ S :: wr := fun b hb => List.mem_cons_of_mem _ hb
  intro c
  induction c with
  | zero =>
    intro i s hk hi hst hS hR
    have hin : i = n := by omega
    subst hin
    refine codeAny_builtin PyProof.Rows.F.entry_set_update_loop ?_
    rw [Around.under_plainId PyProof.Rows.F.plain_set_update_loop _]
    show wpAny _ A.in1 (pyNext (.ref I) >>= _) _ _ s
    refine wpAny_bind (W.done s _ _ hst fun s' hm => ?_)
    show wpAny _ A.in1 (ret Value.none) _ _ s'
    exact wpAny_pure (hR s' (hm.mono hsub) (hS.at fun o e => hm.heap S o hSw e))
  | succ c ih =>
    intro i s hk hi hst hS hR
    have hlt : i < n := by omega
    refine codeAny_builtin PyProof.Rows.F.entry_set_update_loop ?_
    rw [Around.under_plainId PyProof.Rows.F.plain_set_update_loop _]
    show wpAny _ A.in1 (pyNext (.ref I) >>= _) _ _ s
    refine wpAny_bind (W.item i s _ _ hlt hst fun v s' hP hst' hm => ?_)
    obtain ⟨k, ek, rv⟩ := hval i v hP
    have hS' : SetW prog w s'.heap S (ks.take i) := hS.at fun o e => hm.heap S o hSw e
    show wpAny _ A.in1 (holding [v] (setAdd S v) >>= _) _ _ s'
    refine wpAny_bind (wpAny_holding ?_)
    unfold setAdd
    refine wpAny_holding ?_
    refine wpAny_bind ((mixKind prog w).pyHash (k := k) (kV_is rv) ?_)
    have hil : i < ks.length := (List.getElem?_eq_some_iff.mp ek).1
    have hroom : (once (ks.take i)).length + 1 < scanBound := by
      have := once_le (ks.take i).length (ks.take i) rfl
      rw [List.length_take] at this
      omega
    refine setW_add (s := { s' with toks := s'.toks + 1 }) hS' rv hroom fun h' bb hsb hS2 => ?_
    have et : ks.take (i + 1) = ks.take i ++ [k] := by rw [List.take_add_one, ek]; rfl
    have hSi : SetW prog w h' S (ks.take (i + 1)) := by rw [et]; exact hS2
    refine wpAny_pure ⟨plainId_quiet PyProof.Rows.F.plain_set_update_loop _, ih (i + 1) _ (by omega) hlt (W.frame _ s' _ _ hst' (Nat.le_succ _) fun b hb o e => ?_) hSi fun s'' hm'' hS'' => ?_⟩
    · rw [hsb.2 b (fun h : b = S => hSf (by rw [← h]; exact hb))]; exact e
    · refine hR s'' (Moved.trans W.gtrans ((hm.mono hsub).then_heap (Nat.le_succ _) fun b o hb e => ?_) hm'') hS''
      rw [hsb.2 b (fun h : b = S => hb (by rw [h]; exact List.mem_cons_self))]; exact e
end
/-- the new set -/
abbrev sobj (w : World) : Obj := { cls := .type "set", dict := none, data := .set #[] 0 (.fresh 0 0 (!w.params.followText "set-order")) }
section
variable {prog : Program} {w : World} {A : Around} {E : Value → Shared → Prop} {s : Shared}
theorem call_setW {T : String} {l : Addr} {items : Array Value} {ks : List Key} {Q : Value → Shared → Prop}
    (hh : A.handled = none) (sr : Src prog w T l items s.heap) (hi : ∀ (i : Nat) (v : Value), items[i]? = some v → ∃ k, ks[i]? = some k ∧ RelV (kV k) v) (hsz : ks.length = items.size) (hn1 : ks.length + 1 < scanBound)
    (h : ∀ (h' : Heap) (tk : Nat), SetW prog w h' s.heap.objs.size ks →
      (∀ b o, b < s.heap.objs.size → s.heap.get? b = some o → h'.get? b = some o) → Q (.ref s.heap.objs.size) { s with heap := h', toks := tk }) :
    wpAny (model prog w) A (call (.type "set") [.ref l]) Q E s := by
  obtain ⟨c, tl, hmro⟩ := PySem.F.called_set.mro
  have hmade := PySem.F.called_set.made
  have hsub := PySem.F.called_set.sub
  refine wpAny_call (codeAny_of_tree ?_)
  show wpAny _ _ (callAny (.type "set") _) _ _ _
  refine wpAny_pure ⟨Code.quiet_builtin _ (by decide +kernel), codeAny_builtin PySem.F.entry_type_call ?_⟩
  rw [Around.under_plain (weight_type_call_type "set" [.ref l] []) rfl]
  have h1 := PySem.F.called_set.notType
  have h2 := PySem.F.called_set.canCreate
  have hct := PySem.F.typeCall_set_1 (.ref l)
  repeat (any_goals (first | assumption | wp_step))
  refine codeAny_mono (L2.code_set_led1 (.ref l) (E := E) (Q₁ := fun obj s₁ => obj = .ref s.heap.objs.size ∧ s₁ = { s with heap := s.heap.push (sobj w) }) ⟨rfl, rfl⟩) fun r s₁ hr => ?_
  cases r with
  | error e => exact hr
  | ok fl =>
    cases fl with
    | ret obj =>
      obtain ⟨rfl, rfl⟩ := hr
      have hS : (s.heap.push (sobj w)).get? s.heap.objs.size = some (sobj w) := Heap.get?_push_size _ rfl
      have hT : Shared.TypeIs { s with heap := s.heap.push (sobj w) } (.ref s.heap.objs.size) "set" := ⟨_, hS, rfl⟩
      have hli := PySem.F.called_set.init.lookup
      have hbi := PySem.F.called_set.init.bind (.ref s.heap.objs.size)
      repeat (any_goals (first | assumption | wp_step))
      refine codeAny_mono (codeAny_call_builtin (R := wants (fun r s₂ => r = .none ∧ ∃ h' tk, s₂ = { s with heap := h', toks := tk } ∧
          SetW prog w h' s.heap.objs.size ks ∧
          (∀ b o, b < s.heap.objs.size → s.heap.get? b = some o → h'.get? b = some o)) E) PySem.F.called_set.init.plain PySem.F.entry_set_init (PySem.check_set_init_1 hT ?_)) fun r₂ s₂ hr₂ => ?_
      · obtain ⟨od, nl, osl, hol⟩ := sr.at_
        obtain ⟨o, Hh, Bg, hH, hW⟩ := sr.it
        have hol' : (s.heap.push (sobj w)).get? l = some { cls := .type T, dict := od, data := .seq items nl, slots := osl } := Heap.get?_push_of_some _ hol
        have hsls := sr.s1
        have hslf := sr.s2
        have hne := sr.s3
        have hH1 : Hh (s.heap.push (sobj w)) := Bg.keeps _ _ hH fun b o' e => Heap.get?_push_of_some _ e
        unfold Builtin.«set.__init__» noKeywords Builtin.Frozenset.updateFrom
        generalize hPI : pyIter = PI
        wp_walk
        subst hPI
        refine Bg.iter _ _ _ _ _ _ hH1 ?_
        refine wpAny_bind (wpAny_runValue ?_)
        have hlS : l < s.heap.objs.size := Heap.lt_size hol
        have hh3 : A.in1.in1.in1.handled = none := by simp [hh]
        have hneI : l ≠ (s.heap.push (sobj w)).objs.size := by
          rw [Heap.size_push]; exact Nat.ne_of_lt (Nat.lt_succ_of_lt hlS)
        have hSf : s.heap.objs.size ∉ [(s.heap.push (sobj w)).objs.size, l] := by
          rw [Heap.size_push]; simp only [List.mem_cons, List.mem_singleton, List.not_mem_nil, or_false, not_or]
          exact ⟨Nat.ne_of_lt (Nat.lt_succ_self _), Nat.ne_of_gt hlS⟩
        obtain ⟨St, Wk, st0⟩ := hW _ _ hh3 hneI
        refine loopW (Wk.toS) s.heap.objs.size hSf ks hi hn1 (items.size - 0) 0 _ (by omega) (Nat.zero_le _)
          (st0 _ (Bg.keeps _ _ hH1 fun b o' e => Heap.get?_push_of_some _ e) (Heap.get?_push_size _ Bg.free)) ?hS0 ?hR
        case hS0 =>
          have hget : ((s.heap.push (sobj w)).push o).get? s.heap.objs.size
              = some (sobj w) := Heap.get?_push_of_some _ hS
          have := setW_fresh (P := prog) (w := w) hget
          simpa using this
        case hR =>
          intro s' hm hS'
          rw [← hsz, List.take_length] at hS'
          obtain ⟨h', g', d', tk', os'⟩ := s'
          have eg : g' = s.gens := hm.gens
          have ed : d' = s.drawn := hm.drawn
          have eo : os' = s.os := hm.os
          subst eg; subst ed; subst eo
          show wpAny _ _ _ _ _ _
          refine wpAny_pure ?_
          show wpAny _ _ (ret Value.none) _ _ _
          refine wpAny_pure ⟨rfl, h', tk', rfl, hS', fun b o hb e => ?_⟩
          have hb1 : b ≠ s.heap.objs.size := Nat.ne_of_lt hb
          have hb2 : b ≠ (s.heap.push (sobj w)).objs.size := by
            rw [Heap.size_push]; exact Nat.ne_of_lt (Nat.lt_succ_of_lt hb)
          exact hm.heap b o (by simp only [List.mem_cons, List.mem_singleton, List.not_mem_nil, or_false, not_or]; exact ⟨hb1, hb2⟩) (Heap.get?_push_of_some _ (Heap.get?_push_of_some _ e))
      · cases r₂ with
        | error e => exact hr₂
        | ok fl₂ =>
          cases fl₂ with
          | ret r =>
            obtain ⟨rfl, h', tk, rfl, hS', hk'⟩ := hr₂
            repeat (any_goals (first | assumption | wp_step))
            exact h _ _ hS' hk'
          | _ => exact hr₂.elim
    | _ => exact hr.elim
end
end RM

/-! RZ: sorted(set(xs)). -/
namespace RM
open PySem PySem.Spec PyProof.Rows L2
def encK : Key → PyData
  | .inl i => .int i
  | .inr x => .str x
def leK : Key → Key → Bool
  | .inl a, .inl b => decide (a ≤ b)
  | .inr x, .inr y => decide (x.cps.toList ≤ y.cps.toList)
  | .inl _, .inr _ => true
  | .inr _, .inl _ => false
theorem cps_inj {x y : Str} (h : x.cps.toList = y.cps.toList) : x = y := by
  obtain ⟨cx⟩ := x
  obtain ⟨cy⟩ := y
  have : cx = cy := Array.ext' h
  rw [this]
theorem leK_anti {a b : Key} (h : leK a b = true) (h' : leK b a = true) : a = b := by
  cases a <;> cases b
  · have q := of_decide_eq_true h
    have q' := of_decide_eq_true h'
    rw [Int.le_antisymm q q']
  · cases h'
  · cases h
  · have q := of_decide_eq_true h
    have q' := of_decide_eq_true h'
    rw [cps_inj (List.le_antisymm q q')]
theorem leK_trans {a b c : Key} (h : leK a b = true) (h' : leK b c = true) : leK a c = true := by
  cases a <;> cases b <;> cases c <;> first | rfl | (cases h; done) | (cases h'; done) | skip
  · exact decide_eq_true (Int.le_trans (of_decide_eq_true h) (of_decide_eq_true h'))
  · exact decide_eq_true (List.le_trans (of_decide_eq_true h) (of_decide_eq_true h'))
theorem leK_total (a b : Key) : (leK a b || leK b a) = true := by
  cases a <;> cases b
  · rename_i a b
    show (decide (a ≤ b) || decide (b ≤ a)) = true
    rcases Int.le_total a b with h | h <;> simp [h]
  · rfl
  · rfl
  · rename_i x y
    show (decide (x.cps.toList ≤ y.cps.toList) || decide (y.cps.toList ≤ x.cps.toList)) = true
    rcases List.le_total x.cps.toList y.cps.toList with h | h <;> simp [h]
def sortK (ks : List Key) : List Key := (once ks).mergeSort leK
/-- all ints, or all texts -/
def homK : List Key → Bool
  | [] => true
  | .inl _ :: ks => ks.all Sum.isLeft
  | .inr _ :: ks => ks.all Sum.isRight
theorem homK_or : ∀ {ks : List Key}, homK ks = true → (∀ k ∈ ks, k.isLeft = true) ∨ (∀ k ∈ ks, k.isRight = true)
  | [], _ => .inl (by simp)
  | .inl i :: ks, h => .inl (by
    intro k hk
    rcases List.mem_cons.mp hk with rfl | hk
    · rfl
    · exact List.all_eq_true.mp h k hk)
  | .inr i :: ks, h => .inr (by
    intro k hk
    rcases List.mem_cons.mp hk with rfl | hk
    · rfl
    · exact List.all_eq_true.mp h k hk)
theorem mem_once : ∀ (n : Nat) {ks : List Key} {k : Key}, ks.length = n → (k ∈ once ks ↔ k ∈ ks)
  | 0, ks, k, h => by
    have : ks = [] := List.length_eq_zero_iff.mp h
    subst this
    rfl
  | n + 1, ks, k, h => by
    have hn : ks ≠ [] := fun e => by rw [e] at h; cases h
    have ih := mem_once n (ks := ks.dropLast) (k := k) (by rw [List.length_dropLast]; omega)
    have e := List.dropLast_concat_getLast hn
    conv => lhs; rw [← e, once_snoc]
    conv => rhs; rw [← e]
    unfold stepK
    rw [List.mem_append, List.mem_singleton]
    split
    · rename_i q
      rw [ih]
      constructor
      · exact .inl
      · rintro (h | h)
        · exact h
        · rw [h, ← mem_once n (ks := ks.dropLast) (by rw [List.length_dropLast]; omega)]
          exact once_any.mp q
    · rw [List.mem_append, List.mem_singleton, ih]
theorem mem_sortK {ks : List Key} {k : Key} : k ∈ sortK ks ↔ k ∈ ks := by
  unfold sortK
  rw [(List.mergeSort_perm _ _).mem_iff]
  exact mem_once _ rfl
theorem sortK_len {ks : List Key} : (sortK ks).length ≤ ks.length := by
  unfold sortK
  rw [(List.mergeSort_perm _ _).length_eq]
  exact once_le _ _ rfl
theorem le_int (a b : Int) : PySem.W.dataLe false encK (.inl a) (.inl b) = leK (.inl a) (.inl b) := congrFun (congrFun (PySem.W.dataLe_int (β := Int) id) a) b
theorem le_str (a b : Str) : PySem.W.dataLe false encK (.inr a) (.inr b) = leK (.inr a) (.inr b) := congrFun (congrFun (PySem.W.dataLe_str (β := Str) id) a) b
theorem sort_is {ks bs : List Key} (hp : bs.Perm (once ks)) (hh : homK ks = true) : bs.mergeSort (PySem.W.dataLe false encK) = sortK ks := by
  have hm : ∀ k ∈ bs, k ∈ ks := fun k hk => (mem_once _ rfl).mp (hp.mem_iff.mp hk)
  refine List.Perm.eq_of_pairwise (le := fun a b => leK a b = true) (fun a b _ _ => leK_anti) ?_ (List.pairwise_mergeSort (le := leK) (fun a b c h h' => leK_trans h h') leK_total _) (((List.mergeSort_perm _ _).trans hp).trans (List.mergeSort_perm _ _).symm)
  have tot : PySem.W.TotalLe (PySem.W.dataLe false encK) := by unfold PySem.W.dataLe; exact PySem.W.sortLe_total _ _ _
  refine (PySem.W.sort_pairwise tot bs).imp_of_mem fun {a b} ha hb h => ?_
  have ha := hm a ((List.mergeSort_perm _ _).mem_iff.mp ha)
  have hb := hm b ((List.mergeSort_perm _ _).mem_iff.mp hb)
  have h : PySem.W.dataLe false encK a b = true := h
  rcases homK_or hh with q | q
  · have qa := q a ha
    have qb := q b hb
    cases a <;> cases b <;> first | (cases qa; done) | (cases qb; done) | (rw [← le_int]; exact h)
  · have qa := q a ha
    have qb := q b hb
    cases a <;> cases b <;> first | (cases qa; done) | (cases qb; done) | (rw [← le_str]; exact h)
theorem each_vals : ∀ {out : List Value} {ks : List Key}, PySem.W.EachIs (fun v k => RelV (kV k) v) out ks → Vals (ks.map kV) out
  | _, _, .nil => Paired.nil
  | _, _, .cons r t => Paired.cons r (each_vals t)
section
variable {P : Program} {w : World} {A : Around} {E : Value → Shared → Prop} {s : Shared} {a : Addr} {ks : List Key}
theorem sorted_setW {Q : Value → Shared → Prop} (R : SetW P w s.heap a ks) (hh : A.handled = none) (hom : homK ks = true) (hu : A.units + 8 < cLine)
    (hQ : ∀ s' p (out : List Value) (c : Nat), (∀ b o, s.heap.get? b = some o → s'.heap.get? b = some o) → s'.gens = s.gens → s'.os = s.os → s.heap.objs.size ≤ p →
      s'.heap.get? p = some (seqObj "list" out.toArray c) → Vals ((sortK ks).map kV) out → Q (.ref p) s') :
    wpAny (model P w) A (call (.builtin "sorted") [.ref a]) Q E s := by
  obtain ⟨o, es, ep, t, ho, hx, hd, el, pm0, hb, hf, hr, hl⟩ := R
  refine Calls.call_function_entry kind_sorted plain_sorted entry_sorted (args_sorted1 _) ?_
  unfold Builtin.«sorted»
  refine wpAny_bind (m := checkCount "sorted" 1 1 _) (wpAny_pure ?_)
  refine wpAny_bind (collect_set (A := A.in1) hh ⟨o, ho, hx.1, hd⟩ hf hb hr hl fun s1 vs k1 hz g1 o1 pm => ?_)
  have hk : ∀ v ∈ vs, ∃ k, keyIs k v = true := fun v hv => by
    obtain ⟨e, he, q⟩ := List.mem_map.mp (pm.mem_iff.mp hv)
    obtain ⟨⟨k, h1, _⟩, _⟩ := el e he
    exact ⟨k, by rw [← q]; exact h1⟩
  have hp : (vs.map keyV).Perm (once ks) := by
    refine (pm.map keyV).trans ?_
    rw [List.map_map]
    exact pm0
  have hvl : vs.length = (once ks).length := by rw [← hp.length_eq, List.length_map]
  have hbl : vs.length < scanBound := by rw [pm.length_eq, List.length_map, Array.length_toList]; exact hb
  have mk : ∀ {R' : Value → Key → Prop}, (∀ v k, keyIs k v = true → R' v k) → ∀ us : List Value, (∀ v ∈ us, ∃ k, keyIs k v = true) → PySem.W.EachIs R' us (us.map keyV) := fun {R'} q us => by
    induction us with
    | nil => intro _; exact .nil
    | cons v us ih =>
      intro h
      obtain ⟨k, hv⟩ := h v List.mem_cons_self
      have : keyV v = k := keyV_of hv
      exact .cons (by rw [this]; exact q v k hv) (ih fun u hu => h u (List.mem_cons_of_mem _ hu))
  refine wpAny_bind (wpAny_newList ?_ (fits_of_scanBound hbl))
  have hoL : (s1.heap.push (seqObj "list" vs.toArray 0)).get? s1.heap.objs.size = some (seqObj "list" vs.toArray 0) := Heap.get?_push_size _ rfl
  refine wpAny_bind (wpAny_holding (PySem.W.list_sort_data (enc := encK) (R := fun v k => RelV (kV k) v) (bs := vs.map keyV) hoL (mk (fun v k h => keyV_rel h) vs hk) (mk (fun v k h => ?_) vs hk) ?_ ?_ (by rw [List.length_map]; exact fits_of_scanBound hbl) ?_ fun out ol oe => ?_))
  · rcases keyIs_shape h with ⟨i, t, rfl, rfl⟩ | ⟨x, t, rfl, rfl⟩
    · exact ⟨[], .int i t, by simp⟩
    · exact ⟨[], .str x t, by simp⟩
  · intro d hd d' hd'
    obtain ⟨k, hk1, rfl⟩ := List.mem_map.mp hd
    obtain ⟨k', hk2, rfl⟩ := List.mem_map.mp hd'
    have m1 : k ∈ ks := (mem_once _ rfl).mp (hp.mem_iff.mp hk1)
    have m2 : k' ∈ ks := (mem_once _ rfl).mp (hp.mem_iff.mp hk2)
    rcases homK_or hom with q | q
    · have qa := q k m1
      have qb := q k' m2
      cases k <;> cases k' <;> first | (cases qa; done) | (cases qb; done) | simp [encK, PySem.W.alike]
    · have qa := q k m1
      have qb := q k' m2
      cases k <;> cases k' <;> first | (cases qa; done) | (cases qb; done) | simp [encK, PySem.W.alike]
  · refine .inr fun d hd => ?_
    obtain ⟨k, hk1, rfl⟩ := List.mem_map.mp hd
    cases k
    · exact ⟨fun z => (nomatch z), fun xs z => (nomatch z)⟩
    · exact ⟨fun z => (nomatch z), fun xs z => (nomatch z)⟩
  · intro b hb
    have : (encK b).depth = 0 := by cases b <;> simp [encK, PyData.depth]
    rw [this]
    show A.in1.units + 1 + 0 < cLine
    have : A.in1.units ≤ A.units + 1 := by simp [Around.in1]
    omega
  · obtain ⟨c, hc⟩ := sortedHeap_at (vs := vs) (out := out.toArray) hoL
    rw [sort_is hp hom] at oe
    refine wpAny_pure ⟨_, rfl, hQ _ s1.heap.objs.size out c (fun b u e => ?_) g1 o1 hz hc (each_vals oe)⟩
    have q := k1 b u e
    have hlt := Heap.lt_size q
    show (sortedHeap (s1.heap.push (seqObj "list" vs.toArray 0)) s1.heap.objs.size vs out.toArray).get? b = some u
    rw [sortedHeap_old (Nat.ne_of_lt hlt) (by rw [Heap.size_push]; exact Nat.lt_succ_of_lt hlt)]
    exact Heap.get?_push_of_some _ q
end
/-- the reading of sorted(set(..)) -/
def tSortK (K : PySem.W.Frag) (ta : TE) : TE := fun σ H Q => ta σ H fun x H1 => ∃ (l : Addr) (ks : List Key), x = .ref l ∧ (SqL K H1 l (ks.map kV) ∨ SqT K H1 l (ks.map kV)) ∧ ks.length ≤ 4000 ∧ homK ks = true ∧ ∀ q, H1 q = none → Q (.ref q) (upd H1 q (.lst ((sortK ks).map kV)))
section
variable {X : Cx}
theorem pe_sortK {a : Expr} {ta : TE} {p p2 q pos : Pos} (hc : X.calm = true) (hu : X.A.units + 64 < cLine) (hg : Gl X "sorted") (hm : X.mg "sorted" = none) (hg2 : Gl X "set") (hm2 : X.mg "set" = none) (ha : PE X a ta)
    (na : starEach [a] X.env = (false, eval a X.env) :: starEach [] X.env := by rfl) : PE X (.Call (.Name "sorted" p) [.Call (.Name "set" p2) [a] [] q] [] pos) (tSortK X.K ta) := by
  refine ⟨fun pins s σ H Q I h => ?_⟩
  refine Call_ (ld_blt I hg hm boot_sorted ?_)
  refine PyProof.Rows.callWith_builtin1 (PyProof.Rows.args_cons ?_ rfl) rfl rfl
  refine Call_ (ld_blt I hg2 hm2 PyProof.Rows.boot_set ?_)
  refine PyProof.Rows.callWith_type1 (PyProof.Rows.args_cons (thn (ha.run pins s σ H _ I h) fun v s1 ⟨x, H1, I1, r1, q1⟩ => PyProof.Rows.args_nil ?_) na) na rfl
  obtain ⟨l, ks, rfl, hq, h1, hom, q1⟩ := q1
  cases r1
  have hle := once_le ks.length ks rfl
  have fin : ∀ (h' : Heap) (tk : Nat), SetW X.prog X.w h' s1.heap.objs.size ks →
      (∀ b o, b < s1.heap.objs.size → s1.heap.get? b = some o → h'.get? b = some o) →
      wpAny (model X.prog X.w) X.A (spliced (backTo pos (starEach [] X.env))) (fun vs s₂ => wpAny (model X.prog X.w) X.A (call (.builtin "sorted") (Value.ref s1.heap.objs.size :: vs)) (EP X pins σ Q) X.xe s₂) X.xe { s1 with heap := h', toks := tk } := fun h' tk hS hk => by
    refine PyProof.Rows.args_nil ?_
    have I2 : Inv X pins σ H1 { s1 with heap := h', toks := tk } := I1.kept fun b o e => hk b o (Heap.lt_size e) e
    refine sorted_setW hS (I.ok.hd hc) hom (by omega) fun s' p out c k g o hp hg hv => ?_
    have hn : H1 p = none := I2.hok.fresh hp
    have hlen : ((sortK ks).map kV).length ≤ sizeLine := by
      rw [List.length_map]
      have := sortK_len (ks := ks)
      rw [sizeLine_eq]; omega
    have J : Inv X pins σ (upd H1 p (.lst ((sortK ks).map kV))) { s1 with heap := s'.heap, gens := s'.gens, drawn := s'.drawn, toks := s'.toks } := by
      have g' : s'.gens = s1.gens := g
      show Inv X pins σ (upd H1 p (.lst ((sortK ks).map kV))) { ({ s1 with heap := h', toks := tk } : Shared) with heap := s'.heap, gens := s'.gens, drawn := s'.drawn, toks := s'.toks }
      refine I2.call (ch := []) (Un.laid k hp hn) (I2.hok.laid k hp ⟨hlen, out, c, hv, hg⟩) ?_ (fun _ z => nomatch z)
      show AllBare s'.gens
      rw [g']; exact I2.bare
    have e : s' = { s1 with heap := s'.heap, gens := s'.gens, drawn := s'.drawn, toks := s'.toks } := by
      cases s'
      cases s1
      cases o
      rfl
    rw [e]
    exact ⟨.ref p, _, J, rfl, q1 p hn⟩
  have at_ : ∀ (its : List Value), Vals (ks.map kV) its → (∀ (i : Nat) (v : Value), its.toArray[i]? = some v → ∃ k, ks[i]? = some k ∧ RelV (kV k) v) ∧ ks.length = its.toArray.size := fun its r => by
    have hl := r.length
    rw [List.length_map] at hl
    refine ⟨fun i v hv => ?_, by simp [hl]⟩
    have hv : its[i]? = some v := by simpa using hv
    have hi : i < ks.length := by
      have := (List.getElem?_eq_some_iff.mp hv).1
      omega
    obtain ⟨u, e1, e2⟩ := r.get (i := i) (x := kV ks[i]) (by simp [hi])
    rw [hv] at e1
    cases e1
    exact ⟨ks[i], by simp [hi], e2⟩
  rcases hq with hq | hq
  · obtain ⟨its, r, pl, hz⟩ := I1.list hq
    obtain ⟨a1, a2⟩ := at_ its r
    exact call_setW (I1.ok.hd hc) (src_list pl.isList) a1 a2 (by unfold scanBound; omega) fin
  · obtain ⟨its, r, pl, hz⟩ := I1.tuple hq
    obtain ⟨a1, a2⟩ := at_ its r
    exact call_setW (I1.ok.hd hc) (src_tup pl) a1 a2 (by unfold scanBound; omega) fin
def kD : Key → D
  | .inl i => .int i
  | .inr x => .str x
theorem kD_den {K : PySem.W.Frag} {p : List (List Addr)} {G : Hp} : ∀ ks : List Key, DenL K p G (ks.map kD) (ks.map kV)
  | [] => rfl
  | .inl i :: ks => ⟨_, _, rfl, rfl, kD_den ks⟩
  | .inr i :: ks => ⟨_, _, rfl, rfl, kD_den ks⟩
def sortKs (xs : List D) : M (List D) := match keysD xs with
  | some ks => if ks.length ≤ 4000 ∧ homK ks = true then pure ((sortK ks).map kD) else stuck
  | none => stuck
def sortSetF : D → M (List D)
  | .lst xs => sortKs xs
  | .tup xs => sortKs xs
  | _ => stuck
theorem xf_sortSet {W : WX} {g : DSt} {a : Expr} {ma : M D} {p p2 q pos : Pos} (hc : X.calm = true) (hu : X.A.units + 64 < cLine) (hg : Gl X "sorted") (hm : X.mg "sorted" = none) (hg2 : Gl X "set") (hm2 : X.mg "set" = none) (ha : XE X W g a ma)
    (na : starEach [a] X.env = (false, eval a X.env) :: starEach [] X.env := by rfl) : XF X W g (.Call (.Name "sorted" p) [.Call (.Name "set" p2) [a] [] q] [] pos) (B ma sortSetF) := by
  refine PE.imp (pe_sortK hc hu hg hm hg2 hm2 ha na) fun σ H Q ⟨p, G, S, ow, r, h⟩ => ?_
  have h : okF X.K p G H (fun c d H' => W c d σ H') ((ma >>= sortSetF) S) Q := h
  refine ⟨p, G, S, ow, r, okF.seq h fun d S1 v p1 G1 H1 e1 dn r1 x1 h1 => ?_⟩
  have key : ∀ (xs : List D) (l : Addr) (vs : List V), v = .ref l → (SqL X.K H1 l vs ∨ SqT X.K H1 l vs) → DenL X.K p1 G1 xs vs → okF X.K p1 G1 H1 (fun c d H' => W c d σ H') (sortKs xs S1) Q →
      ∃ (l : Addr) (ks : List Key), v = .ref l ∧ (SqL X.K H1 l (ks.map kV) ∨ SqT X.K H1 l (ks.map kV)) ∧ ks.length ≤ 4000 ∧ homK ks = true ∧ ∀ q, H1 q = none → Q (.ref q) (upd H1 q (.lst ((sortK ks).map kV))) := by
    intro xs l vs ev hs hd h
    unfold sortKs at h
    cases e : keysD xs with
    | none => rw [e] at h; exact h.elim
    | some ks =>
      rw [e] at h
      by_cases hz : ks.length ≤ 4000 ∧ homK ks = true
      · have h : okF X.K p1 G1 H1 (fun c d H' => W c d σ H') ((if ks.length ≤ 4000 ∧ homK ks = true then (pure ((sortK ks).map kD) : M (List D)) else stuck) S1) Q := h
        rw [if_pos hz] at h
        rw [keysD_den hd e] at hs
        exact ⟨l, ks, ev, hs, hz.1, hz.2, fun q hq => okF.lay h r1 hq (kD_den _)⟩
      · have h : okF X.K p1 G1 H1 (fun c d H' => W c d σ H') ((if ks.length ≤ 4000 ∧ homK ks = true then (pure ((sortK ks).map kD) : M (List D)) else stuck) S1) Q := h
        rw [if_neg hz] at h; exact h.elim
  cases d <;> try exact h1.elim
  · obtain ⟨l, vs, ev, hl, hv⟩ := dn
    exact key _ l vs ev (.inr (SqT.mono r1.sub hl)) hv h1
  · obtain ⟨l, vs, ev, hl, hv⟩ := dn
    exact key _ l vs ev (.inl (SqL.of (r1.sub _ _ hl))) hv h1
end
end RM

/-! RZ: the head's hook over a list of addresses that is made without search for doubles; its run in parts. -/
namespace RM
open PySem PySem.Spec PyProof.Rows L2
/-- what an object names, as far as the facts look -/
def outL (o : Obj) : List Addr := match o.data with
  | .seq its _ => its.toList.flatMap He.refV
  | .dict es _ => es.toList.flatMap fun e => He.refV e.val
  | .func fd => He.refV fd.code ++ (He.refV fd.defaults ++ He.refV fd.kwdefaults)
  | .cls cd => [cd.ns]
  | .fields vs => vs.toList.flatMap He.refV
  | _ => []
def lvL (g : Addr → Option Obj) : Nat → List Addr → List Addr
  | 0, as => as
  | n + 1, as => as ++ lvL g n ((as.flatMap fun a => match g a with
    | some o => outL o
    | none => []).filter fun a => Nat.blt 3 a)
abbrev asL (n : Nat) (g : Addr → Option Obj) : List Addr := lvL g n [mainGlobals]
abbrev KL (n : Nat) (s : PySem.W.SharedT) : PySem.W.Frag := He.frG (HandSHeadRun.getT s) (asL n (HandSHeadRun.getT s))
section
variable (fa : List He.Fa) (fn : List He.DefD) (pr : List PrD) (chk : PySem.W.Frag → Bool) (ts : List TabD)
def obsZG (n : Nat) (g : Addr → Option Obj) : AlY := obsY fa fn pr chk ts (He.frG g (asL n g))
def hookZ (n : Nat) : PySem.W.Hook where
  α := AlY
  obs := fun s => obsZG fa fn pr chk ts n s.heap.get?
  val := fun w => ((He.valD fn, true, pr.map fun q : PrD => q.d.val), ts.map fun t => some (He.keysIn w.params (tabKeys t)))
  says := fun w h => ∃ K : PySem.W.Frag, K.In h ∧ SaysY fa fn pr chk ts w K
  of := fun _ _ e => ⟨_, He.frG_in, ⟨SaysX.of (congrArg (fun z : AlY => z.1) e), congrArg (fun z : AlY => z.2) e⟩⟩
  keeps := fun _ _ _ ⟨K, hK, c⟩ k => ⟨K, PySem.W.Frag.In.keeps hK k, c⟩
theorem obsZG_eq {n : Nat} {g : Addr → Option Obj} {s : Shared} (h : ∀ a, g a = s.heap.get? a) : obsZG fa fn pr chk ts n g = (hookZ fa fn pr chk ts n).obs s := by
  have e : g = s.heap.get? := funext h
  rw [e] <;> rfl
end
section
variable (R : PySem.W.OpenRow) (q : Program) (fa : List He.Fa) (fn : List He.DefD) (pr : List PrD) (chk : PySem.W.Frag → Bool) (ts : List TabD) (n M : Nat) (loose : List Str) (w : World)
noncomputable abbrev endZ (os : OsState) : Option PySem.W.SharedT := HandSHeadRun.endF (HandSHeadRun.stepQ (HandSHeadRun.denQ HandSHeadRun.tabQ) R.prog w) M R.prog w os
def ZunA : Prop := ∀ os : OsState, (endZ R M w os).map (fun s => HandSHeadRun.looksF R.prog (PySem.W.boot_heap w.params) s.abs) = some true
def ZunS : Prop := ∀ os : OsState, (endZ R M w os).map (fun s => HandSHeadRun.seenQ q loose (importedModules R.prog.main.body) (fun s => PySem.W.xlAt q [] s && PySem.W.recOk R.records s) s.abs) = some (PySem.W.openGood q loose)
def ZunF : Prop := ∀ os : OsState, (endZ R M w os).map (fun s => fa.all fun f => f.ok (KL n s)) = some true
def ZunB : Prop := ∀ os : OsState, (endZ R M w os).map (fun s => (fn.all fun d => d.ok (KL n s), fn.map fun d => He.fnW (KL n s) d.at_)) = some (true, fn.map He.DefD.val)
def ZunC : Prop := ∀ os : OsState, (endZ R M w os).map (fun s => (((chk (KL n s) && pr.all fun q => q.ok (KL n s)), pr.map fun q => fnWA (KL n s) (pAd (KL n s) q.cls q.prop)), ts.map fun t => He.dicW (KL n s) (He.ga (KL n s) t.1))) = some ((true, pr.map fun q : PrD => q.d.val), ts.map fun t => some (He.keysIn w.params (tabKeys t)))
variable {R q fa fn pr chk ts n M loose w}
theorem zun_join (a : ZunA R M w) (s : ZunS R q M loose w) (f : ZunF R fa n M w) (b : ZunB R fn n M w) (c : ZunC R pr chk ts n M w) : HandSHeadRun.RunEq R q (hookZ fa fn pr chk ts n) (fun s => obsZG fa fn pr chk ts n (HandSHeadRun.getT s)) M loose w := by
  intro os
  have e := map_two (map_two (a os) (s os)) (map_two (f os) (map_two (b os) (c os)))
  have eZ : endZ R M w os = HandSHeadRun.endF (HandSHeadRun.stepQ (HandSHeadRun.denQ HandSHeadRun.tabQ) R.prog w) M R.prog w os := rfl
  rw [eZ] at e
  generalize HandSHeadRun.endF (HandSHeadRun.stepQ (HandSHeadRun.denQ HandSHeadRun.tabQ) R.prog w) M R.prog w os = x at *
  cases x with
  | none => cases e
  | some s =>
    have e2 := Option.some.inj e
    obtain ⟨e3, e4⟩ := Prod.mk.inj e2
    obtain ⟨e5, e6⟩ := Prod.mk.inj e3
    obtain ⟨e7, e8⟩ := Prod.mk.inj e4
    obtain ⟨e9, e10⟩ := Prod.mk.inj e8
    obtain ⟨e11, e12⟩ := Prod.mk.inj e9
    obtain ⟨e13, e14⟩ := Prod.mk.inj e10
    obtain ⟨e15, e16⟩ := Prod.mk.inj e13
    show some (_, _, _) = some (_, _, _)
    congr 1
    refine Prod.ext e5 (Prod.ext e6 (Prod.ext (Prod.ext ?_ (Prod.ext e15 e16)) e14))
    refine Prod.ext ?_ e12
    show ((fa.all fun f => f.ok (KL n s)) && fn.all fun d => d.ok (KL n s)) = true
    rw [e7, e11]; rfl
end
end RM

/-! RZ: defs that return a new list, which the caller may then change. -/
namespace RM
open PySem PySem.Spec PyProof.Rows L2
/-- a new list is returned -/
def IL : IC (List D) := fun xs c => c = .rl xs
section
variable {α : Type} {X : Cx} {W : Wf} {g : DSt} {I : IC α} {e : Expr} {rest : List Stmt} {pos px : Pos} {ml : M (List D)}
theorem xs_retF {r : List D → α} (he : XF X W.x g e ml) (hr : ∀ xs, I (r xs) (.rl xs)) : XS X W g I (.Return (some e) pos :: rest) (B ml fun xs => pure (r xs)) := by
  refine PSs.imp (pss_cons (ps_ret he) pss_never) fun E σ H ⟨n, p, G, S, ow, r', q⟩ => ?_
  refine ⟨p, G, S, ow, r'.rs, ?_⟩
  have q : okG X.K W n I ((ml S).andThen fun xs => pure (r xs)) E := q
  cases em : ml S with
  | ok xs S1 =>
    rw [em] at q
    have q := q (.rl xs) (hr xs)
    exact fun a vs p' G' H' h0 h1 h2 h3 h4 r1 x1 => q a vs p' G' H' (r'.ext.none h0) h1 h2 h3 h4 r1 (r'.ext.trans x1)
  | exc x S1 =>
    rw [em] at q
    exact fun cls dd p' G' H' a b c => q cls dd p' G' H' a b (r'.ext.trans c)
  | stuck =>
    rw [em] at q
    exact q
theorem xs_retL (he : XF X W.x g e ml) : XS X W g IL (.Return (some e) pos :: rest) ml := by
  have := xs_retF (pos := pos) (rest := rest) (r := fun d => d) (I := IL) he fun d => rfl
  rwa [B_id] at this
theorem xs_retLR (he : XF X W.x g e ml) : XS X W g (IR IL) (.Return (some e) pos :: rest) ml := by
  have := xs_retF (pos := pos) (rest := rest) (r := fun d => d) (I := IR IL) he fun d => ⟨rfl, .inr ⟨d, rfl⟩⟩
  rwa [B_id] at this
/-- return x, x an own list -/
theorem xs_retO {a : α} (i : Nat) {x : Str} {xs : List D} (hr : I a (.rl xs)) (hg : g[i]? = some (some (.own xs)) := by rfl) (hN : X.N[i]? = some x := by rfl) (hv : Vis X.env.scope x := by first | exact Or.inl rfl | exact Or.inr (Or.inl rfl) | exact Or.inr (Or.inr rfl)) (hd : (x == ("__debug__" : Str)) = false := by decide)
    (hcd : (x == ("__classdict__" : Str)) = false := by decide) : XS X W g I (.Return (some (.Name x px)) pos :: rest) (pure a) := by
  refine PSs.imp (pss_cons (ps_ret (pe_var hN hv hd hcd)) pss_never) fun E σ H ⟨n, p, G, S, ow, r, q⟩ => ?_
  obtain ⟨l, vs, e1, e2, e3, e4⟩ := r.rs.sl.getO hg
  have pa : l ∉ p.flatten := fun z => (List.nodup_append.mp r.rs.nd).2.2 l z l e2 rfl
  exact ⟨.ref l, e1, q (.rl xs) hr l vs p G H (r.own l e2) e3 e4 (r.rs.gn l e2) pa r.rs.rel r.ext⟩
end
def j0 {α : Type} (f : M α) : List D → M α
  | [] => f
  | _ => stuck
def j1 {α : Type} (f : D → M α) : List D → M α
  | [a] => f a
  | _ => stuck
def j2 {α : Type} (f : D → D → M α) : List D → M α
  | [a, b] => f a b
  | _ => stuck
def j3 {α : Type} (f : D → D → D → M α) : List D → M α
  | [a, b, c] => f a b c
  | _ => stuck
def j4 {α : Type} (f : D → D → D → D → M α) : List D → M α
  | [a, b, c, d] => f a b c d
  | _ => stuck
def j5 {α : Type} (f : D → D → D → D → D → M α) : List D → M α
  | [a, b, c, d, e] => f a b c d e
  | _ => stuck
@[simp] theorem j0_at {α : Type} (f : M α) : j0 f [] = f := Eq.trans rfl rfl
@[simp] theorem j1_at {α : Type} (f : D → M α) (a : D) : j1 f [a] = f a := Eq.trans rfl rfl
@[simp] theorem j2_at {α : Type} (f : D → D → M α) (a b : D) : j2 f [a, b] = f a b := Eq.trans rfl rfl
@[simp] theorem j3_at {α : Type} (f : D → D → D → M α) (a b c : D) : j3 f [a, b, c] = f a b c := Eq.trans rfl rfl
@[simp] theorem j4_at {α : Type} (f : D → D → D → D → M α) (a b c d : D) : j4 f [a, b, c, d] = f a b c d := Eq.trans rfl rfl
@[simp] theorem j5_at {α : Type} (f : D → D → D → D → D → M α) (a b c d e : D) : j5 f [a, b, c, d, e] = f a b c d e := Eq.trans rfl rfl
theorem runA_len : ∀ {ms : List (M D)} {S S1 : Sto} {ds : List D}, runA ms S = .ok ds S1 → ds.length = ms.length
  | [], S, S1, ds, h => by
    cases (show (Res.ok [] S : Res (List D)) = .ok ds S1 from h); rfl
  | m :: ms, S, S1, ds, h => by
    have h : (m S).andThen (fun x => (fun S => (runA ms S).andThen fun xs => pure (x :: xs))) = .ok ds S1 := h
    cases e : m S with
    | stuck => rw [e] at h; cases h
    | exc x S' => rw [e] at h; cases h
    | ok x S' =>
      rw [e] at h
      have h : (runA ms S').andThen (fun xs => pure (x :: xs)) = .ok ds S1 := h
      cases e2 : runA ms S' with
      | stuck => rw [e2] at h; cases h
      | exc x S' => rw [e2] at h; cases h
      | ok xs S2 =>
        rw [e2] at h
        cases (show (Res.ok (x :: xs) S2 : Res (List D)) = .ok ds S1 from h)
        rw [List.length_cons, List.length_cons, runA_len e2]
/-- the promise of a def that returns a new list -/
def spF (K : PySem.W.Frag) (k : Nat) (f : List D → M (List D)) : Sp := fun vs H Q E => ∃ ds p G S, ds.length = k ∧ DenL K p G ds vs ∧ Rel0 K p S G H ∧ okF K p G H E (f ds S) Q
theorem spF.len {K : PySem.W.Frag} {k : Nat} {f : List D → M (List D)} (vs : List V) (H : Hp) (Q : VK) (E : L2.XK) (h : spF K k f vs H Q E) : vs.length = k := by
  obtain ⟨ds, p, G, S, e, dn, _⟩ := h
  rw [dn.length, e]
abbrev FnF (P : Program) (w : World) (K : PySem.W.Frag) (mg : Str → Option Value) (base : Heap) (k : Nat) (f : Addr) (fd : FuncData) (ps : List Str) (g : List D → M (List D)) : Prop := FnG P w K mg base k f fd ps (spF K ps.length g)
structure OwnF (P : Program) (w : World) (K : PySem.W.Frag) (mg : Str → Option Value) (base : Heap) (k : Nat) (f : Addr) (fd : FuncData) (ps : List Str) (g : List D → M (List D)) : Prop where
  fn : FnF P w K mg base k f fd ps g
  kp : PySem.W.keepIn K (.ref f) = true
section
variable {P : Program} {w : World} {K : PySem.W.Frag} {mg : Str → Option Value} {base : Heap} {x qual : Str} {params : Arguments} {body : List Stmt} {scope : Scope} {dvs : List V} {kws : List (Str × V)} {f : Addr} {fd : FuncData}
theorem fnF_of {N ps : List Str} {k : Nat} {gf : List D → M (List D)} (F : FunD K x qual params body scope dvs kws f fd) (S : FnScope N ps scope)
    (hb : ∀ (cdv : Value) (A : Around) (fr : List Env) (s : Shared) (H : Hp) (E : L2.XK), BodyX (cxOf (L2.CX P w) P w K mg base N qual scope f cdv A fr s H E) k E → ∀ ds : List D, ds.length = ps.length → XS (cxOf (L2.CX P w) P w K mg base N qual scope f cdv A fr s H E) E (startD N.length ds) IL body (gf ds)) : FnF P w K mg base (k + 1) f fd ps gf := by
  refine fnG_of F S (fun vs H Q E h => spF.len vs H Q _ h) fun cdv A fr s H vs Q E hG hr h => ?_
  obtain ⟨ds, p, G, St, e, dn, r, h⟩ := h
  refine ⟨_, hb cdv A fr s H E ⟨hr, hG, takes_of rfl rfl rfl rfl, passes_of rfl, rfl⟩ ds e, ?_⟩
  refine ⟨⟨p, G, H, p, G⟩, p, G, St, [], ⟨⟨r, ?_, by simpa using r.nd, by simp⟩, Ext.refl _ _ _, by simp, ⟨[], by simp⟩, Same.refl _⟩, ?_⟩
  · unfold L2.start startD
    rw [← dn.length]
    exact slots_start dn
  · cases em : gf ds St with
    | stuck => rw [em] at h; exact h
    | exc z S' => rw [em] at h; exact h
    | ok d S' =>
      rw [em] at h
      rintro c rfl
      exact h
end
section
variable {X : Cx} {W : WX} {g : DSt} {a : Expr} {es : List Expr} {ms : List (M D)} {pos p : Pos} {k : Nat} {f : Addr} {fd : FuncData} {ps : List Str} {gf : List D → M (List D)} {x : Str} {dvs : List V} {ds : List Value} {dds : List D}
/-- f(e, ..), a new list -/
theorem xf_call (F : FnF X.prog X.w X.K X.mg X.base k f fd ps gf) (hr : Room k X.A) (hG : X.A.guards = some []) (tk : Takes X W) (hg : Gl X x) (hm : X.mg x = some (.ref f)) (hk : PySem.W.keepIn X.K (.ref f) = true) (hb : Binds X.K fd ps ds) (hd : Vals dvs ds) (hdd : ∀ q G, DenL X.K q G dds dvs)
    (ha : XA X W g (a :: es) ms) (hl : ms.length + dds.length = ps.length := by rfl) (hdb : (x == ("__debug__" : Str)) = false := by decide) (he : starEach (a :: es) X.env = (false, eval a X.env) :: starEach es X.env := by rfl) (hpl : (backTo pos (starEach es X.env)).any (·.1) = false := by rfl) :
    XF X W g (.Call (.Name x p) (a :: es) [] pos) (argsB ms fun xs => gf (xs ++ dds)) := by
  refine ⟨fun pins s σ H Q I ⟨q, G, S, ow, r, h⟩ => ?_⟩
  rw [argsB_eq] at h
  refine wpAny_Call_Name_kw (ld_glob I hg hm (PySem.W.callWith_K (h₀ := X.base) I.ok.mod.kin hk ?_ he hpl) hdb)
  refine thn (ha.run pos pins s σ H (fun vs H1 => spF X.K ps.length gf (vs ++ dvs) H1 Q fun c d H' => W c d σ H') I ⟨q, G, S, ow, r, okF.seq h fun d S1 v p1 G1 H1 e1 dn r1 x1 h1 => ?_⟩) fun us s1 ⟨vs, H1, I1, rv, q1⟩ => ⟨I1.kIn, ?_⟩
  · refine ⟨d ++ dds, p1, G1, S1, ?_, dn.append (hdd p1 G1), r1, h1⟩
    rw [List.length_append, ← hl, runA_len e1]
  · have r2 := rv.append hd
    exact call_G F hr hG tk I1 (hb s1 us I1.kIn (by rw [← r2.length]; exact F.arity _ _ _ _ q1)) r2 q1
end
end RM

/-! RZ: x.clear(), t.index(text). -/
namespace RM
open PySem PySem.Spec PyProof.Rows L2
section
variable {X : Cx} {W : Wf} {pos apos cpos : Pos}
theorem ds_clear (i : Nat) {x : Str} {px : Pos} (hN : X.N[i]? = some x := by rfl) (hv : Vis X.env.scope x := by first | exact Or.inl rfl | exact Or.inr (Or.inl rfl) | exact Or.inr (Or.inr rfl)) (hd : (x == ("__debug__" : Str)) = false := by decide)
    (hcd : (x == ("__classdict__" : Str)) = false := by decide) (hline : (apos.endLine == cpos.line) = true := by rfl) (hs : swapsWith (.Call (.Attribute (.Name x px) "clear" apos) [] [] cpos) none pos.line X.env = pure false := by rfl) :
    DS X W (.Expr (.Call (.Attribute (.Name x px) "clear" apos) [] [] cpos) pos) (fun t => do let _ ← getO t i; pure (.nx (t.set i (some (.own []))))) := by
  refine PS.imp (ps_expr (pe_bm0 PySem.F.plainAttrs_list PySem.F.slot_list_clear PySem.F.type_list_clear mt_clear (pe_var hN hv hd hcd) rfl hline) hs) fun E σ H ⟨n, t, p, G, S, ow, r, h⟩ => ?_
  obtain ⟨xs, l, vs, e1, e2, e3, e4, e5, h⟩ := own_at (Z := fun z => okS X.K W n z E) r (fun z => z) h
  exact ⟨_, e2, .inl ⟨rfl, vs, SqL.of e4⟩, l, vs, rfl, rfl, e4, h p G _ σ ow (r.putO e1 e2 e3 DenL.nil)⟩
end
section
variable {α : Type} {X : Cx} {W : Wf} {g : DSt} {I : IC α} {rest : List Stmt} {pos apos cpos : Pos}
theorem xs_clear (i : Nat) {x : Str} {px : Pos} {xs : List D} {m : M α} (hg : g[i]? = some (some (.own xs)) := by rfl) (hN : X.N[i]? = some x := by rfl) (hk : XS X W (g.set i (some (.own []))) I rest m) (hv : Vis X.env.scope x := by first | exact Or.inl rfl | exact Or.inr (Or.inl rfl) | exact Or.inr (Or.inr rfl)) (hd : (x == ("__debug__" : Str)) = false := by decide)
    (hcd : (x == ("__classdict__" : Str)) = false := by decide) (hline : (apos.endLine == cpos.line) = true := by rfl) (hs : swapsWith (.Call (.Attribute (.Name x px) "clear" apos) [] [] cpos) none pos.line X.env = pure false := by rfl) :
    XS X W g I (.Expr (.Call (.Attribute (.Name x px) "clear" apos) [] [] cpos) pos :: rest) (B (pure ()) fun _ => m) :=
  xs_next (e := fun _ => g.set i (some (.own []))) (ds_clear i hN hv hd hcd hline hs) (by rw [getO_at hg]; rfl) fun _ => hk
end
/-! ### t.index(text) -/
def idxOfS : List D → Str → Nat → Option Nat
  | [], _, _ => none
  | .str y :: ds, z, j => if y = z then some j else idxOfS ds z (j + 1)
  | _ :: _, _, _ => none
def tIndexD (d e : D) : M D := match d, e with
  | .tup xs, .str z => match idxOfS xs z 0 with
    | some j => pure (.int j)
    | none => stuck
  | _, _ => stuck
def strsOf : List D → Option (List Str)
  | [] => some []
  | .str y :: ds => (strsOf ds).map (y :: ·)
  | _ :: _ => none
end RM

/-! RZ: xs[::-1] of a list, t.index(text). -/
namespace RM
open PySem PySem.Spec PyProof.Rows L2
theorem rev_places : ∀ n : Nat, (List.range n).map (fun (k : Nat) => (((n : Int) - 1) + (-1) * (k : Int)).toNat) = (List.range n).reverse := by
  intro n
  apply List.ext_getElem
  · simp
  · intro i h1 h2
    simp at h1
    simp only [List.getElem_map, List.getElem_range, List.getElem_reverse, List.length_range]
    omega
theorem all_picked (its : List Value) : (List.range its.length).filterMap (fun i => its.toArray[i]?) = its := by
  have := slicePick_all its.toArray
  unfold slicePick at this
  obtain ⟨h1, h2, h3⟩ := slice_bounds none none its.toArray.size
  rw [h1, h2, h3] at this
  have e : sliceRange ((_root_.HT.sIx its.toArray.size 0 none : Nat) : Int) ((_root_.HT.sIx its.toArray.size its.toArray.size none : Nat) : Int) 1 = List.range its.length := by
    rw [sliceRange_one, _root_.HT.sIx_none, _root_.HT.sIx_none, List.size_toArray]
    simp
  rw [e] at this
  exact congrArg Array.toList this
theorem slicePick_rev (its : List Value) : slicePick its.toArray none none (some (-1)) = its.reverse.toArray := by
  unfold slicePick
  have b : sliceBounds none none (some (-1)) its.toArray.size = ((its.length : Int) - 1, -1, -1) := by
    unfold sliceBounds
    simp
  rw [b]
  have r : sliceRange ((its.length : Int) - 1) (-1) (-1) = (List.range its.length).reverse := by
    unfold sliceRange
    have e : ((if (-1 : Int) > 0 then (if (its.length : Int) - 1 < -1 then (-1 - ((its.length : Int) - 1) + -1 - 1) / -1 else 0) else (if (its.length : Int) - 1 > -1 then ((its.length : Int) - 1 - -1 - -1 - 1) / (- -1) else 0)) : Int).toNat = its.length := by
      simp
      split
      · omega
      · omega
    show (List.range (((if (-1 : Int) > 0 then (if (its.length : Int) - 1 < -1 then (-1 - ((its.length : Int) - 1) + -1 - 1) / -1 else 0) else (if (its.length : Int) - 1 > -1 then ((its.length : Int) - 1 - -1 - -1 - 1) / (- -1) else 0)) : Int).toNat)).map _ = _
    rw [e]
    exact rev_places its.length
  rw [r, List.filterMap_reverse, all_picked]
/-- the reading of a[::-1] -/
def tRevL (K : PySem.W.Frag) (ta ts : TE) : TE := fun σ H Q => ta σ H fun x H1 => ts σ H1 fun y H2 => y = .int (-1) ∧ ∃ l xs, x = .ref l ∧ SqL K H2 l xs ∧ ∀ q, H2 q = none → Q (.ref q) (upd H2 q (.lst xs.reverse))
section
variable {X : Cx}
theorem pe_revL {a st : Expr} {ta ts : TE} {pos p2 : Pos} (ha : PE X a ta) (hs : PE X st ts) : PE X (.Subscript a (.Slice none none (some st) p2) pos) (tRevL X.K ta ts) := by
  refine ⟨fun pins s σ H Q I h => ?_⟩
  refine Subscript_ (thn (ha.run pins s σ H _ I h) fun v s1 ⟨x, H1, I1, r1, q1⟩ => ?_)
  refine wpAny_Slice ?_
  rw [evalPart_none, evalPart_some]
  refine wpAny_pure (wpAny_pure (thn (hs.run pins s1 σ H1 _ I1 q1) fun z s3 ⟨y, H3, I3, r3, q3⟩ => ?_))
  obtain ⟨rfl, l, xs, rfl, hx, q⟩ := q3
  obtain ⟨t, rfl⟩ := r3
  cases r1
  have I4 : Inv X pins σ H3 { s3 with heap := s3.heap.push { cls := .type "slice", data := .fields #[.none, .none, .int (-1) t] } } := I3.kept (t' := s3.toks) fun b ob e => Heap.get?_push_of_some _ e
  obtain ⟨its, r, hl, hz⟩ := I4.list hx
  have hlen := r.length
  have hg : wpAny (model X.prog X.w) X.A (getItem (.ref l) (.ref s3.heap.objs.size)) (EP X pins σ Q) X.xe { s3 with heap := s3.heap.push { cls := .type "slice", data := .fields #[.none, .none, .int (-1) t] } } := by
    refine wpAny_getItem_list_slice (st := some (-1)) hl.isList (Heap.IsSliceOf.new ..) .none .none (.int (-1) t) (by simp) ?_ (by rw [List.size_toArray]; omega)
    rw [slicePick_rev]
    refine ⟨.ref _, _, I4.laid (t' := s3.toks) (o := .lst xs.reverse) (fun b ob e => Heap.get?_push_of_some _ e) (Nat.le_refl _) ?_, rfl, q _ (I4.hok.fresh (Nat.le_refl _))⟩
    exact ⟨by rw [List.length_reverse]; exact hz, _, 0, r.reverse, Heap.get?_push_size _ rfl⟩
  exact tail_any (ops := [.ref l, .ref s3.heap.objs.size]) hl.isList.typeIs slot_list_getitem.lookup hg (by with_unfolding_all rfl)
end
def revF : D → M (List D)
  | .lst xs => pure xs.reverse
  | _ => stuck
theorem DenL.rev {K : PySem.W.Frag} {p : List (List Addr)} {G : Hp} : ∀ {ds : List D} {vs : List V}, DenL K p G ds vs → DenL K p G ds.reverse vs.reverse
  | [], _, h => by cases (show _ = [] from h); exact rfl
  | d :: ds, _, ⟨v, r, h1, h2, h3⟩ => by
    rw [h1, List.reverse_cons, List.reverse_cons]
    exact (DenL.rev h3).append (DenL.one h2)
section
variable {X : Cx} {W : WX} {g : DSt} {a b : Expr} {ma mb : M D} {pos p2 p3 p4 apos cpos : Pos}
theorem xf_rev {j : Nat} (ha : XE X W g a ma) : XF X W g (.Subscript a (.Slice none none (some (.UnaryOp .USub (.Constant (.int 1) j p3) p4)) p2) pos) (B ma revF) := by
  have hst : XE X W g (.UnaryOp .USub (.Constant (.int 1) j p3) p4) (B (pure (.int 1)) negD) := xe_neg xe_int
  refine PE.imp (pe_revL ha hst) fun σ H Q ⟨p, G, S, ow, r, h⟩ => ?_
  have h : okF X.K p G H (fun c d H' => W c d σ H') ((ma >>= revF) S) Q := h
  refine ⟨p, G, S, ow, r, okF.seq h fun d S1 v p1 G1 H1 e1 dn r1 x1 h1 => ⟨p1, G1, S1, ow, r.ext x1 r1, ?_⟩⟩
  show okR (Den X.K) X.K p1 G1 H1 _ (.ok (.int (-1)) S1) _
  intro u p2 G2 H2 du r2 x2
  refine ⟨du, ?_⟩
  cases d <;> try exact h1.elim
  rename_i xs
  obtain ⟨l, vs, rfl, hl, hv⟩ := dn
  have h2 := h1.ext x2
  exact ⟨l, vs, rfl, SqL.of (r2.sub _ _ (x2.g _ _ hl)), fun q hq => okF.lay (xs := xs.reverse) h2 r2 hq ((hv.mono x2.pp x2.g).rev)⟩
end
end RM

/-! RZ: {e for x in xs if ..} of ints and texts; sorted of it. -/
namespace RM
open PySem PySem.Spec PyProof.Rows L2
/-- the set at a, tracked -/
def SetWO (P : Program) (w : World) (a : Addr) (ks : List Key) : HO := .ext fun h => SetW P w h a ks
theorem setWO_ok {P : Program} {w : World} {H : Hp} {h : Heap} {a : Addr} {ks : List Key} (R : SetW P w h a ks) : ObjOk P w H h a (SetWO P w a ks) := by
  obtain ⟨o, es, ep, t, ho, r⟩ := id R
  exact ⟨R, ⟨o, ho⟩, fun h1 h2 p k => SetW.at p k⟩
theorem SetW.ty {P : Program} {w : World} {s : Shared} {a : Addr} {ks : List Key} (R : SetW P w s.heap a ks) : s.TypeIs (.ref a) "set" := by
  obtain ⟨o, es, ep, t, ho, hx, _⟩ := R
  exact ⟨o, ho, hx.1⟩
section
variable {P : Program} {w : World} {A : Around} {E : Value → Shared → Prop} {s : Shared} {a : Addr} {ks : List Key}
theorem call_addW {k : Key} {x : Value} {Q : Value → Shared → Prop} (R : SetW P w s.heap a ks) (rx : RelV (kV k) x) (room : ks.length + 1 < scanBound)
    (hQ : ∀ h', Heap.SameBut a s.heap h' → SetW P w h' a (ks ++ [k]) → Q .none { s with heap := h', toks := s.toks + 1 }) : wpAny (model P w) A (call (.builtin "set.add") [.ref a, x]) Q E s := by
  have le := once_le ks.length ks rfl
  refine wpAny_call_entry PySem.F.slot_set_add R.ty PySem.F.entry_set_add ?_ (PySem.F.args_set_add_2 _ _)
  unfold Builtin.«set.add» Builtin.Frozenset.oneOther
  simp only [List.isEmpty_nil, bind_assoc]
  unfold Builtin.Frozenset.addrOf setAdd
  refine wpAny_bind (wpAny_pure ?_)
  try dsimp only
  refine wpAny_bind (wpAny_pure ?_)
  try dsimp only
  refine wpAny_bind (wpAny_holding (wpAny_bind ((mixKind P w).pyHash (k := k) (kV_is rx) ?_)))
  refine setW_add (s := { s with toks := s.toks + 1 }) R rx (by omega) fun h' b sb r => ?_
  show wpAny _ _ (ret Value.none) _ _ _
  exact wpAny_pure ⟨_, rfl, hQ h' sb r⟩
end
section
variable {X : Cx}
theorem add_okW {pins : List (Addr × Obj)} {s : Shared} {σ : L2.St} {H : Hp} {E : Value → Shared → Prop} {D : Addr} {ks : List Key} {k : Key} {v : Value} {Q : Value → Shared → Prop} (I : Inv X pins σ H s) (hD : H D = some (SetWO X.prog X.w D ks)) (hz : ks.length + 1 < scanBound) (r : RelV (kV k) v)
    (h : ∀ s', Inv X pins σ (upd H D (SetWO X.prog X.w D (ks ++ [k]))) s' → Q .none s') : wpAny (model X.prog X.w) X.A (call (.builtin "set.add") [.ref D, v]) Q E s := by
  have R : SetW X.prog X.w s.heap D ks := (I.hok D _ hD).1
  refine call_addW R r hz fun h' sb new => h _ ?_
  have ex : ∃ u, h'.get? D = some u := by
    obtain ⟨o, _, _, _, ho, _⟩ := new
    exact ⟨o, ho⟩
  exact I.write (e := D) (t' := s.toks + 1) (by rw [hD]; trivial) (.inl rfl) (fun b u hb hu => (sb.2 b hb).trans hu) ex (setWO_ok new)
/-- the reading of a set comprehension: D the new set -/
def tScK (P : Program) (w : World) (wi : TI) (g : TG) (tt : L2.TT) (te : TE) (vs : List Nat) : TE := fun σ H Q => wi σ H fun J H1 => ∀ D, H1 D = none → ∃ Wm : Nat → Nat → Hp → Prop, (∃ m, Wm 0 m (upd H1 D (SetWO P w D []))) ∧ ∀ i m B, Wm i m B →
  (J.stop i B ∧ Q (.ref D) B) ∨ (J.go i B ∧ ∃ Nx : Hp → Prop, (∀ B', Nx B' → ∃ m', m' < m ∧ Wm (i + 1) m' B') ∧ ∀ x B', J.yld i B x B' → g x (wipe σ vs) B' fun σ2 B2 => wipe σ2 vs = wipe σ vs ∧ tt σ2 B2 fun b B3 =>
    if b = true then te σ2 B3 fun y B4 => ∃ (k : Key) (ks : List Key), y = kV k ∧ B4 D = some (SetWO P w D ks) ∧ ks.length + 1 < scanBound ∧ Nx (upd B4 D (SetWO P w D (ks ++ [k]))) else Nx B3)
abbrev BlkGx (X : Cx) (scope : Scope) (tg : Expr) (g : TG) : Prop := ∀ (s : Shared) (H : Hp) (C : Addr) (cl : List (Str × Addr)) (fp : List Addr), PG (X.blk s H scope (compEnvC scope cl C X.env) fp) tg g
abbrev BlkTx (X : Cx) (scope : Scope) (ifs : List Expr) (t : L2.TT) : Prop := ∀ (s : Shared) (H : Hp) (C : Addr) (cl : List (Str × Addr)) (fp : List Addr), PTs (X.blk s H scope (compEnvC scope cl C X.env) fp) ifs t
abbrev BlkEx (X : Cx) (scope : Scope) (e : Expr) (t : TE) : Prop := ∀ (s : Shared) (H : Hp) (C : Addr) (cl : List (Str × Addr)) (fp : List Addr), PE (X.blk s H scope (compEnvC scope cl C X.env) fp) e t
theorem pe_scK {elt tg iter : Expr} {ifs : List Expr} {scope : Scope} {own : List (Str × Nat)} {pos : Pos} {wi : TI} {g : TG} {tt : L2.TT} {te : TE} (hc : X.calm = true) (hN : X.N.Nodup) (hi : PI X tg iter wi) (ok : BlkOk X.N X.env.scope scope own)
    (hg : BlkGx X scope tg g) (ht : BlkTx X scope ifs tt) (he : BlkEx X scope elt te) (hs : ∀ x, foldedSetIterable iter X.env x = pure x := by intro _; rfl) :
    PE X (.SetComp elt [⟨tg, iter, ifs, 0⟩] scope pos) (tScK X.prog X.w wi g tt te (own.map (·.2))) := by
  refine ⟨fun pins s σ H Q I h => ?_⟩
  rw [PpSet.eval_SetComp]
  have clo : ∀ y ∈ scope.names, y.2 = .free → ∃ c, X.env.cells.lookup y.1 = some c := fun y hy e => (ok.free y hy e).elim (fun k => I.ok.has _ (.inl k)) fun k => I.ok.has _ (.inr k)
  refine wpAny_comprehension_free (use := none) rfl hs (closure_ok clo) ok.kind (fun y hy e => (ok.uniq y hy).trans (congrArg some e)) ?_
  refine thn (hi.run pins s σ H _ I h) fun xv a1 hx => thn hx fun itv a2 ⟨it, fq, tm, J, B2, e2, V2, Tn, su2, fo2, rd⟩ => ?_
  subst e2
  refine PpSet.newSet_ok (newEnv_comp ?_)
  generalize eD : a2.heap.objs.size = D
  obtain ⟨Wm, ⟨mm, wm⟩, turns⟩ := rd D (V2.hok.fresh (Nat.le_of_eq eD))
  generalize e3 : ({ a2 with heap := a2.heap.push (sobj X.w) } : Shared) = a3
  have hh3 : a3.heap = a2.heap.push (sobj X.w) := by rw [← e3]
  generalize eB : upd B2 D (SetWO X.prog X.w D []) = B3 at wm
  have V3 : Inv X pins σ B3 a3 := by
    rw [← eB, ← e3]
    refine V2.laid (t' := a2.toks) (fun b o e => Heap.get?_push_of_some _ e) (Nat.le_of_eq eD) (setWO_ok (setW_fresh ?_))
    rw [← eD]
    exact Heap.get?_push_size _ rfl
  have small : ∀ b ∈ fq, b < a2.heap.objs.size := fun b hb => (Tn.obj _ _ su2 b hb).elim fun o z => Heap.lt_size z.1
  have fo3 : ∀ b ∈ fq, FpOk X pins B3 b ∧ b < a3.heap.objs.size := fun b hb => by
    have lt := small b hb
    have ne : b ≠ D := by rw [← eD]; exact Nat.ne_of_lt lt
    refine ⟨⟨by rw [← eB, upd_ne ne]; exact (fo2 b hb).1, (fo2 b hb).2⟩, ?_⟩
    rw [hh3, Heap.size_push]
    exact Nat.lt_succ_of_lt lt
  have su3 : tm 0 a3.heap := Tn.keep _ _ _ su2 fun b _ o e => by rw [hh3]; exact Heap.get?_push_of_some _ e
  have V4 := block_start V3 ok hN fo3
  generalize ecl : cellsFrom (a3.heap.objs.size + 1) scope.names (cloFrom X.env.cells scope.names []) = cls at V4
  have pg := hg a3 B3 a3.heap.objs.size cls fq
  have pt := ht a3 B3 a3.heap.objs.size cls fq
  have pe := he a3 B3 a3.heap.objs.size cls fq
  show codeAny _ _ (.compStart (.SetComp elt [⟨tg, iter, ifs, 0⟩] scope pos) 0 (.ref it) (.ref D) (compEnvC scope cls a3.heap.objs.size X.env)) (compPost (model X.prog X.w) X.A X.xe none (EP X pins σ Q) (.ref D) a3.heap.objs.size) { a3 with heap := pushCells (a3.heap.push { cls := .type "dict", data := .dict #[] }) scope.names }
  generalize ece : compEnvC scope cls a3.heap.objs.size X.env = cen at V4 pg pt pe ⊢
  have cloc : cen.locals = a3.heap.objs.size := by subst ece; rfl
  generalize e4 : ({ a3 with heap := pushCells (a3.heap.push { cls := .type "dict", data := .dict #[] }) scope.names } : Shared) = a4 at V4 ⊢
  have su4 : tm 0 a4.heap := Tn.keep _ _ _ su3 fun b _ o e => by rw [← e4]; exact pushCells_keeps _ _ _ _ (Heap.get?_push_of_some _ e)
  have stay : ∀ {τ : L2.St} {B' : Hp} {a' : Shared}, Inv (X.blk a3 B3 scope cen fq) [] τ B' a' → (∀ b ∈ fq, B' b = none) → ∀ b ∈ fq, FpOk (X.blk a3 B3 scope cen fq) [] B' b := fun {τ B' a'} V' hn b hb =>
    ⟨hn b hb, (V'.ok.exf b hb).1, V'.ok.exfs b hb, .inl hb, fun x c e => (V'.ok.exf b hb).2 x c e, fun p hp => by simp at hp⟩
  have lp : codeAny (model X.prog X.w) X.A (.compLoop (.SetComp elt [⟨tg, iter, ifs, 0⟩] scope pos) 0 (.ref it) (.ref D) cen) (compPost (model X.prog X.w) X.A X.xe none (EP X pins σ Q) (.ref D) a3.heap.objs.size) a4 := by
    refine PpSet.compLoopS_any (fun n a' => ∃ i B', Inv (X.blk a3 B3 scope cen fq) [] (wipe σ (own.map (·.2))) B' a' ∧ tm i a'.heap ∧ (∀ b ∈ fq, B' b = none) ∧ Wm i n B') ?_ mm ⟨0, B3, V4, su4, fun b hb => (fo3 b hb).1.1, wm⟩
    rintro n a5 ⟨i, B5, V5, su5, n5, w5⟩
    rcases turns i n B5 w5 with ⟨stops, done⟩ | ⟨goes, Nx, toNx, step⟩
    · refine thnF (Tn.done (X.blk a3 B3 scope cen fq) rfl rfl rfl hc i [] a5 _ B5 (fun _ _ => False) V5 (stay V5 n5) su5 stops) fun r a6 ⟨hr, V6⟩ => ?_
      subst hr
      have V7 : Inv X pins σ B5 a6 := V3.call' (ch := fq) V6.os V6.base V6.hok V6.bare fun b hb => by
        have z := (fo3 b hb).1.2
        exact ⟨z.2.2.1, z.1, z.2.2.2.1, z.2.2.2.2⟩
      obtain ⟨m, hn, _⟩ := V6.loc
      have hn : a6.heap.Ns cen.locals m := hn
      have nC : B5 cen.locals = none := V6.free
      rw [cloc] at hn nC
      obtain ⟨f0, f1, f2, f3, f4, f5⟩ := V3.fpOk (Nat.le_refl a3.heap.objs.size) nC
      exact ⟨m, hn, fun h'' sb => ⟨.ref D, B5, V7.turned (t' := a6.toks) (fun b o hb e => (sb.2 b hb).trans e) f0 f1 f3 f4 f5, rfl, done⟩⟩
    · refine thnF (Tn.item (X.blk a3 B3 scope cen fq) rfl rfl rfl hc i [] a5 _ B5 (fun _ _ => False) V5 (stay V5 n5) su5 goes) fun r a6 ⟨u, hr, h6⟩ => ?_
      subst hr
      refine thnF h6 fun _ a7 ⟨x, B7, V7, r7, y7, su7, n7⟩ => ?_
      refine thnF (pg.run _ a7 _ B7 x u _ (V7.pinned (stay V7 n7) (Tn.obj _ _ su7)) r7 (step x B7 y7)) fun _ a8 ⟨σ8, B8, V8, hw8, q8⟩ => ?_
      refine thnF (pt.run _ a8 σ8 B8 _ V8 q8) fun b a9 ⟨B9, V9, q9⟩ => ?_
      have next : ∀ {a' : Shared} {B' : Hp}, Inv (X.blk a3 B3 scope cen fq) ([] ++ pinsAt fq a7.heap) σ8 B' a' → Nx B' → ∃ m, m < n ∧ ∃ i B', Inv (X.blk a3 B3 scope cen fq) [] (wipe σ (own.map (·.2))) B' a' ∧ tm i a'.heap ∧ (∀ b ∈ fq, B' b = none) ∧ Wm i m B' := fun {a' B'} V' nx => by
        obtain ⟨m', lt, w'⟩ := toNx B' nx
        have pinned : ∀ b ∈ fq, ∀ o, a7.heap.get? b = some o → a'.heap.get? b = some o ∧ B' b = none := fun b hb o e => by
          have z := V'.pin (b, o) (List.mem_append_right _ (List.mem_append_right _ (mem_pinsAt hb e)))
          exact ⟨z.1, z.2.1⟩
        refine ⟨m', lt, i + 1, B', (V'.unpinned (pins := [])).weak (by rw [← hw8, wipe_length]) (fun j v e => ?_), Tn.keep _ _ _ su7 fun b hb o e => (pinned b hb o e).1, fun b hb => ?_, w'⟩
        · rw [← hw8] at e
          exact (wipe_some e).1
        · obtain ⟨o, e, _⟩ := Tn.obj _ _ su7 b hb
          exact (pinned b hb o e).2
      cases b with
      | false =>
        simp only [Bool.false_eq_true, if_false] at q9 ⊢
        exact next V9 q9
      | true =>
        simp only [if_true] at q9 ⊢
        refine thnF (pe.run _ a9 σ8 B9 _ V9 q9) fun z a10 ⟨yv, B10, V10, r10, k, ks, ey, hD, hz, nx⟩ => ?_
        subst ey
        exact add_okW (X := X.blk a3 B3 scope cen fq) V10 hD hz r10 fun a11 V11 => next V11 nx
  exact PpSet.codeAny_compStart_set lp (Tn.self X.A 0 _ _ _ su4 lp)
end
/-! ### sorted({..}) -/
def scE (ks : List Key) : M (List D) := if homK ks = true then pure ((sortK ks).map kD) else stuck
def scG (mt : D → M Bool) (me : D → M D) : List D → List Key → M (List D)
  | [], acc => scE acc
  | d :: ds, acc => B (mt d) fun b => if b then B (me d) fun y => match keyD y with
      | some k => if acc.length < 3990 then scG mt me ds (acc ++ [k]) else stuck
      | none => stuck
    else scG mt me ds acc
def scS (mt : D → M Bool) (me : D → M D) (ds : List D) : M (List D) := noE (scG mt me ds [])
theorem scx_read {P : Program} {w : World} {K : PySem.W.Frag} {V : WX} {g : DSt} {ws : List Nat} {T : Tgt} {mi : M (List D)} {mt : D → M Bool} {me : D → M D} {σ : L2.St} {H : Hp} {Q : VK} (hT : ∀ i ∈ T.slots, i ∈ ws) (hN : ∀ d, T.set d (wipeD g ws) = none → mt d = stuck)
    (h : tXF K V g (B mi fun ds => scS mt me ds) σ H Q) : tScK P w (tXI K V g mi) (T.tg K) (famT K g ws T mt) (famE K g ws T me) ws σ H (fun x B => ∃ D ks, x = .ref D ∧ B D = some (SetWO P w D ks) ∧ homK ks = true ∧ ks.length ≤ 4000 ∧ ∀ q, B q = none → Q (.ref q) (upd B q (.lst ((sortK ks).map kV)))) := by
  obtain ⟨p, G, S, ow, r, h⟩ := h
  have h : okF K p G H (fun c d H' => V c d σ H') ((mi >>= fun ds => noE (scG mt me ds [])) S) Q := h
  refine ⟨p, G, S, ow, r, okF.seq h fun ds S1 J p1 G1 H1 e1 dn r1 x1 h1 => ?_⟩
  have h1 : okF K p1 G1 H1 (fun _ _ _ => False) (scG mt me ds [] S1) Q := h1.noE
  intro A hA
  have rs1 := r.ext x1 r1
  have gA : G1 A = none := r1.gfree hA
  have pA : A ∉ p1.flatten := fun z => r1.dom z hA
  refine ⟨fun i m H' => i + m = ds.length ∧ ∃ p' G' S' acc, Rel0 K p' S' G' H' ∧ Ext p1 G1 H1 p' G' H' ∧ G' A = none ∧ A ∉ p'.flatten ∧ H' A = some (SetWO P w A acc) ∧ acc.length ≤ 3990 ∧
    okF K p1 G1 H1 (fun _ _ _ => False) (scG mt me (ds.drop i) acc S') Q, ⟨ds.length, by simp, p1, G1, S1, [], r1.own _ pA gA, ⟨Same.refl _, fun _ h _ => h, fun b o e _ => by rw [upd_ne (ne_of_none e hA)]; exact e, fun b e => ?_, [], by simp, by simp⟩, gA, pA, upd_same, Nat.zero_le _, by simpa using h1⟩, ?_⟩
  · by_cases q : b = A
    · subst q; rw [upd_same]; simp
    · rw [upd_ne q]; exact e
  rintro i m H' ⟨hi', p', G', S', acc, r', x', gA', pA', hA', da, h'⟩
  have sm : Same G1 H' := x'.g.trans r'.sub
  by_cases hlt : i < ds.length
  · refine .inr ⟨dn.go i H' sm hlt, fun H2 => ∃ p' G' S' acc, Rel0 K p' S' G' H2 ∧ Ext p1 G1 H1 p' G' H2 ∧ G' A = none ∧ A ∉ p'.flatten ∧ H2 A = some (SetWO P w A acc) ∧ acc.length ≤ 3990 ∧
      okF K p1 G1 H1 (fun _ _ _ => False) (scG mt me (ds.drop (i + 1)) acc S') Q, fun H2 q => ⟨m - 1, by omega, by omega, q⟩, fun x H2 y => ?_⟩
    have ed : ds[i]? = some ds[i] := by simp [hlt]
    rw [List.drop_eq_getElem_cons hlt] at h'
    have fin : ∀ G2 H3, Rel0 K p' S' G2 H3 → Ext p' G' H' p' G2 H3 → Den K p' G2 ds[i] x → T.tg K x (wipe σ ws) H3 fun σ2 H2 => wipe σ2 ws = wipe σ ws ∧ famT K g ws T mt σ2 H2 fun b H3 => if b = true then famE K g ws T me σ2 H3 fun y H4 => ∃ k acc, y = kV k ∧ H4 A = some (SetWO P w A acc) ∧ acc.length + 1 < scanBound ∧
          (∃ p' G' S' acc', Rel0 K p' S' G' (upd H4 A (SetWO P w A (acc ++ [k]))) ∧ Ext p1 G1 H1 p' G' (upd H4 A (SetWO P w A (acc ++ [k]))) ∧ G' A = none ∧ A ∉ p'.flatten ∧ (upd H4 A (SetWO P w A (acc ++ [k]))) A = some (SetWO P w A acc') ∧ acc'.length ≤ 3990 ∧ okF K p1 G1 H1 (fun _ _ _ => False) (scG mt me (ds.drop (i + 1)) acc' S') Q)
        else (∃ p' G' S' acc, Rel0 K p' S' G' H3 ∧ Ext p1 G1 H1 p' G' H3 ∧ G' A = none ∧ A ∉ p'.flatten ∧ H3 A = some (SetWO P w A acc) ∧ acc.length ≤ 3990 ∧ okF K p1 G1 H1 (fun _ _ _ => False) (scG mt me (ds.drop (i + 1)) acc S') Q) := by
      intro G2 H3 r2 x2 dx
      have x12 := x'.trans x2
      obtain ⟨ow3, _, rw3⟩ := (rs1.ext x12 r2).wipe ws
      have h3 : okF K p1 G1 H1 (fun _ _ _ => False) ((mt ds[i] >>= fun b => if b = true then (B (me ds[i]) fun y => match keyD y with | some k => if acc.length < 3990 then scG mt me (ds.drop (i + 1)) (acc ++ [k]) else stuck | none => stuck) else scG mt me (ds.drop (i + 1)) acc) S') Q := h'
      cases eT : T.set ds[i] (wipeD g ws) with
      | none =>
        rw [hN _ eT] at h3
        exact h3.elim
      | some t2 =>
        refine Tgt.ok rw3 dx eT fun σ2 ow2 _ rs2 hw => ⟨by rw [hw _ hT, wipe_idem], ds[i], t2, eT, p', G2, S', ow2, rs2, ?_⟩
        refine okF.seq (h3.ext x12) fun b S3 bv p3 G3 H4 e3 db r3 x3 h4 => ?_
        cases db
        have gA2 : G2 A = none := x2.gn A gA' (by rw [hA']; simp)
        have hA3 : H3 A = some (SetWO P w A acc) := x2.h A _ hA' pA'
        have gA3 : G3 A = none := x3.gn A gA2 (by rw [hA3]; simp)
        have hA4 : H4 A = some (SetWO P w A acc) := x3.h A _ hA3 pA'
        have pA3 : A ∉ p3.flatten := by
          obtain ⟨q, e, f⟩ := x3.p
          rw [e, List.flatten_append, List.mem_append]
          rintro (z | z)
          · exact pA' z
          · rw [f A z] at hA3; cases hA3
        have h5 : okF K p1 G1 H1 (fun _ _ _ => False) ((mt ds[i] S').andThen _) Q := h3
        rw [e3] at h5
        cases b with
        | false => exact iteF ⟨p3, G3, S3, acc, r3, x12.trans x3, gA3, pA3, hA4, da, h5⟩
        | true =>
          have h6 : okF K p1 G1 H1 (fun _ _ _ => False) ((me ds[i] >>= _) S3) Q := h5
          refine iteT ⟨ds[i], t2, eT, p3, G3, S3, ow2, rs2.ext x3 r3, ?_⟩
          refine okF.seq (h6.ext (x12.trans x3)) fun y S4 yv p4 G4 H5 e4 dy r4 x4 h7 => ?_
          have h8 : okF K p1 G1 H1 (fun _ _ _ => False) ((me ds[i] S3).andThen _) Q := h6
          rw [e4] at h8
          cases ek : keyD y with
          | none =>
            have h9 : okF K p1 G1 H1 (fun _ _ _ => False) ((match keyD y with | some k => if acc.length < 3990 then scG mt me (ds.drop (i + 1)) (acc ++ [k]) else stuck | none => stuck) S4) Q := h8
            rw [ek] at h9
            exact h9.elim
          | some k =>
            have h9 : okF K p1 G1 H1 (fun _ _ _ => False) ((match keyD y with | some k => if acc.length < 3990 then scG mt me (ds.drop (i + 1)) (acc ++ [k]) else stuck | none => stuck) S4) Q := h8
            rw [ek] at h9
            have h9 : okF K p1 G1 H1 (fun _ _ _ => False) ((if acc.length < 3990 then scG mt me (ds.drop (i + 1)) (acc ++ [k]) else stuck) S4) Q := h9
            by_cases hz : acc.length < 3990
            · rw [if_pos hz] at h9
              have hA5 : H5 A = some (SetWO P w A acc) := x4.h A _ hA4 pA3
              have gA4 : G4 A = none := x4.gn A gA3 (by rw [hA4]; simp)
              have pA4 : A ∉ p4.flatten := by
                obtain ⟨q, e, f⟩ := x4.p
                rw [e, List.flatten_append, List.mem_append]
                rintro (z | z)
                · exact pA3 z
                · rw [f A z] at hA4; cases hA4
              have x14 := (x12.trans x3).trans x4
              have ev : yv = kV k := by
                have z := keysD_den (ds := [y]) (vs := [yv]) (ks := [k]) (DenL.one dy) (by show (match keyD y, keysD [] with | some k, some ks => some (k :: ks) | _, _ => none) = _; rw [ek]; rfl)
                exact (List.cons.inj z).1
              refine ⟨k, acc, ev, hA5, by unfold scanBound; omega, p4, G4, S4, acc ++ [k], r4.own _ pA4 gA4, ⟨x14.g, x14.gn, fun b o e hb => ?_, fun b e => ?_, x14.p⟩, gA4, pA4, upd_same, by simp; omega, h9⟩
              · rw [upd_ne (ne_of_none e hA)]
                exact x14.h b o e hb
              · by_cases q : b = A
                · subst q; rw [upd_same]; simp
                · rw [upd_ne q]; exact x14.d b e
            · rw [if_neg hz] at h9
              exact h9.elim
    rcases dn.yld i _ H' x H2 ed sm y with ⟨rfl, dx⟩ | ⟨Tn, vs, es, rfl, hTn, rfl, ees, dl⟩
    · exact fin G' _ r' (Ext.refl _ _ _) (dx.mono x'.pp x'.g)
    · refine fin _ _ (r'.new _ hTn).1 (r'.new _ hTn).2 ?_
      rw [ees]
      exact ⟨Tn, vs, rfl, SqT.of upd_same, (dl.mono x'.pp x'.g).upd (r'.gfree hTn)⟩
  · have e : i = ds.length := by omega
    subst e
    rw [List.drop_length] at h'
    refine .inl ⟨dn.stop H' sm, A, acc, rfl, hA', ?_⟩
    have h' : okF K p1 G1 H1 (fun _ _ _ => False) ((if homK acc = true then (pure ((sortK acc).map kD) : M (List D)) else stuck) S') Q := h'
    by_cases hz : homK acc = true
    · rw [if_pos hz] at h'
      exact ⟨hz, by omega, fun q hq => okF.lay (h'.ext x') r' hq (kD_den _)⟩
    · rw [if_neg hz] at h'
      exact h'.elim
section
variable {X : Cx}
/-- the reading of sorted({..}) -/
def tSortC (P : Program) (w : World) (t : TE) : TE := fun σ H Q => t σ H fun x B => ∃ D ks, x = .ref D ∧ B D = some (SetWO P w D ks) ∧ homK ks = true ∧ ks.length ≤ 4000 ∧ ∀ q, B q = none → Q (.ref q) (upd B q (.lst ((sortK ks).map kV)))
theorem pe_sortC {a : Expr} {ta : TE} {p pos : Pos} (hc : X.calm = true) (hu : X.A.units + 64 < cLine) (hg : Gl X "sorted") (hm : X.mg "sorted" = none) (ha : PE X a ta)
    (na : starEach [a] X.env = (false, eval a X.env) :: starEach [] X.env := by rfl) : PE X (.Call (.Name "sorted" p) [a] [] pos) (tSortC X.prog X.w ta) := by
  refine ⟨fun pins s σ H Q I h => ?_⟩
  refine Call_ (ld_blt I hg hm boot_sorted ?_)
  refine PyProof.Rows.callWith_builtin1 (PyProof.Rows.args_cons (thn (ha.run pins s σ H _ I h) fun v s1 ⟨x, H1, I1, r1, q1⟩ => PyProof.Rows.args_nil ?_) na) na rfl
  obtain ⟨l, ks, rfl, hD, hom, hk, q1⟩ := q1
  cases r1
  have R : SetW X.prog X.w s1.heap l ks := (I1.hok l _ hD).1
  refine sorted_setW R (I.ok.hd hc) hom (by omega) fun s' p out c k g o hp hg hv => ?_
  have hn : H1 p = none := I1.hok.fresh hp
  have hlen : ((sortK ks).map kV).length ≤ sizeLine := by
    rw [List.length_map]
    have := sortK_len (ks := ks)
    rw [sizeLine_eq]; omega
  have J : Inv X pins σ (upd H1 p (.lst ((sortK ks).map kV))) { s1 with heap := s'.heap, gens := s'.gens, drawn := s'.drawn, toks := s'.toks } := by
    refine I1.call (ch := []) (Un.laid k hp hn) (I1.hok.laid k hp ⟨hlen, out, c, hv, hg⟩) ?_ (fun _ z => nomatch z)
    show AllBare s'.gens
    rw [g]; exact I1.bare
  have e : s' = { s1 with heap := s'.heap, gens := s'.gens, drawn := s'.drawn, toks := s'.toks } := by
    cases s'
    cases s1
    cases o
    rfl
  rw [e]
  exact ⟨.ref p, _, J, rfl, q1 p hn⟩
end
section
variable {X : Cx} {V : WX} {g : DSt} {elt iter tg : Expr} {ifs : List Expr} {scope : Scope} {own : List (Str × Nat)} {T : Tgt} {mi : M (List D)} {mt : D → M Bool} {me : D → M D} {pos p q : Pos}
theorem xf_sortC (hc : X.calm = true) (hu : X.A.units + 64 < cLine) (hgl : Gl X "sorted") (hm : X.mg "sorted" = none) (hN : X.N.Nodup) (hi : XI X V g tg iter mi) (ok : BlkOk X.N X.env.scope scope own) (hg : BlkG X scope T tg) (hn : ∀ d, T.set d (wipeD g (own.map (·.2))) = none → mt d = stuck) (ht : BlkT X g scope (own.map (·.2)) T ifs mt) (he : BlkE X g scope (own.map (·.2)) T elt me)
    (hT : ∀ i ∈ T.slots, i ∈ own.map (·.2)) (hs : ∀ x, foldedSetIterable iter X.env x = pure x := by intro _; rfl) : XF X V g (.Call (.Name "sorted" p) [.SetComp elt [⟨tg, iter, ifs, 0⟩] scope pos] [] q) (B mi fun ds => scS mt me ds) :=
  PE.imp (pe_sortC hc hu hgl hm (pe_scK hc hN hi ok hg (fun s H C cl fp => ⟨fun pins s' σ H' Q I ⟨d, t, e, q⟩ => (ht s H C cl fp d t e).run pins s' σ H' Q I q⟩) (fun s H C cl fp => ⟨fun pins s' σ H' Q I ⟨d, t, e, q⟩ => (he s H C cl fp d t e).run pins s' σ H' Q I q⟩) hs) (by rfl)) fun σ H Q h => scx_read hT hn h
end
end RM

/-! RZ: zip of two lists or two tuples. -/
namespace RM
open PySem PySem.Spec PyProof.Rows L2
def zipL : List D → List D → List D
  | x :: xs, y :: ys => .tup [x, y] :: zipL xs ys
  | _, _ => []
def zipD : D → D → M (List D)
  | .lst xs, .lst ys => pure (zipL xs ys)
  | .tup xs, .tup ys => pure (zipL xs ys)
  | _, _ => stuck
def zipA : List D → M (List D)
  | [x, y] => zipD x y
  | _ => stuck
theorem zipL_len : ∀ (xs ys : List D), (zipL xs ys).length = min xs.length ys.length
  | [], _ => by simp [zipL]
  | _ :: _, [] => by simp [zipL]
  | _ :: xs, _ :: ys => by
    show (zipL xs ys).length + 1 = _
    rw [zipL_len xs ys]
    simp only [List.length_cons]
    omega
theorem zipL_get : ∀ (xs ys : List D) (i : Nat) (d : D), (zipL xs ys)[i]? = some d → ∃ x y, xs[i]? = some x ∧ ys[i]? = some y ∧ d = .tup [x, y]
  | [], _, _, _, h => by simp [zipL] at h
  | _ :: _, [], _, _, h => by simp [zipL] at h
  | x :: _, y :: _, 0, d, h => ⟨x, y, rfl, rfl, (Option.some.inj h).symm⟩
  | _ :: xs, _ :: ys, i + 1, d, h => zipL_get xs ys i d h
section
variable {K : PySem.W.Frag} {p : List (List Addr)} {G : Hp}
theorem itok_zip {a b : Addr} {ds es : List D} {vs us : List V} (h : SqL K G a vs) (h2 : SqL K G b us) (dn : DenL K p G ds vs) (dn2 : DenL K p G es us) : ItOk K p G (zipL ds es) (Itz K a b) where
  go := fun i H s hi => by
    rw [zipL_len] at hi
    have hl := dn.length
    have hl2 := dn2.length
    exact ⟨vs, us, vs[i]'(by omega), us[i]'(by omega), s.seq h, s.seq h2, by simp, by simp⟩
  stop := fun H s => ⟨vs, us, s.seq h, s.seq h2, by rw [zipL_len, dn.length, dn2.length]; omega⟩
  yld := fun i d H x H' e s y => by
    obtain ⟨T, x', y', rfl, hT, rfl, y1, y2⟩ := y
    obtain ⟨d1, d2, g1, g2, rfl⟩ := zipL_get _ _ _ _ e
    obtain ⟨v, e1, e2⟩ := dn.get g1
    obtain ⟨v', e1', e2'⟩ := dn2.get g2
    have := y1 vs (s.seq h)
    rw [e1] at this
    cases this
    have := y2 us (s.seq h2)
    rw [e1'] at this
    cases this
    exact .inr ⟨T, _, _, rfl, hT, rfl, rfl, DenL.cons e2 (DenL.one e2')⟩
theorem itok_zipT {a b : Addr} {ds es : List D} {vs us : List V} (h : SqT K G a vs) (h2 : SqT K G b us) (dn : DenL K p G ds vs) (dn2 : DenL K p G es us) : ItOk K p G (zipL ds es) (RZ.ItzT K a b) where
  go := fun i H s hi => by
    rw [zipL_len] at hi
    have hl := dn.length
    have hl2 := dn2.length
    exact ⟨vs, us, vs[i]'(by omega), us[i]'(by omega), SqT.mono s h, SqT.mono s h2, by simp, by simp⟩
  stop := fun H s => ⟨vs, us, SqT.mono s h, SqT.mono s h2, by rw [zipL_len, dn.length, dn2.length]; omega⟩
  yld := fun i d H x H' e s y => by
    obtain ⟨T, x', y', rfl, hT, rfl, y1, y2⟩ := y
    obtain ⟨d1, d2, g1, g2, rfl⟩ := zipL_get _ _ _ _ e
    obtain ⟨v, e1, e2⟩ := dn.get g1
    obtain ⟨v', e1', e2'⟩ := dn2.get g2
    have := y1 vs (SqT.mono s h)
    rw [e1] at this
    cases this
    have := y2 us (SqT.mono s h2)
    rw [e1'] at this
    cases this
    exact .inr ⟨T, _, _, rfl, hT, rfl, rfl, DenL.cons e2 (DenL.one e2')⟩
end
section
variable {X : Cx} {W : WX} {g : DSt} {a b : Expr} {ma mb : M D} {p pos tpos : Pos} {elts : List Expr} {kk : Nat}
theorem xi_zip (hg : Gl X "zip") (hm : X.mg "zip" = none) (ha : XE X W g a ma) (hb : XE X W g b mb) (hs : starEach [a, b] X.env = (false, eval a X.env) :: starEach [b] X.env := by rfl) (hs2 : starEach [b] X.env = (false, eval b X.env) :: starEach [] X.env := by rfl) (hpl : (backTo pos (starEach [b] X.env)).any (·.1) = false := by rfl) :
    XI X W g (.Tuple elts kk tpos) (.Call (.Name "zip" p) [a, b] [] pos) (B ma fun x => B mb fun y => zipD x y) := by
  have hA : XA X W g [a, b] [ma, mb] := xa_cons ha (xa_cons hb xa_nil hs2) hs
  refine PI.imp (RZ.pi_zipA hg hm hA hs hpl) fun σ H R ⟨p, G, S, ow, r, h⟩ => ?_
  have e : (B ma fun x => B mb fun y => zipD x y) = (runA [ma, mb] >>= zipA) := by
    funext S
    show (ma S).andThen _ = _
    cases e1 : ma S with
    | stuck => show Res.stuck = ((runA [ma, mb]) S).andThen zipA; show _ = Res.andThen ((ma S).andThen _) zipA; rw [e1]; rfl
    | exc z S1 => show Res.exc z S1 = ((runA [ma, mb]) S).andThen zipA; show _ = Res.andThen ((ma S).andThen _) zipA; rw [e1]; rfl
    | ok d S1 =>
      show (mb S1).andThen _ = Res.andThen ((ma S).andThen _) zipA
      rw [e1]
      show (mb S1).andThen _ = Res.andThen (Res.andThen ((mb S1).andThen _) _) zipA
      cases mb S1 <;> rfl
  rw [e] at h
  refine ⟨p, G, S, ow, r, okR.seq h fun ds S1 vs p1 G1 H1 e1 dn r1 x1 h1 => ?_⟩
  match ds, dn, h1 with
  | [], _, h1 => exact h1.elim
  | [_], _, h1 => exact h1.elim
  | _ :: _ :: _ :: _, _, h1 => exact h1.elim
  | [d1, d2], dn, h1 =>
    obtain ⟨v, u, rfl, f1, f2⟩ := denL2 dn
    cases d1 <;> cases d2 <;> try exact h1.elim
    · obtain ⟨l, vs, rfl, hl, hv⟩ := f1
      obtain ⟨l2, us, rfl, hl2, hv2⟩ := f2
      exact ⟨l, l2, vs, us, rfl, .inr ⟨SqT.mono r1.sub hl, SqT.mono r1.sub hl2, okR.fin (v := RZ.ItzT X.K l l2) h1 (itok_zipT hl hl2 hv hv2) r1⟩⟩
    · obtain ⟨l, vs, rfl, hl, hv⟩ := f1
      obtain ⟨l2, us, rfl, hl2, hv2⟩ := f2
      exact ⟨l, l2, vs, us, rfl, .inl ⟨SqL.of (r1.sub _ _ hl), SqL.of (r1.sub _ _ hl2), okR.fin (v := Itz X.K l l2) h1 (itok_zip (SqL.of hl) (SqL.of hl2) hv hv2) r1⟩⟩
end
end RM

/-! RZ: own subscripts. -/
namespace RM
open PySem PySem.Spec PyProof.Rows L2
def ixX (T : MT) (d e : D) : M D := match d with
  | .ins c ns fs => match T.lookup c with
    | some h => noE (h (.ins c ns fs) e)
    | none => stuck
  | _ => idxD d e
def AllG (K : PySem.W.Frag) (m : Str) : MT → Prop
  | [] => True
  | q :: r => PySem.W.fnIn K (He.ma K (He.ga K q.1) m) = true ∧ AllG K m r
theorem AllG.get {K : PySem.W.Frag} {m c : Str} {h : D → D → M D} : ∀ {T : MT}, AllG K m T → T.lookup c = some h → PySem.W.fnIn K (He.ma K (He.ga K c) m) = true
  | [], _, e => by cases e
  | q :: r, ⟨a, b⟩, e => by
    obtain ⟨c', h'⟩ := q
    rw [List.lookup_cons] at e
    cases z : c == c' with
    | true =>
      rw [beq_iff_eq.mp z]
      exact a
    | false =>
      rw [z] at e
      exact AllG.get b e
theorem ma_of {K : PySem.W.Frag} {C f : Addr} {m : Str} (h : PySem.W.findIn K (.ref C) m = some (some (.ref f))) : He.ma K C m = f := by
  unfold He.ma
  rw [h]
  try rfl
section
variable {X : Cx} {V : Wf} {k : Nat} {T : MT} {g : DSt} {a b : Expr} {ma mb : M D} {pos : Pos}
theorem xe_ixX (hT : AllM X k "__getitem__" T) (hF : AllG X.K "__getitem__" T) (hr : Room (k + 1) X.A) (hG : X.A.guards = some []) (ha : XE X V.x g a ma) (hb : XE X V.x g b mb) (hs : PlainIx b)
    (hsl : ∀ o i, subscripted b true o i = runValue (.builtin "lifetime.subscript" ⟨[o, i], []⟩) := by intro o i; with_unfolding_all rfl) : XE X V.x g (.Subscript a b pos) (B ma fun x => B mb fun y => ixX T x y) := by
  refine ⟨fun pins s σ H Q I h => ?_⟩
  refine Subscript_ (binT ha hb I (tOpD h) fun v u s2 x y H2 I2 rx ry q => ?_)
  obtain ⟨d, e, p, G, S, hd, he, r, h⟩ := q
  cases d
  case ins c ns fs =>
    unfold ixX at h
    dsimp only at h
    cases hl : T.lookup c with
    | none => rw [hl] at h; exact h.elim
    | some m =>
      rw [hl] at h
      have h := okR.noE (W' := fun _ _ _ => False) h
      obtain ⟨f, fd, ps, M, hps, hb'⟩ := hT.get hl
      have fi := hF.get hl
      rw [ma_of M.me.at_] at fi
      obtain ⟨x0, dx, ws, rfl, hx, hn⟩ := id hd
      obtain rfl : v = Value.ref x0 := rx
      obtain ⟨od, J⟩ := inst_at I2 (r.sub _ _ hx)
      obtain ⟨mm, F⟩ := I2.fr
      have q1 : spD X.K ps.length (l2 m) [.ref x0, y] H2 Q fun _ _ _ => False := ⟨[.ins c ns fs, e], p, G, S, hps.symm, DenL.cons hd (DenL.one he), r, h⟩
      have bd := hb' s2 [.ref x0, u] I2.kIn (by rw [List.append_nil]; exact hps.symm)
      rw [List.append_nil] at bd
      refine PySem.W.sub_K F I2.mod.kin J M.me.at_ fi M.me.fn (wpAny_call (codeAny_mono (M.fn.go X.A.in1 X.stack s2 H2 ⟨[.ref x0, u], []⟩ [.ref x0, u] [.ref x0, y] _ (fun _ _ _ => False) hG hr.in1 I2.env0.in1 bd (.cons rfl (.cons ry .nil)) q1) fun rr s' hz => ?_)) (hsl _ _)
      cases rr with
      | error er =>
        obtain ⟨_, _, _, _, _, _, _, _, _, _, _, _, z⟩ := hz
        exact z.elim
      | ok fl =>
        cases fl with
        | ret u =>
          obtain ⟨v, H', I3, rv, q3⟩ := I2.after hz
          exact ⟨v, H', I3, rv, q3⟩
        | next => exact False.elim hz
        | brk => exact False.elim hz
        | cont => exact False.elim hz
  all_goals exact ix_seq a b pins s2 σ H2 x y v u Q I2 rx ry (by_idx _ e x y p G H2 S V Q hd he r h) (hs _ _)
end
end RM

/-! RE: an exception that is caught and kept. -/
namespace RM
open PySem PySem.Spec PyProof.Rows L2
section
variable {X : Cx} {pins : List (Addr × Obj)} {σ : L2.St} {H : Hp} {s : Shared}
theorem xcO_ok {P : Program} {w : World} {h : Heap} {a : Addr} {cls : Value} {d : Option Addr} {oe : Obj} {vs : Array Value} (e : h.get? a = some oe) (z : Zc cls d oe) (dd : oe.data = .fields vs) : ObjOk P w H h a (XcO cls d a) :=
  ⟨⟨oe, vs, e, z, dd⟩, ⟨oe, e⟩, fun _ _ ⟨o, v, q, r⟩ k => ⟨o, v, k o q, r⟩⟩
/-- an object that is ours is tracked from now on -/
theorem _root_.L2.Inv.track {a : Addr} {cls : Value} {d : Option Addr} {oe : Obj} {vs : Array Value} (I : Inv X pins σ H s) (he : s.heap.get? a = some oe) (hz : Zc cls d oe) (hd : oe.data = .fields vs) (na : H a = none) (nL : a ≠ X.env.locals)
    (np : ∀ p ∈ X.pn ++ pins, p.1 ≠ a) (n0 : X.s_0.heap.get? a = none) : Inv X pins σ (upd H a (XcO cls d a)) s := by
  have far : ∀ b u, H b = some u → upd H a (XcO cls d a) b = some u := fun b u q => by rw [upd_ne (ne_of_none q na)]; exact q
  refine ⟨I.ok, I.os, I.bare, ⟨I.base.keep, I.base.slot, fun b u q n hx => ?_, I.base.there, fun b xs q => far _ _ (I.base.tups b xs q), fun b u v q => far _ _ (I.base.frzs b u v q), fun b ps q => ?_⟩, I.loc, I.cell, ?_, fun x c e => ?_, fun p hp => ?_, HOk.laidN I.hok (fun _ _ q => q) na (xcO_ok he hz hd), I.len⟩
  · rw [upd_ne (fun z => by rw [z, n0] at q; cases q)]
    exact I.base.free b u q n hx
  · obtain ⟨more, q2⟩ := I.base.tbls b ps q
    exact ⟨more, far _ _ q2⟩
  · rw [upd_ne nL.symm]; exact I.free
  · have : c ≠ a := fun z => by
      obtain ⟨v, o, ho, hc⟩ := I.cell x c e
      rw [z, he] at ho
      cases ho
      rw [hd] at hc
      cases hc
    rw [upd_ne this]; exact I.freeC x c e
  · obtain ⟨p1, p2, p3⟩ := I.pin p hp
    exact ⟨p1, by rw [upd_ne (np p hp)]; exact p2, p3⟩
end
/-- what 'except x as n' wishes; the exception is kept -/
def wKeep (K : PySem.W.Frag) (c : Value) (i : Nat) (ts : Addr → Value → Option Addr → TS) (D : Ends) : WX := fun cls d σ H =>
  PySem.W.exmOne K cls c = some true ∧ ∀ a, H a = none → ts a cls d { nx := fun σ' H' => H' a = none ∧ D.nx (σ'.set i none) (upd H' a (XcO cls d a)), rt := fun _ _ => False, bk := fun _ _ => False, ct := fun _ _ => False } (σ.set i (some (.ref a))) H
section
variable {X : Cx} {x n : Str} {c : Value} {i : Nat} {body suite : List Stmt} {b₀ : Stmt} {np pos pos' : Pos} {tb : WX → TS} {ts : Addr → Value → Option Addr → TS}
theorem ps_try_keep (hs : X.stack = X.env :: X.outer) (hf : X.env.frame = some X.env.locals) (hx : X.ex = []) (hN : X.N.Nodup) (hi : X.N[i]? = some n) (hln : X.env.kindOf n = some .local) (hc : Names X x c)
    (hb : ∀ (W : WX) (pn : List (Addr × Obj)) (xe : Value → Shared → Prop), Takes (X.tr pn xe) W → PassesOwn (model X.prog X.w) X.A X.env xe → PSs (X.tr pn xe) body (tb W))
    (hsu : ∀ (a : Addr) (oe : Obj) (cls : Value) (d : Option Addr) (pn : List (Addr × Obj)), Zc cls d oe → (∃ vs, oe.data = .fields vs) → PSs (X.suite a ((a, oe) :: pn)) (b₀ :: suite) (ts a cls d)) :
    PS X (.Try body [.ExceptHandler (some (.Name x np)) (some n) (b₀ :: suite) pos'] [] [] pos) (fun D σ H => tb (wKeep X.K c i ts D) D σ H) := by
  refine ⟨fun pins s σ H D I h => ?_⟩
  have ok := I.ok
  have hfr : X.A.frames = some (X.env :: X.outer) := by rw [ok.frames, hs]
  refine wpAny_Try_except ?_
  have fly : Takes (X.tr (X.pn ++ pins) fun e s₁ => wpAny (model X.prog X.w) X.A (noteFrame e X.env) (fun _ s₂ => wpAny (model X.prog X.w) X.A (setFlight e none) (fun _ s₃ =>
      wpAny (model X.prog X.w) X.A (handleBy e X.env [.ExceptHandler (some (.Name x np)) (some n) (b₀ :: suite) pos']) (SP X pins D) X.xe s₃) X.xe s₂) X.xe s₁) (wKeep X.K c i ts D) := by
    rintro u s' ⟨a, B, sI, pins', σ', H', cls, d, rfl, J', nb, up, sky, na, os, ag, hb1, hyes⟩
    have J : Inv X pins σ' H' sI := J'.ofTry ok
    have sky' : Sky B (X.env :: X.outer) a (Zc cls d) X.env.locals s'.heap := by rw [← hs]; exact sky
    refine Sky.land Zc.steady hfr hf sky' fun h3 fl3 up3 => ?_
    have J3 : Inv X pins σ' H' { s' with heap := h3 } := J.landed nb fl3.1 (up.trans up3) os ag
    obtain ⟨oe3, vs3, he3, hz3, hd3⟩ := fl3.there
    have nfr : a ∉ frs (X.env :: X.outer) := fun hm => by
      obtain ⟨_, o', e', hnf⟩ := fl3.2.2.1.mem hm
      rw [he3] at e'
      cases e'
      exact hnf _ hd3
    have nL : a ≠ X.env.locals := fun z => nfr (List.mem_filterMap.mpr ⟨X.env, List.mem_cons_self, by rw [hf, z]⟩)
    have nF : a ∉ X.fs := fun hm => by
      obtain ⟨e, he, q⟩ := List.mem_filterMap.mp hm
      exact nfr (List.mem_filterMap.mpr ⟨e, List.mem_cons_of_mem _ he, q⟩)
    -- the exception is new
    have nI : sI.heap.get? a = none := by
      cases q : sI.heap.get? a with
      | none => rfl
      | some o =>
        have := nb a o q (by rw [show (X.tr (X.pn ++ pins) _).stack = X.stack from rfl, hs]; exact nfr)
        rw [fl3.2.1] at this
        cases this
    have n0 : X.s_0.heap.get? a = none := by
      cases q : X.s_0.heap.get? a with
      | none => rfl
      | some o =>
        obtain ⟨o', e'⟩ := J.base.there a o q (by rw [hx]; simp)
        rw [nI] at e'
        cases e'
    have nP : ∀ p ∈ X.pn ++ pins, p.1 ≠ a := fun p hp z => by
      have := (J.pin p hp).1
      rw [z, nI] at this
      cases this
    have S3 := J3.suite he3 hd3 na nL nF
    refine wpAny_handleBy_cons (codeAny_handlers_test ?_) (by intro q; cases q)
    have LT : PySem.W.Looks (model X.prog X.w) h3 (typeOf (.ref a)) cls := fun A Q E s k q => wpAny_typeOf_ref (k _ _ he3) (by rw [hz3.1]; exact q)
    have LM := PySem.W.exm_one (M := model X.prog X.w) (J3.kIn) LT hb1
    have test : ∀ {Q : Value → Shared → Prop} {E : Value → Shared → Prop}, Q c { s' with heap := h3 } → wpAny (model X.prog X.w) (X.A.mark (some (.ref a))) (eval (.Name x np) X.env) Q E { s' with heap := h3 } := fun {Q E} q => by
      obtain ⟨hg, hdbg, hm | ⟨hm, hv, hnn⟩⟩ := hc
      · exact ld_glob (X := X.suite a ((a, oe3) :: (X.pn ++ pins))) S3 hg hm q hdbg
      · exact ld_blt (X := X.suite a ((a, oe3) :: (X.pn ++ pins))) S3 hg hm hv q hnn hdbg
    refine test (LM.here ?_)
    refine codeAny_handlers_suite_as ?_
    refine HandSPX.lands_againZ fl3 fun h4 fl4 up4 => ?_
    have J4 : Inv X pins σ' H' { s' with heap := h4 } := J.landed nb fl4.1 ((up.trans up3).trans up4) os ag
    obtain ⟨oe4, vs4, he4, hz4, hd4⟩ := fl4.there
    have S4 := J4.suite he4 hd4 na nL nF
    refine store_ok (X := X.suite a ((a, oe4) :: (X.pn ++ pins))) (v := .ref a) S4 hN hi (.inl hln) rfl (fun s5 S5 => ?_) (.inr hln)
    refine wpAny_mono ((hsu a oe4 cls d (X.pn ++ pins) hz4 ⟨_, hd4⟩).run [] s5 _ H' _ S5 (hyes a na)) (fun f s6 hsp => ?_) (fun _ _ z => False.elim z)
    cases f with
    | next =>
      obtain ⟨σ6, H6, S6, q5, q6⟩ := hsp
      have pa := S6.pin (a, oe4) (by simp)
      have T6 : Inv X pins σ6 (upd H6 a (XcO cls d a)) s6 := (S6.unsuite ok).track pa.1 hz4 hd4 q5 nL nP n0
      exact gone_ok T6 hN hi hln fun s7 J7 => ⟨_, _, J7, q6⟩
    | brk =>
      obtain ⟨σ6, H6, S6, q6⟩ := hsp
      exact q6.elim
    | cont =>
      obtain ⟨σ6, H6, S6, q6⟩ := hsp
      exact q6.elim
    | ret u =>
      obtain ⟨v6, σ6, H6, S6, r6, q6⟩ := hsp
      exact q6.elim
  refine wpAny_mono ((hb _ (X.pn ++ pins) _ fly PassesOwn.looking).run [] s σ H D (I.toTry _) h) (fun f s1 hsp => ?_) (fun e s1 he => he)
  cases f with
  | next =>
    obtain ⟨σ', H', J', q⟩ := hsp
    exact wpAny_execs_nil ⟨σ', H', J'.ofTry ok, q⟩
  | brk =>
    obtain ⟨σ', H', J', q⟩ := hsp
    exact ⟨σ', H', J'.ofTry ok, q⟩
  | cont =>
    obtain ⟨σ', H', J', q⟩ := hsp
    exact ⟨σ', H', J'.ofTry ok, q⟩
  | ret u =>
    obtain ⟨v, σ', H', J', r, q⟩ := hsp
    exact ⟨v, σ', H', J'.ofTry ok, r, q⟩
end
end RM

/-! RE: a lambda without parameters, made and called. -/
namespace RM
open PySem PySem.Spec PyProof.Rows L2
/-- the table as it may be behind the making -/
structure TabAt (H : Hp) (P : Addr) (q : Str) (ps : Array Value) : Prop where
  at_ : H P = some (.tbl ps)
  ok : TriplesOk ps.toList
  cd : ∀ (pos : Pos) (cv : Value), codeAmong pos ps.toList = some cv → ∃ c, cv = .ref c ∧ H c = some (LamX.CodeO c q)
section
variable {X : Cx} {pins : List (Addr × Obj)} {σ : L2.St} {H : Hp} {s : Shared}
theorem lam_make3 {c P : Addr} {ps : Array Value} {params : Arguments} {body : Expr} {scope : Scope} {pos : Pos} {E : Value → Shared → Prop} {Q : Value → Shared → Prop} (I : Inv X pins σ H s) (TB : LamX.TabB X.base X.mg c P) (hcode : X.env.code = .ref c)
    (hT : TabAt H P (X.env.qual ++ "<lambda>") ps) (hdef : defaultsOf params X.env = ([], [])) (hfree : ∀ y ∈ scope.names, y.2 = .free → ∃ c, X.env.cells.lookup y.1 = some c)
    (h : ∀ (f c' : Addr) (pm ctv : Value) (H1 : Hp) (ps' : Array Value) (s' : Shared), Inv X pins σ H1 s' → TabAt H1 P (X.env.qual ++ "<lambda>") ps' → ((H1 = H ∧ ps' = ps ∧ codeAmong pos ps.toList = some (.ref c')) ∨ (H c' = none ∧ ps' = ps ++ #[rawInt pos.line, rawInt pos.col, .ref c'] ∧ H1 = upd (upd H P (.tbl ps')) c' (LamX.CodeO c' (X.env.qual ++ "<lambda>")))) →
      s'.heap.get? f = some (PySem.W.kla_obj "<lambda>" (X.env.qual ++ "<lambda>") params body scope (cloFrom X.env.cells scope.names []) pm c' ctv) → H1 f = none → f ∉ frs X.stack → H1 c' = some (LamX.CodeO c' (X.env.qual ++ "<lambda>")) → Q (.ref f) s') :
    wpAny (model X.prog X.w) X.A (eval (.Lambda params body scope pos) X.env) Q E s := by
  refine PySem.W.kla_eval hdef ?_
  have bP : s.heap.BuiltinsAt X.mg P := TB.bm.keeps I.bk
  have hP' : s.heap.get? P = some { cls := .none, data := .fields ps } := I.hok P _ hT.at_
  have nofr : ∀ f, s.heap.objs.size ≤ f → f ∉ frs X.stack := fun f hf z => by
    rcases List.mem_cons.mp (I.stkSub _ z) with e | e
    · have h1 := I.lt
      rw [← e] at h1
      exact Nat.lt_irrefl _ (Nat.lt_of_lt_of_le h1 hf)
    · exact I.nofs hf e
  cases hc : codeAmong pos ps.toList with
  | none =>
    refine PySem.W.kla_makeFunction (mg := X.mg) (c := c) (P := P) (ps := ps) (closure_ok hfree) I.ok.glob (I.mod.glob.keeps I.bk) hcode (TB.code.keeps I.bk) hP' hT.ok hc TB.gP bP fun c' ctv h' tk hx hge hlt hrec htb => ?_
    obtain ⟨c2, oc, vs, t, e2, hoc, hd, hv⟩ := hrec
    cases e2
    have nC : H c' = none := I.hok.fresh hge
    have nPc : P ≠ c' := ne_of_none hT.at_ nC
    have hsz : s.heap.objs.size ≤ h'.objs.size := by omega
    have I1 := LamX.inv_table (t' := tk) (more := #[rawInt pos.line, rawInt pos.col, .ref c']) (h' := h'.push (PySem.W.kla_obj "<lambda>" (X.env.qual ++ "<lambda>") params body scope (cloFrom X.env.cells scope.names []) ((X.mg "__name__").getD .none) c' ctv)) I hT.at_
      (fun b o hb e => Heap.get?_push_of_some _ (hx b o hb e)) (Heap.get?_push_of_some _ htb) hge ⟨oc, vs, t, Heap.get?_push_of_some _ hoc, hd, hv⟩
    have eL : (ps ++ #[rawInt pos.line, rawInt pos.col, .ref c']).toList = ps.toList ++ [rawInt pos.line, rawInt pos.col, .ref c'] := by simp
    have nCode : ∀ c0, H c0 = some (LamX.CodeO c0 (X.env.qual ++ "<lambda>")) → c0 ≠ P := fun c0 e z => by
      rw [z, hT.at_] at e
      exact LamX.codeO_ne ps (Option.some.inj e).symm
    refine h h'.objs.size c' ((X.mg "__name__").getD .none) ctv _ (ps ++ #[rawInt pos.line, rawInt pos.col, .ref c']) _ I1 ⟨by rw [upd_ne nPc, upd_same], by rw [eL]; exact PySem.TriplesOk_snoc _ _ _ _ hT.ok, fun p' cv hcv => ?_⟩ (.inr ⟨nC, rfl, rfl⟩) (Heap.get?_push_size _ rfl) ?_ (nofr _ hsz) upd_same
    · rw [eL] at hcv
      rcases LamX.among_app _ hT.ok hcv with z | z
      · obtain ⟨c0, e1, e2⟩ := hT.cd p' cv z
        exact ⟨c0, e1, by rw [upd_ne (ne_of_none e2 nC), upd_ne (nCode c0 e2)]; exact e2⟩
      · exact ⟨c', z, upd_same⟩
    · have n2 : h'.objs.size ≠ P := Nat.ne_of_gt (Nat.lt_of_lt_of_le (Heap.lt_size hP') hsz)
      rw [upd_ne (Nat.ne_of_gt hlt), upd_ne n2]
      exact I.hok.fresh hsz
  | some cv =>
    obtain ⟨c', e, hco⟩ := hT.cd pos cv hc
    subst e
    refine PySem.W.kla_makeFunctionHit (mg := X.mg) (c := c) (P := P) (ps := ps) (closure_ok hfree) I.ok.glob (I.mod.glob.keeps I.bk) hcode (TB.code.keeps I.bk) hP' hT.ok hc bP fun ctv h' tk hx hsz => ?_
    have I1 : Inv X pins σ H { s with heap := h'.push (PySem.W.kla_obj "<lambda>" (X.env.qual ++ "<lambda>") params body scope (cloFrom X.env.cells scope.names []) ((X.mg "__name__").getD .none) c' ctv), toks := tk } := I.kept fun b o e => Heap.get?_push_of_some _ (hx b o e)
    exact h h'.objs.size c' ((X.mg "__name__").getD .none) ctv H ps _ I1 hT (.inl ⟨rfl, rfl, hc⟩) (Heap.get?_push_size _ rfl) (I.hok.fresh hsz) (nofr _ hsz) hco
end
section
variable {X : Cx} {pins : List (Addr × Obj)} {σ : L2.St} {H : Hp} {s : Shared}
/-- x(), in the def that got the lambda, where no guard stands around -/
theorem act_G {CXg : CXT} {Eg : XK} {Ng : List Str} {qg : Str} {sg : Scope} {g f c' : Addr} {cdg pm ctv : Value} {params : Arguments} {body : Expr} {scope : Scope} {k i : Nat} {a : Str} {pn : List (Addr × Obj)} {xe : Value → Shared → Prop} {W : WX} {tb : XK → TE} {p1 p2 : Pos}
    (I : Inv X pins σ H s) (L : LamX.LamS X.env.scope scope) (hf : s.heap.get? f = some (PySem.W.kla_obj "<lambda>" (X.env.qual ++ "<lambda>") params body scope (cloFrom X.env.cells scope.names []) pm c' ctv)) (hfn : H f = none) (hfr : f ∉ frs X.stack)
    (hbind : bindArgs (PySem.W.kla_fn "<lambda>" (X.env.qual ++ "<lambda>") params body scope (cloFrom X.env.cells scope.names []) pm (.ref c') ctv) ⟨[], []⟩ = pure [])
    (tk : Takes ((cxOf CXg X.prog X.w X.K X.mg X.base Ng qg sg g cdg X.A X.stack s H Eg).tr pn xe) W) (hr : Room (k + 1) (X.A.deeper (envOfC qg sg s.heap.objs.size g cdg))) (hG : X.A.guards = some [])
    (hbody : ∀ (A : Around) (outer : List Env) (s : Shared) (H : Hp) (E : XK), (A.deeper (LamX.lamEnv X scope s.heap.objs.size f c')).guards = some [] → Room k (A.deeper (LamX.lamEnv X scope s.heap.objs.size f c')) → PE (LamX.lamCx X A outer s H E scope f c') body (tb E))
    (hN : Ng[i]? = some a) (hv : Vis sg a) (hd : (a == ("__debug__" : Str)) = false := by decide) (hcd : (a == ("__classdict__" : Str)) = false := by decide) :
    PE ((cxOf CXg X.prog X.w X.K X.mg X.base Ng qg sg g cdg X.A X.stack s H Eg).tr pn xe) (.Call (.Name a p1) [] [] p2)
      (fun σZ HZ Q => σZ[i]? = some (some (.ref f)) ∧ HZ c' = some (LamX.CodeO c' (X.env.qual ++ "<lambda>")) ∧ ∃ E : XK, (∀ cls d H', E cls d H' → W cls d σZ H') ∧ tb E σ HZ Q) := by
  refine ⟨fun pinsZ sZ σZ HZ Q IZ ⟨hs, hc, E, hW, ht⟩ => ?_⟩
  refine wpAny_Call_Name_kw (thn ((pe_var (pos := p1) (i := i) hN hv hd hcd).run pinsZ sZ σZ HZ (fun v H1 => v = .ref f ∧ H1 = HZ) IZ ⟨.ref f, hs, rfl, rfl⟩) fun u s1 ⟨v, H1, I1, r1, ev, eH⟩ => ?_)
  subst ev
  rw [eH] at I1
  obtain rfl : u = Value.ref f := r1
  have of1 : s1.heap.get? f = some (PySem.W.kla_obj "<lambda>" (X.env.qual ++ "<lambda>") params body scope (cloFrom X.env.cells scope.names []) pm c' ctv) := I1.base.keep f _ hf hfn hfr (fun z => nomatch (show f ∈ ([] : List Addr) from z))
  refine PySem.W.callWith_F0 ⟨_, _, _, _, of1⟩ ?_
  have un : Un (frs X.stack) [] H HZ s.heap s1.heap := I1.base
  obtain ⟨⟨oc, vs, t, hoc, hdc, hvc⟩, _, _⟩ := I1.hok c' _ hc
  have rc : codeAny (model X.prog X.w) (X.A.deeper (envOfC qg sg s.heap.objs.size g cdg)) (.call (.ref f) ⟨[], []⟩) (CR (L2.CX X.prog X.w) (envOfC qg sg s.heap.objs.size g cdg :: X.stack) X.prog X.w HZ s1 Q E) s1 := by
    refine PySem.W.kla_callFunE hr.depth of1 rfl L.co L.gen rfl ⟨c', oc, vs, t, rfl, hoc, hdc, hvc⟩ ?_
    rw [hbind]
    refine wpAny_pure (wpAny_newFunctionEnv (fun y hy => (L.own y hy).2) (fun y hy => absurd hy (by simp)) (fun h₁ hns hsb => ⟨I1.nolimit.fresh _ hsb, ?_⟩) L.kind)
    show codeAny _ _ (.expr body (LamX.lamEnv X scope s1.heap.objs.size f c')) _ _
    have kp : ∀ b o, s1.heap.get? b = some o → h₁.get? b = some o := fun b o e => hsb.extBut b o (Nat.ne_of_lt (Heap.lt_size e)) (Heap.get?_push_of_some _ e)
    have J : Inv (LamX.lamCx X (X.A.deeper (envOfC qg sg s.heap.objs.size g cdg)) (envOfC qg sg s.heap.objs.size g cdg :: X.stack) s1 HZ E scope f c') [] σ HZ { s1 with heap := h₁, toks := s1.toks + ([] : List (Str × Value)).length } :=
      LamX.lam_start2 I L I1.env0 hr.hd un hns kp
    refine PySem.W.kla_codeExpr (wpAny_mono ((hbody (X.A.deeper (envOfC qg sg s.heap.objs.size g cdg)) _ s1 HZ E hG (hr.deeper _)).run [] _ _ HZ Q J ht) (fun v s' hq => ?_) fun e s' hq => hq)
    obtain ⟨w', H', J', rv, q⟩ := hq
    exact ⟨w', H', J'.os, J'.bare, J'.base, J'.hok, rv, q⟩
  refine wpAny_call (codeAny_mono rc fun r s' hq => ?_)
  match r, hq with
  | .error e, hq => exact tk e s' (XE.of_call I1 (fun c d H' z => hW c d H' z) hq)
  | .ok (.ret u), hq => exact I1.after hq
  | .ok .next, hq => exact False.elim hq
  | .ok .brk, hq => exact False.elim hq
  | .ok .cont, hq => exact False.elim hq
end
end RM

/-! RE: try: x = work() / except C as e: y = e. -/
namespace RM
open PySem PySem.Spec PyProof.Rows L2
theorem SlotsR.getL {K : PySem.W.Frag} {p : List (List Addr)} {G H : Hp} : ∀ {t : DSt} {σ : L2.St} {ow : List Addr} {i : Nat} {v : V} {R : List (List Addr) → Hp → Prop}, SlotsR K p G H t σ ow → t[i]? = some (some (.lam v R)) → σ[i]? = some (some v) ∧ R p G
  | [], _, _, _, _, _, _, e => by simp at e
  | _ :: _, _, _, 0, v, R, ⟨u, r, l, k, h1, h2, h3, _⟩, e => by
    simp only [List.getElem?_cons_zero, Option.some.injEq] at e
    subst e
    obtain ⟨e1, e2, e3⟩ := h3
    exact ⟨by rw [h1, e2]; rfl, e3 p G ⟨[], by simp⟩ (Same.refl _)⟩
  | _ :: _, _, _, i + 1, v, R, ⟨u, r, l, k, h1, h2, _, h4⟩, e => by
    obtain ⟨e1, e2⟩ := SlotsR.getL (i := i) h4 (by simpa using e)
    exact ⟨by rw [h1]; simpa using e1, e2⟩
/-- what the lambda holds: the maker's slots, its code object -/
def LamR (K : PySem.W.Frag) (gm : DSt) (σm : L2.St) (c : Addr) (q : Str) : List (List Addr) → Hp → Prop := fun p G => (∀ H : Hp, SlotsR K p G H gm σm []) ∧ G c = some (LamX.CodeO c q)
/-- found and caught -/
def tryM (z0 y0 : D) (cs : List Str) (mw : M D) : M (D × D) := fun S => match mw S with
  | .ok d S' => .ok (d, y0) S'
  | .exc x S' => if x.cls ∈ cs then .ok (z0, .xcp x.cls x.ns x.fs) S' else .stuck
  | .stuck => .stuck
def tryE (y0 : D) (cs : List Str) (mw : M D) : M D := fun S => match mw S with
  | .ok _ S' => .ok y0 S'
  | .exc x S' => if x.cls ∈ cs then .ok (.xcp x.cls x.ns x.fs) S' else .stuck
  | .stuck => .stuck
/-- the call of the lambda in Z's try -/
def Acts (Z : Cx) (a : Str) (f c : Addr) (q : Str) (gm : DSt) (σm : L2.St) (mw : M D) : Prop := ∀ (W : WX) (pn : List (Addr × Obj)) (xe : Value → Shared → Prop) (p1 p2 : Pos), Takes (Z.tr pn xe) W →
  PE (Z.tr pn xe) (.Call (.Name a p1) [] [] p2) (fun σZ HZ Q => σZ[0]? = some (some (.ref f)) ∧ HZ c = some (LamX.CodeO c q) ∧ ∃ E : XK, (∀ cls d H', E cls d H' → W cls d σZ H') ∧ tXE Z.K (fun c d _ H' => E c d H') gm mw σm HZ Q)
theorem excAt_den {K : PySem.W.Frag} {p : List (List Addr)} {G : Hp} {x : Exc} {cls : Value} {dd : Option Addr} {a : Addr} (h : ExcAt K p G x cls dd) (ha : G a = none) : cls = .ref (He.ga K x.cls) ∧ Den K p (upd G a (XcO cls dd a)) (.xcp x.cls x.ns x.fs) (.ref a) := by
  have sm : Same G (upd G a (XcO cls dd a)) := Same.upd_of ha
  cases dd with
  | none =>
    obtain ⟨rfl, e1, e2⟩ := h
    rw [e1, e2]
    exact ⟨rfl, a, none, [], rfl, upd_same, .inl ⟨rfl, rfl⟩, rfl, rfl⟩
  | some d =>
    obtain ⟨rfl, vs, h1, h2, h3⟩ := h
    exact ⟨rfl, a, some d, vs, rfl, upd_same, .inr ⟨d, rfl, sm _ _ h1⟩, h2, h3.mono ⟨[], by simp⟩ sm⟩
section
variable {X : Cx} {W : Wf} {g : DSt} {a n y z x : Str} {f c CS : Addr} {q : Str} {gm : DSt} {σm : L2.St} {mw : M D} {cs : List Str} {p1 p2 p3 p4 p5 p6 p7 p8 np pos' pos : Pos}
/-- the maker's state at the call -/
theorem lam_state {n : Snap} {p : List (List Addr)} {G H : Hp} {S : Sto} {σ : L2.St} {ow : List Addr} (r : RelF X.K n p G S H g σ ow) (h0 : g[0]? = some (some (.lam (.ref f) (LamR X.K gm σm c q)))) :
    σ[0]? = some (some (.ref f)) ∧ H c = some (LamX.CodeO c q) ∧ RelS X.K p G S H gm σm [] := by
  obtain ⟨e1, sl, hc⟩ := r.rs.sl.getL h0
  exact ⟨e1, r.rs.rel.sub _ _ hc, r.rs.rel, sl H, by rw [List.append_nil]; exact r.rs.rel.nd, fun b hb => by cases hb⟩
/-- behind the suite y = n -/
theorem keep_end {nn : Snap} {p : List (List Addr)} {G H : Hp} {S S' : Sto} {σ : L2.St} {ow : List Addr} {i j : Nat} {x0 : Exc} {g2 : DSt} (r : RelF X.K nn p G S H g σ ow) (hi : i < g.length) (hj : j < g.length) (hij : i ≠ j) (gi : g[i]? = some none) {K' : Value → Option Addr → Hp → Prop}
    (E : Ends) (he : ∀ (v : D), v = .xcp x0.cls x0.ns x0.fs → ∀ p' G' H' σ' ow', RelF X.K nn p' G' S' H' (g.set j (some (.val v))) σ' ow' → E.nx σ' H') (hcs : x0.cls ∈ cs) (hex : ∀ c ∈ cs, PySem.W.exmOne X.K (.ref (He.ga X.K c)) (.ref CS) = some true) :
    ∀ cls dd p' G' H', ExcAt X.K p' G' x0 cls dd → Rel0 X.K p' S' G' H' → Ext p G H p' G' H' → wKeep X.K (.ref CS) i (fun _ _ _ => tAsg (tVar i) (gName j)) E cls dd σ H' := by
  intro cls dd p' G' H' xa r1 x1
  refine ⟨?_, fun a ha => ?_⟩
  · cases dd with
    | none => obtain ⟨rfl, _⟩ := xa; exact hex _ hcs
    | some d => obtain ⟨rfl, _⟩ := xa; exact hex _ hcs
  · have hl := r.rs.sl.len
    refine ⟨.ref a, by rw [List.getElem?_set_self (by omega)], ha, ?_⟩
    have ga : G' a = none := Same.free r1.sub ha
    obtain ⟨hcl, dn⟩ := excAt_den xa ga
    obtain ⟨r2, x2⟩ := r1.new (XcO cls dd a) ha
    have rf := (r.step x1 r1).step x2 r2
    obtain ⟨ow', rf'⟩ := rf.set0 (i := j) hj (s := some (.val (.xcp x0.cls x0.ns x0.fs))) (v := some (.ref a)) ⟨rfl, _, rfl, dn⟩
    obtain ⟨ow2, rf2⟩ := rf'.set0 (i := i) (by rw [List.length_set]; exact hi) (s := none) (v := none) rfl
    have e1 : (g.set j (some (.val (.xcp x0.cls x0.ns x0.fs)))).set i none = g.set j (some (.val (.xcp x0.cls x0.ns x0.fs))) := by
      apply List.ext_getElem?
      intro k
      rw [List.getElem?_set]
      split
      · rename_i e
        subst e
        rw [List.getElem?_set_ne (Ne.symm hij), gi, if_pos (by rw [List.length_set]; exact hi)]
      · rfl
    have e2 : ((σ.set i (some (V.ref a))).set j (some (.ref a))).set i none = (σ.set j (some (.ref a))).set i none := by
      rw [List.set_comm _ _ hij, List.set_set]
    rw [e1] at rf2
    rw [e2]
    exact he _ rfl _ _ _ _ _ rf2
theorem set_same {k : Nat} {v : Option DV} (h : g[k]? = some v) : g.set k v = g := by
  apply List.ext_getElem?
  intro m
  rw [List.getElem?_set]
  split
  · rename_i e
    subst e
    rw [h, if_pos (List.getElem?_eq_some_iff.mp h).1]
  · rfl
/-- try: z = a() / except x as n: y = n -/
theorem xs_tryM (i j k : Nat) (act : Acts X a f c q gm σm mw) (h0 : g[0]? = some (some (.lam (.ref f) (LamR X.K gm σm c q)))) (hex : ∀ c ∈ cs, PySem.W.exmOne X.K (.ref (He.ga X.K c)) (.ref CS) = some true) (hc : Names X x (.ref CS))
    (hs : X.stack = X.env :: X.outer) (hf : X.env.frame = some X.env.locals) (hx : X.ex = []) (hN : X.N.Nodup) (hi : X.N[i]? = some n) (hln : X.env.kindOf n = some .local) (hvn : Vis X.env.scope n) (hj : X.N[j]? = some y) (hjl : X.env.scope.names.lookup y = some .local) (hk : X.N[k]? = some z) (hkl : X.env.scope.names.lookup z = some .local)
    (gi : g[i]? = some none) {z0 y0 : D} (gj : g[j]? = some (some (.val y0))) (gk : g[k]? = some (some (.val z0))) (hkj : k ≠ j := by decide) (hd : (n == ("__debug__" : Str)) = false := by decide) (hcd : (n == ("__classdict__" : Str)) = false := by decide)
    (s1 : swapsWithSole [.Name z p3] (.Call (.Name a p1) [] [] p2) p4.line X.env = pure false := by rfl) (s2 : swappedStores [.Name z p3] (.Call (.Name a p1) [] [] p2) X.env = pure none := by rfl) (s3 : (assignEach [.Name z p3] X.env).map (·.2) = [assign (.Name z p3) X.env] := by rfl)
    (s4 : swapsWithSole [.Name y p5] (.Name n p6) p7.line X.env = pure false := by rfl) (s5 : swappedStores [.Name y p5] (.Name n p6) X.env = pure none := by rfl) (s6 : (assignEach [.Name y p5] X.env).map (·.2) = [assign (.Name y p5) X.env] := by rfl) :
    XS1 X W g (IN fun r : D × D => (g.set k (some (.val r.1))).set j (some (.val r.2))) (.Try [.Assign [.Name z p3] (.Call (.Name a p1) [] [] p2) p4] [.ExceptHandler (some (.Name x np)) (some n) [.Assign [.Name y p5] (.Name n p6) p7] pos'] [] [] pos) (tryM z0 y0 cs mw) := by
  have hij : i ≠ j := fun e => by rw [e, gj] at gi; cases gi
  have li := (List.getElem?_eq_some_iff.mp gi).1
  have lj := (List.getElem?_eq_some_iff.mp gj).1
  have lk := (List.getElem?_eq_some_iff.mp gk).1
  refine PS.imp (ps_try_keep hs hf hx hN hi hln hc
    (tb := fun W' => tAsg (fun σZ HZ Q => σZ[0]? = some (some (.ref f)) ∧ HZ c = some (LamX.CodeO c q) ∧ ∃ E : XK, (∀ cls d H', E cls d H' → W' cls d σZ H') ∧ tXE X.K (fun c d _ H' => E c d H') gm mw σm HZ Q) (gName k))
    (ts := fun _ _ _ => tAsg (tVar i) (gName j))
    (fun W' pn xe tk _ => pss_one (ps_asg (act W' pn xe p1 p2 tk) (pg_name hN hk (.inl hkl) (.inr hkl)) s1 s2 s3))
    (fun a' oe cls d pn _ _ => pss_one (ps_asg (X := X.suite a' ((a', oe) :: pn)) (pe_var hi hvn hd hcd) (pg_name hN hj (.inl hjl) (.inr hjl)) s4 s5 s6))) fun E σ H ⟨nn, p, G, S, ow, r, q'⟩ => ?_
  obtain ⟨e1, e2, rl⟩ := lam_state r h0
  refine ⟨e1, e2, _, fun _ _ _ z => z, p, G, S, [], rl, ?_⟩
  unfold tryM at q'
  cases em : mw S with
  | stuck => rw [em] at q'; exact q'.elim
  | ok d S' =>
    rw [em] at q'
    intro v p' G' H' dn r1 x1
    obtain ⟨ow', rf⟩ := (r.step x1 r1).set0 (i := k) lk (s := some (.val d)) (v := some v) ⟨rfl, _, rfl, dn⟩
    have q' := q' (.nx ((g.set k (some (.val d))).set j (some (.val y0)))) ⟨_, rfl, Wk.refl _⟩
    refine q' p' G' H' _ ow' ?_
    rw [set_same (by rw [List.getElem?_set_ne hkj]; exact gj)]; exact rf
  | exc x0 S' =>
    rw [em] at q'
    dsimp only at q'
    by_cases hm : x0.cls ∈ cs
    · rw [if_pos hm] at q'
      refine keep_end r li lj hij gi (g2 := g) (K' := fun _ _ _ => True) E (fun v hv p' G' H' σ' ow' rf => ?_) hm hex
      subst hv
      have q' := q' (.nx ((g.set k (some (.val z0))).set j (some (.val (.xcp x0.cls x0.ns x0.fs))))) ⟨_, rfl, Wk.refl _⟩
      refine q' p' G' H' _ ow' ?_
      rw [set_same gk]; exact rf
    · rw [if_neg hm] at q'
      exact q'.elim
/-- try: a() / except x as n: y = n -/
theorem xs_tryE (i j : Nat) (act : Acts X a f c q gm σm mw) (h0 : g[0]? = some (some (.lam (.ref f) (LamR X.K gm σm c q)))) (hex : ∀ c ∈ cs, PySem.W.exmOne X.K (.ref (He.ga X.K c)) (.ref CS) = some true) (hc : Names X x (.ref CS))
    (hs : X.stack = X.env :: X.outer) (hf : X.env.frame = some X.env.locals) (hx : X.ex = []) (hN : X.N.Nodup) (hi : X.N[i]? = some n) (hln : X.env.kindOf n = some .local) (hvn : Vis X.env.scope n) (hj : X.N[j]? = some y) (hjl : X.env.scope.names.lookup y = some .local)
    (gi : g[i]? = some none) {y0 : D} (gj : g[j]? = some (some (.val y0))) (hd : (n == ("__debug__" : Str)) = false := by decide) (hcd : (n == ("__classdict__" : Str)) = false := by decide)
    (s1 : swapsWith (.Call (.Name a p1) [] [] p2) none p4.line X.env = pure false := by rfl)
    (s4 : swapsWithSole [.Name y p5] (.Name n p6) p7.line X.env = pure false := by rfl) (s5 : swappedStores [.Name y p5] (.Name n p6) X.env = pure none := by rfl) (s6 : (assignEach [.Name y p5] X.env).map (·.2) = [assign (.Name y p5) X.env] := by rfl) :
    XS1 X W g (IN fun r : D => g.set j (some (.val r))) (.Try [.Expr (.Call (.Name a p1) [] [] p2) p4] [.ExceptHandler (some (.Name x np)) (some n) [.Assign [.Name y p5] (.Name n p6) p7] pos'] [] [] pos) (tryE y0 cs mw) := by
  have hij : i ≠ j := fun e => by rw [e, gj] at gi; cases gi
  have li := (List.getElem?_eq_some_iff.mp gi).1
  have lj := (List.getElem?_eq_some_iff.mp gj).1
  refine PS.imp (ps_try_keep hs hf hx hN hi hln hc
    (tb := fun W' => tDrop (fun σZ HZ Q => σZ[0]? = some (some (.ref f)) ∧ HZ c = some (LamX.CodeO c q) ∧ ∃ E : XK, (∀ cls d H', E cls d H' → W' cls d σZ H') ∧ tXE X.K (fun c d _ H' => E c d H') gm mw σm HZ Q))
    (ts := fun _ _ _ => tAsg (tVar i) (gName j))
    (fun W' pn xe tk _ => pss_one (ps_expr (act W' pn xe p1 p2 tk) s1))
    (fun a' oe cls d pn _ _ => pss_one (ps_asg (X := X.suite a' ((a', oe) :: pn)) (pe_var hi hvn hd hcd) (pg_name hN hj (.inl hjl) (.inr hjl)) s4 s5 s6))) fun E σ H ⟨nn, p, G, S, ow, r, q'⟩ => ?_
  obtain ⟨e1, e2, rl⟩ := lam_state r h0
  refine ⟨e1, e2, _, fun _ _ _ z => z, p, G, S, [], rl, ?_⟩
  unfold tryE at q'
  cases em : mw S with
  | stuck => rw [em] at q'; exact q'.elim
  | ok d S' =>
    rw [em] at q'
    intro v p' G' H' dn r1 x1
    have q' := q' (.nx (g.set j (some (.val y0)))) ⟨_, rfl, Wk.refl _⟩
    refine q' p' G' H' _ ow ?_
    rw [set_same gj]; exact r.step x1 r1
  | exc x0 S' =>
    rw [em] at q'
    dsimp only at q'
    by_cases hm : x0.cls ∈ cs
    · rw [if_pos hm] at q'
      refine keep_end r li lj hij gi (g2 := g) (K' := fun _ _ _ => True) E (fun v hv p' G' H' σ' ow' rf => ?_) hm hex
      subst hv
      have q' := q' (.nx (g.set j (some (.val (.xcp x0.cls x0.ns x0.fs))))) ⟨_, rfl, Wk.refl _⟩
      exact q' p' G' H' _ ow' rf
    · rw [if_neg hm] at q'
      exact q'.elim
end
end RM

/-! RE: x(lambda: body), x a def that catches. -/
namespace RM
open PySem PySem.Spec PyProof.Rows L2
/-- only with the table of fnm at place j of the store -/
def tabbed {α : Type} (j : Nat) (fnm q : Str) (m : M α) : M α := fun S => match S[j]? with
  | some (.tab n' q') => if n' = fnm ∧ q' = q then m S else .stuck
  | _ => .stuck
/-- the slots that hold plain values -/
def valsOnly : DSt → DSt
  | [] => []
  | some (.val d) :: t => some (.val d) :: valsOnly t
  | _ :: t => none :: valsOnly t
theorem SlotsR.vals {K : PySem.W.Frag} {p : List (List Addr)} {G H H' : Hp} : ∀ {t : DSt} {σ : L2.St} {ow : List Addr}, SlotsR K p G H t σ ow → SlotsR K p G H' (valsOnly t) σ []
  | [], _, _, h => ⟨h.1, rfl⟩
  | none :: _, _, _, ⟨v, r, l, k, h1, h2, h3, h4⟩ => ⟨v, r, [], [], h1, rfl, rfl, SlotsR.vals h4⟩
  | some (.val d) :: _, _, _, ⟨v, r, l, k, h1, h2, h3, h4⟩ => ⟨v, r, [], [], h1, rfl, ⟨rfl, h3.2⟩, SlotsR.vals h4⟩
  | some (.own _) :: _, _, _, ⟨v, r, l, k, h1, h2, h3, h4⟩ => ⟨v, r, [], [], h1, rfl, rfl, SlotsR.vals h4⟩
  | some (.slf _ _ _ _) :: _, _, _, ⟨v, r, l, k, h1, h2, h3, h4⟩ => ⟨v, r, [], [], h1, rfl, rfl, SlotsR.vals h4⟩
  | some (.lam _ _) :: _, _, _, ⟨v, r, l, k, h1, h2, h3, h4⟩ => ⟨v, r, [], [], h1, rfl, rfl, SlotsR.vals h4⟩
theorem SlotsR.nones {K : PySem.W.Frag} {p : List (List Addr)} {G H : Hp} : ∀ n : Nat, SlotsR K p G H (List.replicate n none) (List.replicate n none) []
  | 0 => ⟨rfl, rfl⟩
  | n + 1 => ⟨none, List.replicate n none, [], [], rfl, rfl, rfl, SlotsR.nones n⟩
section
variable {K : PySem.W.Frag} {p : List (List Addr)} {S : Sto} {G H : Hp}
/-- the store's table in the heap -/
theorem Rel0.tab (r : Rel0 K p S G H) {j : Nat} {fnm q : Str} (hs : S[j]? = some (.tab fnm q)) : p[j]? = some [(He.cT K (fnm, none)).2] ∧ ∃ ps, H (He.cT K (fnm, none)).2 = some (.tbl ps) ∧ TriplesOk ps.toList ∧ ∀ (pos : Pos) (cv : Value), codeAmong pos ps.toList = some cv → ∃ c, cv = .ref c ∧ G c = some (LamX.CodeO c q) := by
  have hj : j < p.length := by rw [r.len]; exact (List.getElem?_eq_some_iff.mp hs).1
  have e : p[j]? = some p[j] := List.getElem?_eq_getElem hj
  have m := r.mo j _ _ e hs
  match as : p[j], m with
  | [x], m =>
    obtain ⟨rfl, h⟩ := m
    exact ⟨by rw [e, as], h⟩
  | [], m => exact m.elim
  | _ :: _ :: _, m => exact absurd m (by unfold MoAt; simp)
/-- a code object more -/
theorem Rel0.grown (r : Rel0 K p S G H) {j : Nat} {fnm q : Str} {ps : Array Value} {pos : Pos} {c' : Addr} (hs : S[j]? = some (.tab fnm q)) (h0 : H (He.cT K (fnm, none)).2 = some (.tbl ps)) (ht : TriplesOk ps.toList) (hc : ∀ (pos : Pos) (cv : Value), codeAmong pos ps.toList = some cv → ∃ c, cv = .ref c ∧ G c = some (LamX.CodeO c q)) (nC : H c' = none)
    (ht' : TriplesOk (ps ++ #[rawInt pos.line, rawInt pos.col, .ref c']).toList) :
    Rel0 K p S (upd G c' (LamX.CodeO c' q)) (upd (upd H (He.cT K (fnm, none)).2 (.tbl (ps ++ #[rawInt pos.line, rawInt pos.col, .ref c']))) c' (LamX.CodeO c' q)) ∧
      Ext p G H p (upd G c' (LamX.CodeO c' q)) (upd (upd H (He.cT K (fnm, none)).2 (.tbl (ps ++ #[rawInt pos.line, rawInt pos.col, .ref c']))) c' (LamX.CodeO c' q)) := by
  obtain ⟨hp, _⟩ := r.tab hs
  generalize (He.cT K (fnm, none)).2 = P at *
  have gC : G c' = none := Same.free r.sub nC
  have mP : P ∈ p.flatten := List.mem_flatten.mpr ⟨_, List.mem_of_getElem? hp, by simp⟩
  have gP : G P = none := r.gn P mP
  have nPc : P ≠ c' := ne_of_none h0 nC
  have far : ∀ b, b ≠ P → b ≠ c' → upd (upd H P (.tbl (ps ++ #[rawInt pos.line, rawInt pos.col, .ref c']))) c' (LamX.CodeO c' q) b = H b := fun b h1 h2 => by rw [upd_ne h2, upd_ne h1]
  have sm : Same G (upd G c' (LamX.CodeO c' q)) := Same.upd_of gC
  refine ⟨⟨fun b o e => ?_, r.len, fun i as o e1 e2 => ?_, r.nd, fun b hb => ?_⟩, ⟨sm, fun b h1 h2 => ?_, fun b o e hb => ?_, fun b e => ?_, [], by simp, by simp⟩⟩
  · by_cases z : b = c'
    · subst z; rw [upd_same] at e ⊢; exact e
    · rw [upd_ne z] at e
      rw [far b (ne_of_none e gP) z]
      exact r.sub b o e
  · by_cases z : j = i
    · subst z
      rw [hp] at e1
      rw [hs] at e2
      cases e1
      cases e2
      have m := r.mo j _ _ hp hs
      refine ⟨m.1, _, by rw [upd_ne nPc, upd_same], ht', fun p' cv hcv => ?_⟩
      have eL : (ps ++ #[rawInt pos.line, rawInt pos.col, .ref c']).toList = ps.toList ++ [rawInt pos.line, rawInt pos.col, .ref c'] := by simp
      rw [eL] at hcv
      rcases LamX.among_app _ ht hcv with y | y
      · obtain ⟨c0, f1, f2⟩ := hc p' cv y
        exact ⟨c0, f1, sm _ _ f2⟩
      · exact ⟨c', y, upd_same⟩
    · have m := r.mo i as o e1 e2
      refine m.mono ⟨[], by simp⟩ sm fun b hb => far b ?_ ?_
      · rintro rfl; exact flat_apart r.nd hp e1 z (by simp) hb
      · rintro rfl; exact m.dom b hb nC
  · rw [upd_ne (fun z => by subst z; exact r.dom hb nC)]; exact r.gn b hb
  · rw [upd_ne (fun z => by subst z; exact h2 nC)]; exact h1
  · rw [far b (fun z => by subst z; exact hb mP) (ne_of_none e nC)]; exact e
  · by_cases z : b = P
    · subst z; rw [upd_ne nPc, upd_same]; simp
    · rw [far b z (fun y => by subst y; exact e nC)]; exact e
end
section
variable {X : Cx} {W : WX} {g : DSt} {x a nm ql : Str} {gA : Addr} {fd : FuncData} {pg : Arguments} {bg : List Stmt} {sg : Scope} {dvs : List V} {kws : List (Str × V)} {Ng : List Str} {k j : Nat} {fnm q : Str} {params : Arguments} {body : Expr} {scope : Scope} {mw hear : M D} {p lpos pos : Pos}
theorem xe_heard (hg : Gl X x) (hm : X.mg x = some (.ref gA)) (hk : PySem.W.keepIn X.K (.ref gA) = true) (F : FunD X.K nm ql pg bg sg dvs kws gA fd) (hb : L2.Binds X.K fd [a] []) (Sg : FnScope Ng [a] sg) (hNg : Ng[0]? = some a) (hva : Vis sg a)
    (TB : LamX.TabB X.base X.mg (He.cT X.K (fnm, none)).1 (He.cT X.K (fnm, none)).2) (hcode : X.env.code = .ref (He.cT X.K (fnm, none)).1) (hq : q = X.env.qual ++ "<lambda>") (hr : Room (k + 2) X.A) (hG : X.A.guards = some []) (L : LamX.LamS X.env.scope scope) (hdef : defaultsOf params X.env = ([], []))
    (hbind : ∀ (q : Str) (cl : List (Str × Addr)) (pm cv ctv : Value), bindArgs (PySem.W.kla_fn "<lambda>" q params body scope cl pm cv ctv) ⟨[], []⟩ = pure [])
    (hbody : ∀ (A : Around) (outer : List Env) (s : Shared) (H : Hp) (E : XK) (f c' : Addr), BodyX (LamX.lamCx X A outer s H E scope f c') k E → XE (LamX.lamCx X A outer s H E scope f c') (fun c d _ H' => E c d H') (valsOnly g) body mw)
    (hcat : ∀ (cdv : Value) (s : Shared) (H : Hp) (f c' : Addr) (σm : L2.St), BodyX (cxOf (L2.CX X.prog X.w) X.prog X.w X.K X.mg X.base Ng ql sg gA cdv X.A X.stack s H fun _ _ _ => False) (k + 1) (fun _ _ _ => False) →
      Acts (cxOf (L2.CX X.prog X.w) X.prog X.w X.K X.mg X.base Ng ql sg gA cdv X.A X.stack s H fun _ _ _ => False) a f c' q (valsOnly g) σm mw →
      XS (cxOf (L2.CX X.prog X.w) X.prog X.w X.K X.mg X.base Ng ql sg gA cdv X.A X.stack s H fun _ _ _ => False) (fun _ _ _ => False) (some (.lam (.ref f) (LamR X.K (valsOnly g) σm c' q)) :: List.replicate (Ng.length - 1) none) IB bg hear)
    (hdb : (x == ("__debug__" : Str)) = false := by decide) (hd : (a == ("__debug__" : Str)) = false := by decide) (hcd : (a == ("__classdict__" : Str)) = false := by decide) :
    XE X W g (.Call (.Name x p) [.Lambda params body scope lpos] [] pos) (tabbed j fnm q (noE hear)) := by
  refine ⟨fun pins s σ H Q I ⟨p, G, S, ow, r, h⟩ => ?_⟩
  unfold tabbed at h
  cases es : S[j]? with
  | none => rw [es] at h; exact h.elim
  | some o =>
    rw [es] at h
    cases o with
    | tape _ => exact h.elim
    | inst _ _ _ => exact h.elim
    | tab n' q' =>
      dsimp only at h
      by_cases hz : n' = fnm ∧ q' = q
      · rw [if_pos hz] at h
        obtain ⟨rfl, rfl⟩ := hz
        obtain ⟨hp, ps, h0, ht, hcd0⟩ := r.rel.tab es
        subst hq
        refine wpAny_Call_Name_kw (ld_glob I hg hm ?_ hdb)
        refine PySem.W.callWith_K (h₀ := X.base) I.ok.mod.kin hk ?_ (by rfl) (by rfl)
        show wpAny _ _ (spliced ((false, eval (.Lambda params body scope lpos) X.env) :: backTo pos (starEach [] X.env))) _ _ s
        refine Calls.spliced_cons (lam_make3 I TB hcode ⟨h0, ht, fun pos cv z => let ⟨c, e1, e2⟩ := hcd0 pos cv z; ⟨c, e1, r.rel.sub _ _ e2⟩⟩ hdef (L.has I.ok) fun f c' pm' ctv H1 ps' s' I1 T1 hH hf hfn hfr hco => ?_)
        refine Calls.spliced_nil ⟨I1.kIn, ?_⟩
        have key : ∃ G1, Rel0 X.K p S G1 H1 ∧ Ext p G H p G1 H1 ∧ G1 c' = some (LamX.CodeO c' (X.env.qual ++ "<lambda>")) := by
          rcases hH with ⟨rfl, rfl, hc⟩ | ⟨nC, rfl, rfl⟩
          · obtain ⟨c0, e1, e2⟩ := hcd0 _ _ hc
            cases e1
            exact ⟨G, r.rel, Ext.refl _ _ _, e2⟩
          · obtain ⟨r1, x1⟩ := r.rel.grown es h0 ht hcd0 nC T1.ok
            exact ⟨_, r1, x1, upd_same⟩
        obtain ⟨G1, r1, x1, gc⟩ := key
        have rs1 := r.ext x1 r1
        obtain ⟨oc, od, dV, kV, doc, pm, an, cdv, ct, osl, rfl, lk, hcg, _, _⟩ := F.ex
        have rc : codeAny (model X.prog X.w) X.A (.call (.ref gA) ⟨[.ref f], []⟩) (CR (L2.CX X.prog X.w) X.stack X.prog X.w H1 s' Q fun _ _ _ => False) s' := by
          refine LamX.run_ofS (N := Ng) (ps := [a]) (us := [.ref f]) (vs := [.ref f]) lk hcg Sg hr I1.env0 (hb s' [.ref f] I1.kIn rfl) (.cons rfl .nil) rfl fun hr' => ?_
          have BX : BodyX (cxOf (L2.CX X.prog X.w) X.prog X.w X.K X.mg X.base Ng ql sg gA cdv X.A X.stack s' H1 fun _ _ _ => False) (k + 1) (fun _ _ _ => False) := ⟨hr', hG, takes_of rfl rfl rfl rfl, passes_of rfl, rfl⟩
          refine ⟨_, hcat cdv s' H1 f c' σ BX fun W' pn xe p1 p2 tk => ?_, ?_⟩
          · exact act_G (i := 0) (tb := fun E => tXE X.K (fun c d _ H' => E c d H') (valsOnly g) mw) I1 L hf hfn hfr (hbind _ _ _ _ _) tk hr' hG (fun A outer s2 H2 E hg2 hr2 => hbody A outer s2 H2 E f c' ⟨hr2, hg2, takes_of rfl rfl rfl rfl, passes_of rfl, rfl⟩) hNg hva hd hcd
          · have hn : L2.start Ng [V.ref f] = some (.ref f) :: List.replicate (Ng.length - 1) none := rfl
            rw [hn]
            refine ⟨⟨p, G1, H1, p, G1⟩, p, G1, S, [], ⟨⟨r1, ⟨_, _, [], [], rfl, rfl, ⟨rfl, rfl, fun p' G' hp' sm => ⟨fun H' => (SlotsR.vals (H' := H') rs1.sl).mono hp' sm (fun _ z => by cases z), sm _ _ gc⟩⟩, SlotsR.nones _⟩, by rw [List.append_nil]; exact r1.nd, (fun _ z => by cases z)⟩, Ext.refl _ _ _, (fun _ z => by cases z), ⟨[], by simp⟩, Same.refl _⟩, ?_⟩
            have h1 := okR.ext h x1
            unfold RM.noE at h1
            cases eh : hear S with
            | stuck => rw [eh] at h1; exact h1.elim
            | exc e S1 => rw [eh] at h1; exact h1.elim
            | ok d S1 =>
              rw [eh] at h1
              rintro c (rfl | ⟨rfl, t, rfl⟩)
              · exact h1
              · exact fun p' G' H' σ' ow' r' => h1 .non p' G' H' rfl r'.rs.rel r'.ext
        refine wpAny_call (codeAny_mono rc fun rr s2 hq => ?_)
        match rr, hq with
        | .error e, hq =>
          obtain ⟨_, _, _, _, _, _, _, _, _, _, _, _, z⟩ := hq
          exact z.elim
        | .ok (.ret u), hq => exact I1.after hq
        | .ok .next, hq => exact False.elim hq
        | .ok .brk, hq => exact False.elim hq
        | .ok .cont, hq => exact False.elim hq
      · rw [if_neg hz] at h; exact h.elim
end
end RM

/-! RE: own exceptions raised, asked by isinstance, read. -/
namespace RM
open PySem PySem.Spec PyProof.Rows L2
/-! ### raise -/
section
variable {α : Type} {X : Cx} {W : Wf} {g : DSt} {I : IC α} {rest : List Stmt} {C fI : Addr} {fl sf pr txt name qual c : Str} {params : Arguments} {scope : Scope} {j k : Nat} {p0 p1 p2 p3 p4 p5 p6 p7 p8 p9 p pos pos' : Pos} {a0 : Arg} {e : Expr} {me : M D}
theorem xs_raiseS (Z : SupC X.prog X.K (He.ga X.K c) fI fl name qual params (supB txt sf fl pr j p0 p1 p2 p3 p4 p5 p6 p7 p8 p9) scope) (S : SupS scope sf pr) (hp : (params.posonlyargs ++ params.args).head? = some a0) (hl : (p2.endLine == p4.line) = true) (h0 : a0.arg = sf)
    (hb : ∀ (kV doc pm : Value) (an : Option Addr) (cdv ct : Value) (cl : List (Str × Addr)) (v1 v2 : Value), bindArgs (PySem.W.fnX name qual params (supB txt sf fl pr j p0 p1 p2 p3 p4 p5 p6 p7 p8 p9) scope cl .none kV doc pm an cdv ct) ⟨[v1, v2], []⟩ = pure [(sf, v1), (pr, v2)])
    (hr : Room (k + 1) X.A) (hc : X.calm = true) (tk : Takes X W.x) (hsu : X.mg "super" = none) (hg : Gl X c) (hm : X.mg c = some (.ref (He.ga X.K c))) (he : XE X W.x g e me) (hdb : (c == ("__debug__" : Str)) = false := by decide) (hst : starEach [e] X.env = [(false, eval e X.env)] := by rfl) :
    XS X W g I (.Raise (some (.Call (.Name c p) [e] [] pos)) none pos' :: rest) (B me fun d => raise ⟨c, [fl], [d]⟩) := by
  refine PSs.imp (pss_cons (ps_raise hc tk (pmk_sup Z S hp hl h0 hb hr hsu hg hm he hdb hst)) pss_never) fun E σ H ⟨n, p, G, S, ow, r, q⟩ => ?_
  refine ⟨p, G, S, ow, r.rs, okG.seq q r fun d S1 v p1 G1 H1 e1 dn r1 x1 h1 dd hdd => ?_⟩
  obtain ⟨r2, x2⟩ := r1.rs.rel.new (.xd [(fl, v)]) hdd
  exact h1 _ (some dd) p1 _ _ ⟨rfl, [v], upd_same, rfl, DenL.one (dn.upd (r1.rs.rel.gfree hdd))⟩ r2 (r1.ext.trans x2)
/-- the class of an own exception without own __init__ -/
structure TxtC (K : PySem.W.Frag) (C : Addr) : Prop where
  ex : PySem.W.excIn K C PySem.HandSPX.veTail "ValueError.__new__" = true
  kp : PySem.W.keepIn K (.ref C) = true
  sb : PySem.W.subIn K (.ref C) (.type "BaseException") = some true
  ty : PySem.W.typeIn K (.ref C) = some (.type "type")
theorem xs_raiseT {m : Str} (Z : TxtC X.K (He.ga X.K c)) (hc : X.calm = true) (tk : Takes X W.x) (hg : Gl X c) (hm : X.mg c = some (.ref (He.ga X.K c))) (hdb : (c == ("__debug__" : Str)) = false := by decide) :
    XS X W g I (.Raise (some (.Call (.Name c p) [.Constant (.str m) j p2] [] pos)) none pos' :: rest) (raise ⟨c, [], []⟩) := by
  refine PSs.imp (pss_cons (ps_raise hc tk (pmk_own PySem.F.excBase_ValueError Z.ex hm Z.kp (raises_own Z.sb Z.ty) hg hdb)) pss_never) fun E σ H ⟨n, p, G, S, ow, r, q⟩ => ?_
  exact q _ none p G H ⟨rfl, rfl, rfl⟩ r.rs.rel r.ext
end
/-! ### isinstance -/
def subE (c : Str) : Ty → Bool
  | .o e => decide (c = e) || decide (e = "PriceError")
  | .b _ => true
def tyE (ex : List Str) : Ty → Bool
  | .o e => decide (e ∈ ex)
  | .b n => decide (n = "ValueError")
def isiE (ex : List Str) (t : Ty) (d : D) : M D := match d with
  | .non => if tyE ex t = true then pure (.bl false) else stuck
  | .xcp c _ _ => if c ∈ ex ∧ tyE ex t = true then pure (.bl (subE c t)) else stuck
  | _ => stuck
def excB (K : PySem.W.Frag) (ex : List Str) : Bool := ex.all fun c =>
  He.eqO (PySem.W.findIn K (.ref (He.ga K c)) "__getattribute__") (some (some (.builtin "BaseException.__getattribute__"))) && He.eqO (PySem.W.findIn K (.ref (He.ga K c)) "__getattr__") (some none) && decide (PySem.W.subIn K (.ref (He.ga K c)) (.type "BaseException") = some true) && PySem.W.hasDictIn K (He.ga K c) &&
  He.eqO (PySem.W.findIn K (.ref (He.ga K c)) "__class__") (some (some (.builtin "object.__class__"))) && He.eqO (PySem.W.specialIn K (.builtin "object.__class__") "__get__") (some (some (.builtin "getset_descriptor.__get__"))) && decide (PySem.W.takesIn K (.builtin "object.__class__") = some true) &&
  decide (PySem.W.mroIn K (He.ga K c) (.type "object") = some true) && decide (PySem.W.kitOne K (.ref (He.ga K c)) (.type "ValueError") = some true) && decide (PySem.W.kitOne K (.type "NoneType") (.ref (He.ga K c)) = some false) &&
  ex.all fun e => decide (PySem.W.kitOne K (.ref (He.ga K c)) (.ref (He.ga K e)) = some (subE c (.o e)))
structure ExT (K : PySem.W.Frag) (ex : List Str) : Prop where
  xc : ∀ c ∈ ex, L2.ExcC K (He.ga K c)
  ve : ∀ c ∈ ex, PySem.W.kitOne K (.ref (He.ga K c)) (.type "ValueError") = some true
  nn : ∀ c ∈ ex, PySem.W.kitOne K (.type "NoneType") (.ref (He.ga K c)) = some false
  oo : ∀ c ∈ ex, ∀ e ∈ ex, PySem.W.kitOne K (.ref (He.ga K c)) (.ref (He.ga K e)) = some (subE c (.o e))
theorem excB_ok {K : PySem.W.Frag} {ex : List Str} (h : excB K ex = true) : ExT K ex := by
  have k : ∀ c ∈ ex, _ := fun c hc => List.all_eq_true.mp h c hc
  simp only [Bool.and_eq_true, List.all_eq_true, decide_eq_true_eq] at k
  exact ⟨fun c hc => ⟨He.eqO_ok (k c hc).1.1.1.1.1.1.1.1.1.1, He.eqO_ok (k c hc).1.1.1.1.1.1.1.1.1.2, (k c hc).1.1.1.1.1.1.1.1.2, (k c hc).1.1.1.1.1.1.1.2, He.eqO_ok (k c hc).1.1.1.1.1.1.2, He.eqO_ok (k c hc).1.1.1.1.1.2, (k c hc).1.1.1.1.2, (k c hc).1.1.1.2⟩,
    fun c hc => (k c hc).1.1.2, fun c hc => (k c hc).1.2, fun c hc e he => (k c hc).2 e he⟩
theorem kit_nve {K : PySem.W.Frag} : PySem.W.kitOne K (.type "NoneType") (.type "ValueError") = some false := kit_ty (by decide +kernel)
/-- an exception in the heap -/
theorem xc_inst {P : Program} {w : World} {H : Hp} {h : Heap} {a C : Addr} {dd : Option Addr} (hok : HOk P w H h) (e : H a = some (XcO (.ref C) dd a)) (hd : dd = none ∨ ∃ d fs, dd = some d ∧ H d = some (.xd fs)) : ∃ oe od, PySem.W.InstAt h a oe C od := by
  obtain ⟨oe, vs, e1, z, e2⟩ := (show ObjOk P w H h a (.ext _) from hok a _ e).1
  obtain ⟨oc, od, oda, osl⟩ := oe
  obtain ⟨h1, h2⟩ := z
  dsimp only at h1 h2 e2
  subst h1 h2 e2
  rcases hd with rfl | ⟨d, fs, rfl, q⟩
  · exact ⟨_, none, e1, rfl, rfl, trivial⟩
  · obtain ⟨mA, ⟨o, es, ep, q1, _⟩, _⟩ := (show ObjOk P w H h d (.xd fs) from hok d _ q)
    exact ⟨_, some o, e1, rfl, rfl, q1⟩
def rIsX (K : PySem.W.Frag) (ex : List Str) : List V → Hp → VK → Prop := fun xs H Q => ∃ (x : V) (t : Ty), xs = [x, tyV' K t] ∧ tyE ex t = true ∧
  ((x = .non ∧ Q (.bl false) H) ∨ ∃ a c dd, x = .ref a ∧ c ∈ ex ∧ H a = some (XcO (.ref (He.ga K c)) dd a) ∧ (dd = none ∨ ∃ d fs, dd = some d ∧ H d = some (.xd fs)) ∧ Q (.bl (subE c t)) H)
theorem kit_exc {K : PySem.W.Frag} {ex : List Str} (T : ExT K ex) {c : Str} (hc : c ∈ ex) {t : Ty} (ht : tyE ex t = true) : PySem.W.kitOne K (.ref (He.ga K c)) (tyVal K t) = some (subE c t) := by
  cases t with
  | b n => rw [show n = "ValueError" from of_decide_eq_true ht]; exact T.ve c hc
  | o e => exact T.oo c hc e (of_decide_eq_true ht)
theorem kit_excN {K : PySem.W.Frag} {ex : List Str} (T : ExT K ex) {t : Ty} (ht : tyE ex t = true) : PySem.W.kitOne K (.type "NoneType") (tyVal K t) = some false := by
  cases t with
  | b n => rw [show n = "ValueError" from of_decide_eq_true ht]; exact kit_nve
  | o e => exact T.nn e (of_decide_eq_true ht)
theorem call_isX {X : Cx} {ex : List Str} (T : ExT X.K ex) : CallR X (.builtin "isinstance") (rIsX X.K ex) := by
  intro pins s σ H xs us Q I r h
  obtain ⟨x, t, rfl, ht, q⟩ := h
  obtain ⟨u1, u2, rfl, r1, r2⟩ := vals2 r
  have e2 := (clsV_of (K := X.K) t).eq r2
  subst e2
  rcases q with ⟨rfl, q⟩ | ⟨a, c, dd, rfl, hc, ha, hd, q⟩
  · cases (show u1 = Value.none from r1)
    exact PySem.W.kia_one PySem.W.kitx_none I.kIn True.intro (kit_excN T ht) (fun z => nomatch z) fun tk => ⟨.bl false, H, I.tok tk, rfl, q⟩
  · cases (show u1 = Value.ref a from r1)
    obtain ⟨oe, od, J⟩ := xc_inst I.hok ha hd
    have E := T.xc c hc
    have hcl : (PySem.W.clsIn X.K (He.ga X.K c)).isSome = true := by
      obtain ⟨cd, hc, _⟩ := PySem.W.any_some E.hd
      rw [hc]
      rfl
    exact PySem.W.kia_one (PySem.W.kitx_exc hcl E.hg E.hk E.hs E.ha E.hn E.ht E.hm) I.kIn J (kit_exc T hc ht) (fun z => nomatch z) fun tk => ⟨.bl _, H, I.tok tk, rfl, q⟩
section
variable {X : Cx} {W : WX} {g : DSt} {a b : Expr} {ma : M D} {pos p : Pos} {ex : List Str}
theorem xe_isiE (T : ExT X.K ex) (t : Ty) (hg : Gl X "isinstance") (hm : X.mg "isinstance" = none) (ha : XE X W g a ma) (hb : PE X b (tC (tyV' X.K t))) (hs : starEach [a, b] X.env = (false, eval a X.env) :: starEach [b] X.env := by rfl) (hs2 : starEach [b] X.env = [(false, eval b X.env)] := by rfl)
    (hpl : (backTo pos (starEach [b] X.env)).any (·.1) = false := by rfl) : XE X W g (.Call (.Name "isinstance" p) [a, b] [] pos) (B ma (isiE ex t)) := by
  refine PE.imp (pe_callB (call_isX T) hg hm (by decide +kernel) (pa_cons ha (pa_cons hb pa_nil hs2) hs) (by decide) (by decide) hs hpl) fun σ H Q ⟨q, G, S, ow, r, h⟩ => ?_
  refine ⟨q, G, S, ow, r, okR.seq h fun d S1 v p1 G1 H1 e1 dn r1 x1 h1 => ?_⟩
  unfold isiE at h1
  split at h1
  · cases (show v = V.non from dn)
    by_cases ht : tyE ex t = true
    · rw [if_pos ht] at h1
      exact ⟨.non, t, rfl, ht, .inl ⟨rfl, okR.fin (d := D.bl false) (v := V.bl false) h1 rfl r1⟩⟩
    · rw [if_neg ht] at h1; exact h1.elim
  · rename_i c ns fs
    obtain ⟨a', dd, vs, rfl, ga, hd, _⟩ := dn
    by_cases ht : c ∈ ex ∧ tyE ex t = true
    · rw [if_pos ht] at h1
      refine ⟨.ref a', t, rfl, ht.2, .inr ⟨a', c, dd, rfl, ht.1, r1.sub _ _ ga, ?_, okR.fin (d := D.bl _) (v := V.bl _) h1 rfl r1⟩⟩
      rcases hd with ⟨_, e⟩ | ⟨d, e1, e2⟩
      · exact .inl e
      · exact .inr ⟨d, _, e1, r1.sub _ _ e2⟩
    · rw [if_neg ht] at h1; exact h1.elim
  · exact h1.elim
end
/-! ### a field -/
def fldE (ex : List Str) (tb : List (Str × Str)) (f : Str) (d : D) : M D := fun S => match d with
  | .xcp c ns fs => if c ∈ ex ∧ (c, f) ∈ tb then match lookF ns fs f with
      | some x => .ok x S
      | none => .stuck
    else .stuck
  | _ => .stuck
def xfldB (K : PySem.W.Frag) (tb : List (Str × Str)) : Bool := tb.all fun q => He.eqO (PySem.W.findIn K (.ref (He.ga K q.1)) q.2) (some none)
theorem xfldB_ok {K : PySem.W.Frag} {tb : List (Str × Str)} (h : xfldB K tb = true) : ∀ q ∈ tb, PySem.W.findIn K (.ref (He.ga K q.1)) q.2 = some none := fun q hq => He.eqO_ok (List.all_eq_true.mp h q hq)
theorem xe_fldE {X : Cx} {W : WX} {g : DSt} {o : Expr} {mo : M D} {ex : List Str} {tb : List (Str × Str)} (f : Str) {pos : Pos} (T : ExT X.K ex) (hf : ∀ q ∈ tb, PySem.W.findIn X.K (.ref (He.ga X.K q.1)) q.2 = some none) (ho : XE X W g o mo) (hb : attributeBase o f X.env (eval o X.env) = eval o X.env := by rfl) :
    XE X W g (.Attribute o f pos) (B mo (fldE ex tb f)) := by
  refine ⟨fun pins s σ H Q I ⟨q, G, S, ow, r, h⟩ => ?_⟩
  refine attr_of hb (thn (ho.run pins s σ H (fun x H1 => ∃ a c d fs v, x = .ref a ∧ c ∈ ex ∧ (c, f) ∈ tb ∧ H1 a = some (XcO (.ref (He.ga X.K c)) (some d) a) ∧ H1 d = some (.xd fs) ∧ fs.lookup f = some v ∧ Q v H1) I ⟨q, G, S, ow, r, okR.seq h fun d S1 v p1 G1 H1 e1 dn r1 x1 h1 => ?_⟩) fun u s1 hh => ?_)
  · unfold fldE at h1
    cases d <;> try exact h1.elim
    rename_i c ns fs
    obtain ⟨a', dd, vs, rfl, ga, hd, hl, dl⟩ := dn
    dsimp only at h1
    by_cases hz : c ∈ ex ∧ (c, f) ∈ tb
    · rw [if_pos hz] at h1
      cases lk : lookF ns fs f with
      | none => rw [lk] at h1; exact h1.elim
      | some y =>
        rw [lk] at h1
        obtain ⟨vy, ly, dy⟩ := lookF_den dl lk
        rcases hd with ⟨rfl, _⟩ | ⟨d, rfl, gd⟩
        · cases fs <;> cases lk
        · exact ⟨a', c, d, _, vy, rfl, hz.1, hz.2, r1.sub _ _ ga, r1.sub _ _ gd, ly, okR.fin (d := y) (v := vy) h1 dy r1⟩
    · rw [if_neg hz] at h1; exact h1.elim
  · obtain ⟨x, H1, I1, rx, a, c, d, fs, v, rfl, hc, ht, ha, hd, hl, q⟩ := hh
    obtain rfl : u = Value.ref a := rx
    have E := T.xc c hc
    obtain ⟨oe, vs, e1, z, e2⟩ := (show ObjOk X.prog X.w H1 s1.heap a (.ext _) from I1.hok a _ ha).1
    obtain ⟨mA, hns, hr⟩ := (show ObjOk X.prog X.w H1 s1.heap d (.xd fs) from I1.hok d _ hd)
    obtain ⟨od, ho, hl2⟩ := lookIn_ns hns
    obtain ⟨u, hu, ru⟩ := RelO.some_of (v := v) (o := mA f) (by rw [← hl]; exact hr f)
    have J : PySem.W.InstAt s1.heap a oe (He.ga X.K c) (some od) := ⟨e1, z.1, by unfold PySem.W.notCls; rw [e2] <;> rfl, by rw [z.2]; exact ho⟩
    exact HandSPX.exc_get I1.kIn J E.hg E.hk E.hs (PySem.W.findObj_own E.hd (hf (c, f) ht) rfl (by rw [hl2, hu])) (handed_of ru) ⟨v, H1, I1.tok _, ru, q⟩
end RM

/-! RE: the head's hook with closures, tables of code objects, inits that call super(); the law's end with tables. -/
namespace RM
open PySem PySem.Spec PyProof.Rows L2
/-! ### the addresses looked at -/
def outE (o : Obj) : List Addr := match o.data with
  | .func fd => He.refV fd.code ++ (He.refV fd.defaults ++ (He.refV fd.kwdefaults ++ fd.closure.map fun q => q.2))
  | _ => outL o
def lvE (g : Addr → Option Obj) : Nat → List Addr → List Addr
  | 0, as => as
  | n + 1, as => as ++ lvE g n ((as.flatMap fun a => match g a with
    | some o => outE o
    | none => []).filter fun a => Nat.blt 3 a)
abbrev asE (n : Nat) (g : Addr → Option Obj) : List Addr := cStatics :: lvE g n [mainGlobals]
abbrev frE (n : Nat) (g : Addr → Option Obj) : PySem.W.Frag := He.frT g (asE n g)
/-! ### an own exception's class -/
def oexB (K : PySem.W.Frag) (C : Addr) : Bool := (match K.lookup C with
  | some ⟨.type t, _, .cls cd, sl⟩ => decide (t = "type") && (match cd.mro with | .ref c :: bm => decide (c = C) && PySem.HandSPX.refsVE bm | _ => false) && cd.hasDict && !cd.hasDel && (match sl.toList with | [_, _, _, _, some (.builtin n), _] => decide (n = "ValueError.__new__") | _ => false)
  | _ => false) && He.eqO (PySem.W.findIn K (.ref C) "__setattr__") (some (some (.builtin "object.__setattr__"))) && decide (PySem.W.subIn K (.ref C) (.type "BaseException") = some true) && decide (PySem.W.typeIn K (.ref C) = some (.type "type")) && PySem.W.keepIn K (.ref C)
theorem oexB_ok {K : PySem.W.Frag} {C : Addr} (h : oexB K C = true) : OexC K C := by
  unfold oexB at h
  simp only [Bool.and_eq_true, decide_eq_true_eq] at h
  obtain ⟨⟨⟨⟨h1, h2⟩, h3⟩, h4⟩, h5⟩ := h
  refine ⟨?_, He.eqO_ok h2, h3, h4, h5⟩
  split at h1
  · rename_i t dd cd sl lk
    simp only [Bool.and_eq_true, decide_eq_true_eq, Bool.not_eq_true'] at h1
    obtain ⟨⟨⟨⟨rfl, hm⟩, hd⟩, hn⟩, hs⟩ := h1
    split at hm
    · rename_i c bm em
      simp only [Bool.and_eq_true, decide_eq_true_eq] at hm
      obtain ⟨rfl, hb⟩ := hm
      split at hs
      · rename_i k0 k1 k2 k3 n k5 es
        have en : n = "ValueError.__new__" := of_decide_eq_true hs
        subst en
        obtain ⟨nm, bs, mro, ns, qn, hdd, sn, sub, ab, col, del⟩ := cd
        dsimp only at em hd hn
        subst em hd hn
        obtain ⟨l⟩ := sl
        dsimp only at es
        subst es
        exact ⟨nm, qn, ns, bs, bm, sn, sub, ab, col, dd, k0, k1, k2, k3, k5, lk, hb⟩
      · cases hs
    · cases hm
  · cases h1
def txtB (K : PySem.W.Frag) (C : Addr) : Bool := PySem.W.excIn K C PySem.HandSPX.veTail "ValueError.__new__" && PySem.W.keepIn K (.ref C) && decide (PySem.W.subIn K (.ref C) (.type "BaseException") = some true) && decide (PySem.W.typeIn K (.ref C) = some (.type "type"))
theorem txtB_ok {K : PySem.W.Frag} {C : Addr} (h : txtB K C = true) : TxtC K C := by
  unfold txtB at h
  simp only [Bool.and_eq_true, decide_eq_true_eq] at h
  exact ⟨h.1.1.1, h.1.1.2, h.1.2, h.2⟩
/-! ### an init that calls super() -/
structure SupD where
  cls : Str
  fl : Str
  name : Str
  qual : Str
  params : Arguments
  body : List Stmt
  scope : Scope
abbrev SupW : Type := Option (Str × Str × Arguments × FuncBody × Scope × Addr × List Str × Addr)
abbrev SupD.f (d : SupD) (K : PySem.W.Frag) : Addr := He.ma K (He.ga K d.cls) "__init__"
def supW (K : PySem.W.Frag) (d : SupD) : SupW := match K.lookup (d.f K) with
  | some ⟨_, _, .func fd, _⟩ => some (fd.name, fd.qualname, fd.params, fd.body, fd.scope, fd.globals, fd.closure.map (fun q => q.1), fd.builtins)
  | _ => none
def SupD.val (d : SupD) : SupW := some (d.name, d.qual, d.params, .stmts d.body, d.scope, mainGlobals, ["__class__"], builtinsNs)
def supOk (file : Str) (K : PySem.W.Frag) (d : SupD) : Bool := oexB K (He.ga K d.cls) && He.eqO (PySem.W.findIn K (.ref (He.ga K d.cls)) "__init__") (some (some (.ref (d.f K)))) && decide (PySem.W.typeIn K (.ref (d.f K)) = some (.type "function")) && He.eqO (PySem.W.findIn K (.ref (He.ga K d.cls)) d.fl) (some none) &&
  (match K.lookup (d.f K) with
  | some ⟨_, _, .func fd, _⟩ => (match fd.code, fd.closure with
    | .ref cda, [(_, cc)] => (match fd.defaults with | .none => true | _ => false) && PySem.W.codeIn K (.ref cda) d.qual && (match K.lookup cda with
      | some ⟨_, _, .fields vs, _⟩ => (match (vs[2]? : Option Value) with
        | some (.str f _) => file == f
        | _ => false)
      | _ => false) && (match K.lookup cc with
      | some ⟨_, _, .cell (some (.ref C')), _⟩ => decide (C' = He.ga K d.cls)
      | _ => false)
    | _, _ => false)
  | _ => false) && He.eqO (PySem.W.nsIn K cStatics "thirdparty.any") (some none) && He.eqO (PySem.W.ks_superIn K (He.ga K d.cls) (He.ga K d.cls) "__init__") (some (some (.builtin "ValueError.__init__"))) &&
  decide (PySem.W.subIn K (.ref (He.ga K d.cls)) (.type "ValueError") = some true) && decide (PySem.W.mroIn K (He.ga K d.cls) (.ref (He.ga K d.cls)) = some true)
theorem supOk_ok {prog : Program} {K : PySem.W.Frag} {d : SupD} (h : supOk prog.main.file K d = true) (hw : supW K d = d.val) (ht : (prog.main.scope.names.lookup ("super" : Str)).isSome = false) : SupC prog K (He.ga K d.cls) (d.f K) d.fl d.name d.qual d.params d.body d.scope := by
  unfold supOk at h
  simp only [Bool.and_eq_true, decide_eq_true_eq] at h
  obtain ⟨⟨⟨⟨⟨⟨⟨⟨h1, h2⟩, h3⟩, h4⟩, h5⟩, h6⟩, h7⟩, h8⟩, h9⟩ := h
  refine ⟨oexB_ok h1, He.eqO_ok h2, h3, He.eqO_ok h4, ?_, He.eqO_ok h6, He.eqO_ok h7, h8, h9, ht⟩
  clear h1 h2 h3 h4 h6 h7 h8 h9
  obtain ⟨cls, fl, name, qual, params, body, scope⟩ := d
  dsimp only [SupD.f, SupD.val] at *
  generalize hf : He.ma K (He.ga K cls) "__init__" = f at *
  unfold supW at hw
  dsimp only [SupD.f] at hw
  rw [hf] at hw
  cases lk : K.lookup f with
  | none => rw [lk] at hw; cases hw
  | some o =>
    obtain ⟨oc, od, dt, osl⟩ := o
    rw [lk] at hw h5
    cases dt <;> try cases hw
    rename_i fd
    dsimp only at hw h5
    obtain ⟨nm, q, ps, bd, sc, gl, cl, df, kw, doc, pm, an, cd, ct, bl⟩ := fd
    dsimp only at hw h5
    split at h5
    · rename_i cda x cc
      simp only [Bool.and_eq_true] at h5
      obtain ⟨⟨⟨g0, g1⟩, g2⟩, g3⟩ := h5
      have hw' := Option.some.inj hw
      simp only [Prod.mk.injEq, List.map_cons, List.map_nil, List.cons.injEq, and_true] at hw'
      obtain ⟨rfl, rfl, rfl, rfl, rfl, rfl, rfl, rfl⟩ := hw'
      have hdf : df = .none := by cases df <;> first | rfl | cases g0
      subst hdf
      split at g2
      · rename_i ccl cdd vs ccs lc
        split at g2
        · rename_i fs tf ev
          split at g3
          · rename_i cl' cld C' csl lcc
            have eC : C' = He.ga K cls := of_decide_eq_true g3
            subst eC
            exact ⟨oc, od, osl, kw, doc, pm, an, cda, ct, cc, rfl, g1, ⟨ccl, cdd, vs, ccs, fs, tf, lc, ev, g2⟩, cl', cld, csl, lcc⟩
          · cases g3
        · cases g2
      · cases g2
    · cases h5
/-! ### the hook -/
structure HkE where
  fa : List He.Fa
  fn : List He.DefD
  pr : List PrD
  chk : PySem.W.Frag → Bool
  ts : List TabD
  sp : List SupD
  tf : List (Str × Str)
  file : Str
def modsE (g : Addr → Option Obj) : Bool := match g sysModules with
  | some o => (match o.data with | .dict _ _ => true | _ => false)
  | none => false
def tabsE (g : Addr → Option Obj) (tf : List (Str × Str)) (K : PySem.W.Frag) : Bool := (tf.all fun p => PySem.W.codeHdIn K (He.cT K (p.1, none)).1 (He.cT K (p.1, none)).2 && (match g (He.cT K (p.1, none)).2 with
  | some o => He.emptyTab o
  | none => false)) && decide ((tf.map fun p => (He.cT K (p.1, none)).2).Nodup)
abbrev AlE : Type := AlY × Bool × List SupW
namespace HkE
variable (h : HkE)
def obsK (g : Addr → Option Obj) (K : PySem.W.Frag) : AlE := (obsY h.fa h.fn h.pr h.chk h.ts K, ((modsE g && tabsE g h.tf K) && h.sp.all fun d => supOk h.file K d), h.sp.map fun d => supW K d)
def obs (n : Nat) (g : Addr → Option Obj) : AlE := h.obsK g (frE n g)
def val (w : World) : AlE := (((He.valD h.fn, true, h.pr.map fun q : PrD => q.d.val), h.ts.map fun t => some (He.keysIn w.params (tabKeys t))), true, h.sp.map SupD.val)
structure Says (w : World) (hp : Heap) (K : PySem.W.Frag) : Prop where
  y : SaysY h.fa h.fn h.pr h.chk h.ts w K
  sp : ∀ d ∈ h.sp, supOk h.file K d = true ∧ supW K d = d.val
  hd : ∀ p ∈ h.tf, PySem.W.codeHdIn K (He.cT K (p.1, none)).1 (He.cT K (p.1, none)).2 = true
  out : ∀ p ∈ h.tf, K.lookup (He.cT K (p.1, none)).2 = none
  empty : ∀ p ∈ h.tf, hp.get? (He.cT K (p.1, none)).2 = some { cls := .none, data := .fields #[] }
  nd : (h.tf.map fun p => (He.cT K (p.1, none)).2).Nodup
  sm : ∃ o es ep, hp.get? sysModules = some o ∧ o.data = .dict es ep
theorem says_of {n : Nat} {w : World} {hp : Heap} (e : h.obs n hp.get? = h.val w) : h.Says w hp (frE n hp.get?) := by
  unfold obs obsK val at e
  have e1 := congrArg (fun z : AlE => z.1) e
  have e2 := congrArg (fun z : AlE => z.2.1) e
  have e3 := congrArg (fun z : AlE => z.2.2) e
  dsimp only at e1 e2 e3
  generalize hK : frE n hp.get? = K at *
  rw [Bool.and_eq_true] at e2
  obtain ⟨e4, e5⟩ := e2
  rw [Bool.and_eq_true] at e4
  obtain ⟨e0, e4⟩ := e4
  have sm : ∃ o es ep, hp.get? sysModules = some o ∧ o.data = .dict es ep := by
    unfold modsE at e0
    cases q : hp.get? sysModules with
    | none => rw [q] at e0; cases e0
    | some o =>
      rw [q] at e0
      dsimp only at e0
      split at e0
      · rename_i es ep q2
        exact ⟨o, es, ep, rfl, q2⟩
      · cases e0
  unfold tabsE at e4
  rw [Bool.and_eq_true] at e4
  have key : ∀ p ∈ h.tf, PySem.W.codeHdIn K (He.cT K (p.1, none)).1 (He.cT K (p.1, none)).2 = true ∧ ∃ o, hp.get? (He.cT K (p.1, none)).2 = some o ∧ He.emptyTab o = true := fun p hp' => by
    have z := List.all_eq_true.mp e4.1 p hp'
    rw [Bool.and_eq_true] at z
    refine ⟨z.1, ?_⟩
    cases q : hp.get? (He.cT K (p.1, none)).2 with
    | none => rw [q] at z; cases z.2
    | some o => rw [q] at z; exact ⟨o, rfl, z.2⟩
  refine ⟨⟨SaysX.of (congrArg (fun z : AlY => z.1) e1), congrArg (fun z : AlY => z.2) e1⟩, fun d hd => ⟨List.all_eq_true.mp e5 d hd, ?_⟩, fun p hp' => (key p hp').1, fun p hp' => ?_, fun p hp' => ?_, of_decide_eq_true e4.2, sm⟩
  · obtain ⟨i, hi, ed⟩ := List.mem_iff_getElem.mp hd
    have z : (h.sp.map fun d => supW K d)[i]? = (h.sp.map SupD.val)[i]? := congrArg (fun l : List SupW => l[i]?) e3
    rw [List.getElem?_map, List.getElem?_map, List.getElem?_eq_getElem hi, ed] at z
    exact Option.some.inj z
  · obtain ⟨_, o, q, z⟩ := key p hp'
    rw [← hK]
    rw [← hK] at q
    exact He.frT_none q z
  · obtain ⟨_, o, q, z⟩ := key p hp'
    rw [q, He.emptyTab_eq z]
def hook (n : Nat) : PySem.W.Hook where
  α := AlE
  obs := fun s => h.obs n s.heap.get?
  val := fun w => h.val w
  says := fun w hp => ∃ K : PySem.W.Frag, K.In hp ∧ h.Says w hp K
  of := fun _ _ e => ⟨_, He.frT_in, h.says_of e⟩
  keeps := fun _ _ _ ⟨K, hK, c⟩ k => ⟨K, PySem.W.Frag.In.keeps hK k, ⟨c.y, c.sp, c.hd, c.out, fun p hp => k _ _ (c.empty p hp), c.nd, let ⟨o, es, ep, a, b⟩ := c.sm; ⟨o, es, ep, k _ _ a, b⟩⟩⟩
theorem obs_eq {n : Nat} {g : Addr → Option Obj} {s : Shared} (e : ∀ a, g a = s.heap.get? a) : h.obs n g = (h.hook n).obs s := by
  have e : g = s.heap.get? := funext e
  rw [e] <;> rfl
end HkE
/-! ### the end -/
abbrev tabP (K : PySem.W.Frag) (tf : List (Str × Str)) : List (List Addr) := tf.map fun t => [(He.cT K (t.1, none)).2]
abbrev tabS (tf : List (Str × Str)) : Sto := tf.map fun t => .tab t.1 t.2
/-- the tables stand in the ground -/
structure TabsB (base : Heap) (mg : Str → Option Value) (K : PySem.W.Frag) (tf : List (Str × Str)) : Prop where
  tb : ∀ t ∈ tf, LamX.TabB base mg (He.cT K (t.1, none)).1 (He.cT K (t.1, none)).2
  sm : ∃ o, base.get? sysModules = some o
theorem law_GT {P : Program} {w : World} {K : PySem.W.Frag} {mg mb : Str → Option Value} {k : Nat} {fa a : Addr} {fd : FuncData} {x : Str} {g : List D → M D} {s : Shared} {us : List Value} {ns : List Int} {S' : Sto} {tf : List (Str × Str)}
    (kin : K.In s.heap) (gl : s.heap.Ns mainGlobals mg) (bl : s.heap.Ns builtinsNs mb) (bb : ∀ x : Str, x ≠ "__name__" → mb x = bootBuiltins x) (lim : s.heap.NoLimit) (gens : s.gens = #[])
    (hbm : ∃ (bm : Addr) (ob : Obj), mg "__builtins__" = some (.ref bm) ∧ bm ≠ builtinsNs ∧ s.heap.get? bm = some ob ∧ ob.cls = .type "module" ∧ ob.dict = some builtinsNs ∧ ob.data = .plain)
    (hS : ∃ o es ep, s.heap.get? sysModules = some o ∧ o.data = .dict es ep) (hT : ∀ t ∈ tf, s.heap.get? (He.cT K (t.1, none)).2 = some { cls := .none, data := .fields #[] }) (nT : ∀ t ∈ tf, K.lookup (He.cT K (t.1, none)).2 = none) (cT : ∀ t ∈ tf, PySem.W.CodeHd s.heap (He.cT K (t.1, none)).1 (He.cT K (t.1, none)).2) (nd : (tf.map fun t => (He.cT K (t.1, none)).2).Nodup)
    (ha : s.heap.get? a = some { cls := .type "list", data := .seq us.toArray }) (hi : IntsAre us ns) (hl : ns.length ≤ sizeLine) (hr : Room k callerA)
    (F : ∀ base : Heap, K.In base → base.Ns mainGlobals mg → TabsB base mg K tf → FnD P w K mg base k fa fd [x] g) (bd : ∀ (s : Shared) (u : Value), BindsTo s fd ⟨[u], []⟩ [(x, u)]) (hm : g [.scr ns] (tabS tf) = .ok (.bl true) S') :
    codeAny (model P w) callerA (.call (.ref fa) ⟨[.ref a], []⟩) (fun r s' => r = .ok (.ret (.bool true)) ∧ OldK s.heap s'.heap ∧ s'.os = s.os ∧ AllBare s'.gens) s := by
  have rv := vals_ints hi
  -- the addresses of the tables
  let Ts : List Addr := tf.map fun t => (He.cT K (t.1, none)).2
  have inT : ∀ b, b ∈ Ts → ∃ t ∈ tf, (He.cT K (t.1, none)).2 = b := fun b hb => List.mem_map.mp hb
  have tIn : ∀ t ∈ tf, (He.cT K (t.1, none)).2 ∈ Ts := fun t ht => List.mem_map.mpr ⟨t, ht, rfl⟩
  have atT : ∀ b, b ∈ Ts → s.heap.get? b = some { cls := .none, data := .fields #[] } := fun b hb => by
    obtain ⟨t, ht, rfl⟩ := inT b hb
    exact hT t ht
  have aT : a ∉ Ts := fun z => by
    have q := atT a z
    rw [ha] at q
    have q2 : Data.seq us.toArray _ = Data.fields #[] := congrArg Obj.data (Option.some.inj q)
    cases q2
  -- G: what is frozen (the script, if K does not tell it)
  have main : ∀ G : Hp, (∀ b o, G b = some o → b = a ∧ o = .frz { cls := .type "list", data := .seq us.toArray } (.lst (ns.map V.int))) → SqL K G a (ns.map V.int) → (G a ≠ none → K.lookup a = none) →
      codeAny (model P w) callerA (.call (.ref fa) ⟨[.ref a], []⟩) (fun r s' => r = .ok (.ret (.bool true)) ∧ OldK s.heap s'.heap ∧ s'.os = s.os ∧ AllBare s'.gens) s := by
    intro G only seq far
    have gT : ∀ b, b ∈ Ts → G b = none := fun b hb => by
      cases q : G b with
      | none => rfl
      | some o => obtain ⟨rfl, _⟩ := only b o q; exact absurd hb aT
    let H : Hp := fun b => if b ∈ Ts then some (.tbl #[]) else G b
    have hTb : ∀ b, b ∈ Ts → H b = some (.tbl #[]) := fun b hb => if_pos hb
    have hNo : ∀ b, b ∉ Ts → H b = G b := fun b hb => if_neg hb
    have sm : Same G H := fun b o e => by
      have : b ∉ Ts := fun z => by rw [gT b z] at e; cases e
      rw [hNo b this]; exact e
    have hok : HOk P w H s.heap := fun b o e => by
      by_cases z : b ∈ Ts
      · rw [hTb b z] at e
        cases e
        exact atT b z
      · rw [hNo b z] at e
        obtain ⟨rfl, rfl⟩ := only b o e
        exact ⟨ha, by rw [List.length_map]; exact hl, us, _, rv, ha⟩
    have free : ∀ {b : Addr} {o : Obj}, s.heap.get? b = some o → (∀ vs n, o.data ≠ .seq vs n) → o.data ≠ .fields #[] → H b = none := fun {b o} e h1 h2 => by
      by_cases z : b ∈ Ts
      · rw [atT b z] at e
        cases e
        exact absurd rfl h2
      · rw [hNo b z]
        cases q : G b with
        | none => rfl
        | some u =>
          obtain ⟨rfl, _⟩ := only b u q
          rw [ha] at e
          cases e
          exact absurd rfl (h1 _ _)
    have nsK : ∀ {b : Addr} {m : Str → Option Value}, s.heap.Ns b m → (hidT s.heap H).Ns b m := fun {b m} h => by
      obtain ⟨o, es, ep, e, d, rest⟩ := h
      exact ⟨o, es, ep, hidT_get e (free e (fun _ _ z => by rw [d] at z; cases z) fun z => by rw [d] at z; cases z), d, rest⟩
    have kb : K.In (hidT s.heap H) := fun b o e => by
      refine hidT_get (kin b o e) ?_
      by_cases z : b ∈ Ts
      · obtain ⟨t, ht, rfl⟩ := inT b z
        rw [nT t ht] at e; cases e
      · rw [hNo b z]
        cases q : G b with
        | none => rfl
        | some u =>
          obtain ⟨rfl, _⟩ := only b u q
          rw [far (by rw [q]; simp)] at e
          cases e
    obtain ⟨mc, l1, l2⟩ := lim
    have hM : Mod K mg (hidT s.heap H) := ⟨kb, nsK gl, ⟨mb, nsK bl, bb⟩, ⟨mc, nsK l1, l2⟩⟩
    have TB0 : ∀ t ∈ tf, LamX.TabB (hidT s.heap H) mg (He.cT K (t.1, none)).1 (He.cT K (t.1, none)).2 := fun t ht => by
      refine ⟨?_, ?_, fun z => ?_⟩
      · obtain ⟨o, vs, f1, f2, f3, f4, f5, f6, f7, c1, c2, c3, c4⟩ := cT t ht
        exact ⟨o, vs, f1, f2, f3, f4, f5, f6, f7, hidT_get c1 (free c1 (fun _ _ z => by rw [c3] at z; cases z) fun z => by rw [c3] at z; cases z; simp at c4), c2, c3, c4⟩
      · obtain ⟨bm, ob, b1, b2, b3, b4, b5, b6⟩ := hbm
        refine ⟨bm, ob, b1, b2, fun q => ?_, fun q => ?_, hidT_get b3 (free b3 (fun _ _ z => by rw [b6] at z; cases z) fun z => by rw [b6] at z; cases z), b4, b5, b6⟩
        · obtain ⟨o, es, ep, e, d, _⟩ := gl
          rw [q, e] at b3
          cases b3
          rw [d] at b6; cases b6
        · rw [q, hT t ht] at b3
          cases b3
          cases b6
      · obtain ⟨o, es, ep, e, d, _⟩ := gl
        rw [z, hT t ht] at e
        cases e
        cases d
    have TB : TabsB (hidT s.heap H) mg K tf := ⟨TB0, by
      obtain ⟨o, es, ep, q1, q2⟩ := hS
      exact ⟨o, hidT_get q1 (free q1 (fun _ _ z => by rw [q2] at z; cases z) fun z => by rw [q2] at z; cases z)⟩⟩
    have e0 : Env0 P w K mg (hidT s.heap H) callerA [] s H := ⟨rfl, hM, fun b o e => of_hidT e, Nat.le_of_eq (hidT_size _ _), trivial, (fun b hb => nomatch (show b ∈ ([] : List Addr) from hb)), hok, AllBare.of_eq gens⟩
    have fl : (tabP K tf).flatten = Ts := by
      show (tf.map fun t => [(He.cT K (t.1, none)).2]).flatten = tf.map _
      clear hTb hNo sm hok free nsK kb hM TB TB0 e0 hm F nd hT nT cT inT tIn atT aT gT
      induction tf with
      | nil => rfl
      | cons t r ih => simp only [List.map_cons, List.flatten_cons, ih, List.singleton_append]
    have want : spD K 1 g [.ref a] H (fun v _ => v = .bl true) fun _ _ _ => False := by
      refine ⟨[.scr ns], tabP K tf, G, tabS tf, rfl, DenL.one ⟨a, rfl, seq⟩, ⟨sm, by simp, fun i as o e1 e2 => ?_, by rw [fl]; exact nd, fun b hb => gT b (by rw [← fl]; exact hb)⟩, ?_⟩
      · rw [List.getElem?_map] at e1 e2
        cases q : tf[i]? with
        | none => rw [q] at e1; cases e1
        | some t =>
          rw [q] at e1 e2
          cases e1
          cases e2
          exact ⟨rfl, #[], hTb _ (tIn t (List.mem_of_getElem? q)), trivial, fun pos cv z => by cases z⟩
      · rw [hm]
        exact fun v p' G' H' dv _ _ => dv
    refine codeAny_mono ((F _ kb (nsK gl) TB).go callerA [] s H ⟨[.ref a], []⟩ [.ref a] [.ref a] _ _ rfl hr e0 (bd s (.ref a)) (.cons rfl .nil) want) fun r s2 q => ?_
    match r, q with
    | .error e, q =>
      obtain ⟨_, _, _, _, _, _, _, _, _, _, _, _, z⟩ := q
      exact z.elim
    | .ok .next, q => exact False.elim q
    | .ok .brk, q => exact False.elim q
    | .ok .cont, q => exact False.elim q
    | .ok (.ret u), ⟨v, H', os, bare, un, hok', r', q⟩ =>
      have q' : v = .bl true := q
      subst q'
      cases (show u = Value.bool true from r')
      have stay : ∀ b o, b ∉ Ts → s.heap.get? b = some o → s2.heap.get? b = some o := fun b o nb e => by
        cases q : H b with
        | none => exact un.keep b o e q (fun z => nomatch (show b ∈ ([] : List Addr) from z)) (by simp)
        | some z =>
          rw [hNo b nb] at q
          obtain ⟨rfl, rfl⟩ := only b z q
          obtain ⟨e2, _⟩ := hok' b _ (un.frzs b _ _ (by rw [hNo b nb]; exact q))
          rw [ha] at e
          cases e
          exact e2
      have more : ∀ b, b ∈ Ts → ∃ vs : Array Value, s2.heap.get? b = some { cls := .none, data := .fields vs } := fun b hb => by
        obtain ⟨m, z⟩ := un.tbls b #[] (hTb b hb)
        exact ⟨_, hok' b _ z⟩
      refine ⟨rfl, ⟨fun b o e => ?_, fun b o e => ?_⟩, os, bare⟩
      · by_cases hb : b ∈ Ts
        · obtain ⟨vs, e2⟩ := more b hb
          obtain ⟨t, ht, rfl⟩ := inT b hb
          rw [hT t ht] at e
          cases e
          exact .inr (.inl ⟨((cT t ht).tab (hT t ht)).isCodeTable, rfl, #[], vs, rfl, by rw [Array.empty_append]; exact e2⟩)
        · exact .inl (stay b o hb e)
      · by_cases hb : b ∈ Ts
        · obtain ⟨vs, e2⟩ := more b hb
          exact ⟨_, e2⟩
        · exact ⟨o, stay b o hb e⟩
  cases hk : K.lookup a with
  | some o =>
    have e := kin a o hk
    rw [ha] at e
    cases e
    exact main (fun _ => none) (fun b o z => nomatch (show (none : Option HO) = some o from z)) (.inr ⟨_, us.toArray, _, hk, rfl, rfl, rfl, by rw [List.size_toArray, hi.length]; exact hl, by simpa using rv⟩) fun z => absurd rfl z
  | none =>
    refine main (fun b => if b = a then some (.frz { cls := .type "list", data := .seq us.toArray } (.lst (ns.map V.int))) else none) (fun b o z => ?_) (.inl (.inr ⟨_, if_pos rfl⟩)) fun _ => hk
    by_cases hb : b = a
    · have z' := (if_pos hb).symm.trans z
      cases z'
      exact ⟨hb, rfl⟩
    · have z' := (if_neg hb).symm.trans z
      cases z'
/-- a law row by its mirror, with tables -/
theorem walk_GT {l : PySem.W.OpenLaw} {n k : Nat} {q : Program} {loose : List Str} {XP : (Str → Option Value) → Heap → Prop} {YP : World → Heap → Prop} {d : DefRec} {x : Str} {g : List D → M D} {tf : List (Str × Str)}
    (hn : l.most = some n) (hn2 : n ≤ sizeLine) (hdf : d.params.defaults = []) (hr : Room k callerA)
    (F : ∀ (w : World) (mg : Str → Option Value) (fa : Addr) (h : Heap), YP w h → h.Ns mainGlobals mg → mg d.name = some (.ref fa) →
      ∃ (K : PySem.W.Frag) (fd : FuncData), K.In h ∧ (∃ o es ep, h.get? sysModules = some o ∧ o.data = .dict es ep) ∧ (∀ t ∈ tf, h.get? (He.cT K (t.1, none)).2 = some { cls := .none, data := .fields #[] }) ∧ (∀ t ∈ tf, K.lookup (He.cT K (t.1, none)).2 = none) ∧ (∀ t ∈ tf, PySem.W.CodeHd h (He.cT K (t.1, none)).1 (He.cT K (t.1, none)).2) ∧ (tf.map fun t => (He.cT K (t.1, none)).2).Nodup ∧
        (∀ (s : Shared) (u : Value), BindsTo s fd ⟨[u], []⟩ [(x, u)]) ∧ ∀ base : Heap, K.In base → base.Ns mainGlobals mg → TabsB base mg K tf → FnD l.prog w K mg base k fa fd [x] g)
    (law : ∀ ns : List Int, ns.length ≤ n → (∀ z ∈ ns, Builtin.Int.intBits z ≤ 1048576) → ∃ S', g [.scr ns] (tabS tf) = .ok (.bl true) S') :
    PySem.W.WalkO q loose XP YP l.row.toRowW d [] (fun f vs => PySem.call f vs) := by
  refine Att.attach_callB hn hdf fun w s₀ s₁ mg mb fa o pm cd doc a vs ns G Y ho hd hcd hmg hobj hints hlen hbits hg => ?_
  obtain ⟨K, fd, kin, hS, hT, nT, cT, nd, hb, hF⟩ := F w mg fa _ Y G.T.g hmg
  obtain ⟨S', e⟩ := law ns hlen hbits
  exact law_GT kin G.T.g G.T.b G.T.builtins G.T.nolimit hg G.T.bmain hS hT nT cT nd hobj hints (Nat.le_trans hlen hn2) hr hF hb e
end RM

/-! RE: a def that makes lambdas; the plain side of what is caught. -/
namespace RM
open PySem PySem.Spec PyProof.Rows L2
section
variable {P : Program} {w : World} {K : PySem.W.Frag} {mg : Str → Option Value} {base : Heap} {x qual : Str} {params : Arguments} {body : List Stmt} {scope : Scope} {dvs : List V} {kws : List (Str × V)} {fd : FuncData}
/-- by its body, its code object known -/
theorem fnG_ofC {n : Str} {N ps : List Str} {k : Nat} {sp : Sp} (F : FunD K x qual params body scope dvs kws (He.ga K n) fd) (S : FnScope N ps scope) (ar : ∀ vs H Q E, sp vs H Q E → vs.length = ps.length)
    (hb : ∀ (A : Around) (fr : List Env) (s : Shared) (H : Hp) (vs : List V) (Q : VK) (E : XK), (A.deeper (envOfC qual scope s.heap.objs.size (He.ga K n) (.ref (He.cT K (n, none)).1))).guards = some [] → Room k (A.deeper (envOfC qual scope s.heap.objs.size (He.ga K n) (.ref (He.cT K (n, none)).1))) → sp vs H Q E →
      ∃ t, PSs (cxOf (L2.CX P w) P w K mg base N qual scope (He.ga K n) (.ref (He.cT K (n, none)).1) A fr s H E) body t ∧ t { nx := fun _ H' => Q .non H', rt := Q } (L2.start N vs) H) : FnG P w K mg base (k + 1) (He.ga K n) fd ps sp := by
  obtain ⟨oc, od, dV, kV, doc, pm, an, cdv, ct, osl, rfl, lk, hcd, _, _⟩ := F.ex
  have ec : cdv = .ref (He.cT K (n, none)).1 := by
    obtain ⟨c, e⟩ := He.codeIn_ref hcd
    subst e
    have := He.codeOf_eq (p := (n, none)) lk rfl
    show Value.ref c = Value.ref (He.codeOf K (n, none))
    rw [this]
  subst ec
  refine ⟨ar, fun A fr s H arg us vs Q E hG hr e0 bd r hsp => ?_⟩
  have kin : K.In s.heap := e0.mod.kin.keeps fun b o e => (e0.bs b o e).1
  have nol : s.heap.NoLimit := e0.mod.nolimit.keeps fun b o e => (e0.bs b o e).1
  have kinds : ∀ z ∈ ps.zip us, scope.names.lookup z.1 = some .local ∨ (scope.names.lookup z.1 = some .cell ∧ ((cellsFrom (s.heap.objs.size + 1) scope.names []).lookup z.1).isSome = true) := by
    intro ⟨n, v⟩ hz
    have hn := (List.of_mem_zip hz).1
    cases S.par n hn with
    | inl q => exact Or.inl q
    | inr q => exact Or.inr ⟨q, PySem.W.cellsFrom_some _ _ _ (.inl q)⟩
  refine codeAny_call_function hr.depth (kin _ _ lk) rfl S.co S.gen rfl (PySem.W.codeRec_of kin hcd) (bd _ _ _ _ ?_)
  refine wpAny_newFunctionEnv_cells S.kind kinds fun env henv s1 inc => ?_
  subst henv
  refine ⟨nol.keeps inc.toInCall.keep, codeAny_func ?_⟩
  obtain ⟨t, ht, hq⟩ := hb A fr s H vs Q E hG (hr.deeper _) hsp
  have I0 := inv_start (CX := L2.CX P w) (E := E) S hr.hd e0 (ar _ _ _ _ hsp) r inc
  refine wpAny_mono (ht.run [] s1 _ H _ I0 hq) (fun fl s2 q => ?_) fun e s2 q => q
  match fl, q with
  | .ret u, ⟨v, σ2, H2, J, rv, q⟩ => exact ⟨v, H2, J.os, J.bare, J.base, J.hok, rv, q⟩
  | .next, ⟨σ2, H2, J, q⟩ => exact ⟨.non, H2, J.os, J.bare, J.base, J.hok, rfl, q⟩
  | .brk, ⟨_, _, _, q⟩ => exact False.elim q
  | .cont, ⟨_, _, _, q⟩ => exact False.elim q
theorem fnX_ofC {n : Str} {N ps : List Str} {k : Nat} {gf : List D → M D} (F : FunD K x qual params body scope dvs kws (He.ga K n) fd) (S : FnScope N ps scope)
    (hb : ∀ (A : Around) (fr : List Env) (s : Shared) (H : Hp) (E : L2.XK), BodyX (cxOf (L2.CX P w) P w K mg base N qual scope (He.ga K n) (.ref (He.cT K (n, none)).1) A fr s H E) k E → ∀ ds : List D, ds.length = ps.length → XS (cxOf (L2.CX P w) P w K mg base N qual scope (He.ga K n) (.ref (He.cT K (n, none)).1) A fr s H E) E (startD N.length ds) IB body (gf ds)) :
    FnD P w K mg base (k + 1) (He.ga K n) fd ps gf := by
  refine fnG_ofC F S (fun vs H Q E h => spD.len vs H Q _ h) fun A fr s H vs Q E hG hr h => ?_
  obtain ⟨ds, p, G, St, e, dn, r, h⟩ := h
  refine ⟨_, hb A fr s H E ⟨hr, hG, takes_of rfl rfl rfl rfl, passes_of rfl, rfl⟩ ds e, ?_⟩
  refine ⟨⟨p, G, H, p, G⟩, p, G, St, [], ⟨⟨r, ?_, by simpa using r.nd, by simp⟩, Ext.refl _ _ _, by simp, ⟨[], by simp⟩, Same.refl _⟩, ?_⟩
  · unfold L2.start startD
    rw [← dn.length]
    exact slots_start dn
  · cases em : gf ds St with
    | stuck => rw [em] at h; exact h
    | exc z S' => rw [em] at h; exact h
    | ok d S' =>
      rw [em] at h
      rintro c (rfl | ⟨rfl, t, rfl⟩)
      · exact h
      · exact fun p' G' H' σ' ow' r' => h .non p' G' H' rfl r'.rs.rel r'.ext
end
theorem BodyX.mono {X : Cx} {k j : Nat} {W : Wf} (B : BodyX X k W) (h : j ≤ k) : BodyX X j W := ⟨B.room.mono h, B.gd, B.tk, B.po, B.calm⟩
/-! ### plain -/
section
variable [Pre]
theorem HT.tab {α : Type} {n j : Nat} {nm q : Str} {m : M α} {P : α → Prop} (h : HT n m P) (hp : (Pre.pre : Sto)[j]? = some (.tab nm q) := by rfl) : HT n (tabbed j nm q m) P := by
  intro t ht hn
  obtain ⟨a, t', e, r⟩ := h t ht hn
  refine ⟨a, t', ?_, r⟩
  unfold tabbed
  have e2 : (onT t)[j]? = some (.tab nm q) := by
    show (Pre.pre ++ [MO.tape t])[j]? = _
    rw [List.getElem?_append_left (List.getElem?_eq_some_iff.mp hp).1]; exact hp
  rw [e2]
  dsimp only
  rw [if_pos ⟨rfl, rfl⟩]
  exact e
end
@[simp] theorem tryM_pure (z0 y0 : D) (cs : List Str) (d : D) : tryM z0 y0 cs (pure d) = pure (d, y0) := Eq.trans rfl rfl
@[simp] theorem tryE_pure (y0 : D) (cs : List Str) (d : D) : tryE y0 cs (pure d) = pure y0 := Eq.trans rfl rfl
theorem tryM_exc {z0 y0 : D} {cs : List Str} {e : Exc} (h : e.cls ∈ cs) : tryM z0 y0 cs (raise e) = pure (z0, .xcp e.cls e.ns e.fs) := by
  funext S
  exact if_pos h
theorem tryE_exc {y0 : D} {cs : List Str} {e : Exc} (h : e.cls ∈ cs) : tryE y0 cs (raise e) = pure (.xcp e.cls e.ns e.fs) := by
  funext S
  exact if_pos h
theorem isiE_non {ex : List Str} {t : Ty} (h : tyE ex t = true) : isiE ex t .non = pure (.bl false) := if_pos h
theorem isiE_xcp {ex : List Str} {t : Ty} {c : Str} {ns : List Str} {fs : List D} (h : c ∈ ex ∧ tyE ex t = true) : isiE ex t (.xcp c ns fs) = pure (.bl (subE c t)) := if_pos h
theorem fldE_xcp {ex : List Str} {tb : List (Str × Str)} {f c : Str} {ns : List Str} {fs : List D} {d : D} (h : c ∈ ex ∧ (c, f) ∈ tb) (hl : lookF ns fs f = some d) : fldE ex tb f (.xcp c ns fs) = pure d := by
  funext S
  show (if c ∈ ex ∧ (c, f) ∈ tb then match lookF ns fs f with | some x => Res.ok x S | none => .stuck else .stuck) = _
  rw [if_pos h, hl]; rfl
end RM

/-! RQ: own == and != of an instance against anything. -/
namespace RM
open PySem PySem.Spec PyProof.Rows L2
section
variable {prog : Program} {w : World} {A : Around} {E : Value → Shared → Prop} {s : Shared} {K : PySem.W.Frag} {x C f : Addr} {ox : Obj} {od : Option Obj} {b tb : Value}
theorem ifBound_ne {M : Model} {args : List Value} {Q : Option Value → Shared → Prop} (X : K.In s.heap) (I : PySem.W.InstAt s.heap x ox C od) (hs : PySem.W.findIn K (.ref C) "__ne__" = some (some (.builtin "object.__ne__")))
    (h : wpAny M A (call (.builtin "object.__ne__") (.ref x :: args)) (fun v => Q (some v)) E s) : wpAny M A (callSpecialIfBound? (.ref x) "__ne__" args) Q E s := by
  simp only [callSpecialIfBound?, bindSpecialIfBound?]
  refine wpAny_holding (wpAny_bind (wpAny_bind (wpAny_bind (I.type.here ((PySem.W.looks_findIn X hs).here ?_)))))
  refine wpAny_bind (wpAny_askSetting (wpAny_ite ?_))
  have fin : wpAny M A (call (.builtin "object.__ne__") ([.ref x] ++ args) >>= fun v => pure (some v)) Q E s := wpAny_bind (wpAny_mono h (fun v s' h' => wpAny_pure h') fun _ _ h' => h')
  rw [PySem.F.slot_tuple_iterator_ne.bind]
  split
  · exact wpAny_bind (wpAny_pure (wpAny_pure (by exact fin)))
  · exact wpAny_tryCatch (wpAny_bind (wpAny_pure (wpAny_pure (by exact fin))))
theorem objNe_K (hu : A.units < cLine) (X : K.In s.heap) (I : PySem.W.InstAt s.heap x ox C od) (he : PySem.W.findIn K (.ref C) "__eq__" = some (some (.ref f))) (hf : PySem.W.isFn K (.ref f) = true) {Q : Fin → Shared → Prop}
    (hcall : wpAny (model prog w) A (call (.ref f) [.ref x, b]) (fun v s' => ∃ y, v = .bool y ∧ Q (.done (.ret (.bool (!y)))) s') E s) : wpAny (model prog w) A (Builtin.«object.__ne__» ⟨[.ref x, b], []⟩) Q E s := by
  unfold Builtin.«object.__ne__»
  repeat (first
    | with_reducible refine wpAny_cRoomFor hu ?_
    | (refine wpAny_bind (m := callSpecialIfBound? (.ref x) (Str.ofString "__eq__") [b])
        (PySem.W.ifBound_K X I he hf (wpAny_mono hcall (fun r s' hr => by
          obtain ⟨b, rfl, hq⟩ := hr
          repeat (first | exact hq | exact wpAny_pure hq | exact wpAny_truthy_bool hq | (refine wpAny_bind (m := truthy (.bool _)) (wpAny_truthy_bool ?_)) | wp_step)) fun _ _ e => e)))
    | wp_step)
theorem ne_K {Q : Value → Shared → Prop} (hu : A.units + 1 < cLine) (X : K.In s.heap) (I : PySem.W.InstAt s.heap x ox C od) (hb : PySem.W.Looks (model prog w) s.heap (typeOf b) tb) (hn : PySem.W.notFirst K C tb = true) (hs : PySem.W.findIn K (.ref C) "__ne__" = some (some (.builtin "object.__ne__"))) (ho : PySem.W.mroIn K C (.type "object") = some true)
    (he : PySem.W.findIn K (.ref C) "__eq__" = some (some (.ref f))) (hf : PySem.W.isFn K (.ref f) = true)
    (h : wpAny (model prog w) A.in1 (call (.ref f) [.ref x, b]) (fun v s' => ∃ y, v = .bool y ∧ Q (.bool (!y)) s') E s) : wpAny (model prog w) A (richCompare .NotEq (.ref x) b) Q E s := by
  have one : wpAny (model prog w) A (tryCompare (.ref x) "__ne__" b) (fun r s' => ∃ v, r = some v ∧ Q v s') E s := by
    unfold tryCompare
    refine wpAny_bind (ifBound_ne X I hs (wpAny_call (codeAny_call_builtin PySem.F.slot_tuple_iterator_ne.plain PySem.F.cmpEntry_ne
      (PySem.W.check_slot PySem.F.cmpKind_ne PySem.F.cmpSplit_ne (I.type.andThen (PySem.W.looks_mroIn X ho)) (PySem.F.cmpArgs_ne _ _) (objNe_K (A := A.in1) hu X I he hf (wpAny_mono h (fun v s' hv => ?_) fun _ _ e => e))))))
    obtain ⟨y, rfl, hq⟩ := hv
    exact ⟨y, rfl, wpAny_pure ⟨_, rfl, hq⟩⟩
  unfold richCompare
  simp only [oneThing_ref]
  refine wpAny_holding (wpAny_bind (wpAny_cRoomFor (Nat.lt_of_succ_lt hu) ?_))
  rw [cmpInfo_NotEq]
  dsimp only
  refine wpAny_bind (I.type.here (wpAny_bind (hb.here ?_)))
  split
  · rename_i q
    have e : PySem.W.subIn K tb (.ref C) = some false := by
      rcases Bool.or_eq_true_iff.mp hn with e | e
      · rw [beq_iff_eq.mp e] at q; simp at q
      · exact beq_iff_eq.mp e
    refine wpAny_bind ((PySem.W.looks_subIn X e).here ?_)
    simp only [Bool.false_eq_true, if_false]
    refine wpAny_bind (wpAny_mono one (fun r s' z => ?_) fun _ _ e => e)
    obtain ⟨v, rfl, hq⟩ := z
    exact wpAny_pure hq
  · refine wpAny_bind (wpAny_pure ?_)
    simp only [Bool.false_eq_true, if_false]
    refine wpAny_bind (wpAny_mono one (fun r s' z => ?_) fun _ _ e => e)
    obtain ⟨v, rfl, hq⟩ := z
    exact wpAny_pure hq
end
/-! ### the head's facts -/
def nfB (K : PySem.W.Frag) (cs eq : List Str) : Bool := eq.all fun c => (builtinKinds.all fun n => PySem.W.notFirst K (He.ga K c) (.type n)) && (cs.all fun e => PySem.W.notFirst K (He.ga K c) (.ref (He.ga K e))) &&
  He.eqO (PySem.W.findIn K (.ref (He.ga K c)) "__ne__") (some (some (.builtin "object.__ne__"))) && decide (PySem.W.mroIn K (He.ga K c) (.type "object") = some true)
structure NfT (K : PySem.W.Frag) (cs eq : List Str) : Prop where
  nb : ∀ c ∈ eq, ∀ n ∈ builtinKinds, PySem.W.notFirst K (He.ga K c) (.type n) = true
  no : ∀ c ∈ eq, ∀ e ∈ cs, PySem.W.notFirst K (He.ga K c) (.ref (He.ga K e)) = true
  ne : ∀ c ∈ eq, PySem.W.findIn K (.ref (He.ga K c)) "__ne__" = some (some (.builtin "object.__ne__"))
  ob : ∀ c ∈ eq, PySem.W.mroIn K (He.ga K c) (.type "object") = some true
theorem nfB_ok {K : PySem.W.Frag} {cs eq : List Str} (h : nfB K cs eq = true) : NfT K cs eq := by
  have k : ∀ c ∈ eq, _ := fun c hc => List.all_eq_true.mp h c hc
  simp only [Bool.and_eq_true, List.all_eq_true, decide_eq_true_eq] at k
  exact ⟨fun c hc => (k c hc).1.1.1, fun c hc => (k c hc).1.1.2, fun c hc => He.eqO_ok (k c hc).1.2, fun c hc => (k c hc).2⟩
theorem NfT.at_ {K : PySem.W.Frag} {cs eq : List Str} (N : NfT K cs eq) {c : Str} (hc : c ∈ eq) {k : Ty} (hk : kindOk cs k = true) : PySem.W.notFirst K (He.ga K c) (tyVal K k) = true := by
  cases k with
  | b n => exact N.nb c hc n (of_decide_eq_true hk)
  | o e => exact N.no c hc e (of_decide_eq_true hk)
/-! ### == and != -/
def eqY (cs eq : List Str) (T : MT) (d e : D) : M D := match d with
  | .ins c ns fs => match T.lookup c, kindD e with
    | some h, some k => if kindOk cs k = true ∧ c ∈ eq then B (h (.ins c ns fs) e) fun r => B (asB r) fun b => pure (.bl b) else stuck
    | _, _ => stuck
  | d => eqD d e
def neY (cs eq : List Str) (T : MT) (d e : D) : M D := match d with
  | .ins c ns fs => match T.lookup c, kindD e with
    | some h, some k => if kindOk cs k = true ∧ c ∈ eq then B (noE (h (.ins c ns fs) e)) fun r => B (asB r) fun b => pure (.bl (!b)) else stuck
    | _, _ => stuck
  | d => neD d e
section
variable {X : Cx} {V : Wf} {k : Nat} {T : MT} {cs eq : List Str}
theorem eqY_split {K : PySem.W.Frag} {p : List (List Addr)} {G H : Hp} {S : Sto} {Q : VK} {d e : D} (h : okR (Den K) K p G H V (eqY cs eq T d e S) Q) : (∃ c ns fs m ke, d = .ins c ns fs ∧ T.lookup c = some m ∧ kindD e = some ke ∧ kindOk cs ke = true ∧ c ∈ eq ∧ okR (Den K) K p G H V (m d e S) fun r H' => ∃ b, r = .bl b ∧ Q (.bl b) H') ∨ okR (Den K) K p G H V (eqD d e S) Q := by
  cases d <;> try exact .inr h
  rename_i c ns fs
  unfold eqY at h
  dsimp only at h
  cases el : T.lookup c with
  | none => rw [el] at h; exact h.elim
  | some m =>
    rw [el] at h
    cases ek : kindD e with
    | none => rw [ek] at h; exact h.elim
    | some ke =>
      rw [ek] at h
      dsimp only at h
      by_cases q : kindOk cs ke = true ∧ c ∈ eq
      · rw [if_pos q] at h
        refine .inl ⟨_, _, _, m, ke, rfl, el, rfl, q.1, q.2, ?_⟩
        have h : okR (Den K) K p G H V ((m (.ins c ns fs) e >>= fun r => asB r >>= fun b => pure (.bl b)) S) Q := h
        refine okR.seq h fun r S1 v p1 G1 H1 e1 dn r1 x1 h1 => ?_
        cases r <;> try exact h1.elim
        rename_i b
        cases (show v = .bl b from dn)
        exact ⟨b, rfl, okR.fin (d := D.bl b) (v := L2.V.bl b) h1 rfl r1⟩
      · rw [if_neg q] at h; exact h.elim
theorem neY_split {K : PySem.W.Frag} {p : List (List Addr)} {G H : Hp} {S : Sto} {Q : VK} {d e : D} (h : okR (Den K) K p G H V (neY cs eq T d e S) Q) : (∃ c ns fs m ke, d = .ins c ns fs ∧ T.lookup c = some m ∧ kindD e = some ke ∧ kindOk cs ke = true ∧ c ∈ eq ∧ okR (Den K) K p G H (fun _ _ _ => False) (m d e S) fun r H' => ∃ b, r = .bl b ∧ Q (.bl (!b)) H') ∨ okR (Den K) K p G H V (neD d e S) Q := by
  cases d <;> try exact .inr h
  rename_i c ns fs
  unfold neY at h
  dsimp only at h
  cases el : T.lookup c with
  | none => rw [el] at h; exact h.elim
  | some m =>
    rw [el] at h
    cases ek : kindD e with
    | none => rw [ek] at h; exact h.elim
    | some ke =>
      rw [ek] at h
      dsimp only at h
      by_cases q : kindOk cs ke = true ∧ c ∈ eq
      · rw [if_pos q] at h
        refine .inl ⟨_, _, _, m, ke, rfl, el, rfl, q.1, q.2, ?_⟩
        have h : okR (Den K) K p G H V ((noE (m (.ins c ns fs) e) >>= fun r => asB r >>= fun b => pure (.bl (!b))) S) Q := h
        refine okR.noE (okR.seq h fun r S1 v p1 G1 H1 e1 dn r1 x1 h1 => ?_)
        cases r <;> try exact h1.elim
        rename_i b
        cases (show v = .bl b from dn)
        exact ⟨b, rfl, okR.fin (d := D.bl (!b)) (v := L2.V.bl (!b)) h1 rfl r1⟩
      · rw [if_neg q] at h; exact h.elim
theorem own_run1 {c m : Str} {h : D → D → M D} (hT : AllM X k m T) (hl : T.lookup c = some h) (hr : Room (k + 1) X.A) (hG : X.A.guards = some []) {pins : List (Addr × Obj)} {s : Shared} {σ : L2.St} {H : Hp} {d e : D} {v u : L2.V} {uu : Value} {p : List (List Addr)} {G : Hp} {S : Sto} {Q : VK} {ns : List Str} {fs : List D}
    (I : Inv X pins σ H s) (hd : d = .ins c ns fs) (dn : Den X.K p G d v) (den : Den X.K p G e u) (ru : RelV u uu) (r : Rel0 X.K p S G H) (hq : okR (Den X.K) X.K p G H (fun _ _ _ => False) (h d e S) Q) :
    ∃ f a dx xs, v = .ref a ∧ H a = some (.ins (He.ga X.K c) dx xs) ∧ Cls X.K (He.ga X.K c) ∧ Meth X.K (He.ga X.K c) m f ∧ wpAny (model X.prog X.w) X.A.in1 (call (.ref f) [.ref a, uu]) (EP X pins σ Q) X.xe s := by
  obtain ⟨f, fd, ps, M, hps, hb⟩ := hT.get hl
  subst hd
  obtain ⟨a, dx, vs, rfl, ha, hn⟩ := id dn
  have q1 : spD X.K ps.length (l2 h) [.ref a, u] H Q fun _ _ _ => False := ⟨[.ins c ns fs, e], p, G, S, hps.symm, DenL.cons dn (DenL.one den), r, hq⟩
  have bd : BindsTo s fd ⟨[.ref a, uu], []⟩ (ps.zip [.ref a, uu]) := by
    have := hb s [.ref a, uu] I.kIn (by rw [List.append_nil]; exact hps.symm)
    rwa [List.append_nil] at this
  refine ⟨f, a, dx, _, rfl, r.sub _ _ ha, M.cl, M.me, wpAny_call (codeAny_mono (M.fn.go X.A.in1 X.stack s H ⟨[.ref a, uu], []⟩ [.ref a, uu] [.ref a, u] Q (fun _ _ _ => False) hG hr.in1 I.env0.in1 bd (.cons rfl (.cons ru .nil)) q1) fun rr s' hz => ?_)⟩
  cases rr with
  | error er =>
    obtain ⟨_, _, _, _, _, _, _, _, _, _, _, _, z⟩ := hz
    exact z.elim
  | ok fl =>
    cases fl with
    | ret u => exact I.after hz
    | next => exact False.elim hz
    | brk => exact False.elim hz
    | cont => exact False.elim hz
theorem op_eqY (hu : X.A.units + 64 < cLine) (C : ClsT X.K cs) (N : NfT X.K cs eq) (hT : AllM X k "__eq__" T) (hr : Room k X.A) (hG : X.A.guards = some []) (tk : Takes X V.x) : OpR X (compareOp .Eq) (rD X.K V (eqY cs eq T)) := by
  intro pins s σ H x y v u Q I rx ry ⟨d, e, p, G, S, hd, he, r, h⟩
  rcases eqY_split h with ⟨c, ns, fs, m, ke, rfl, hl, hke, hok, hc, h2⟩ | h2
  · obtain ⟨f, a, dx, xs, rfl, ha, _, me, run⟩ := own_run hT hl hr hG tk I rfl hd he ry r h2
    obtain rfl : v = Value.ref a := rx
    obtain ⟨od, J⟩ := inst_at I ha
    obtain ⟨P, Z, hP, _⟩ := kit_of I ry (kind_ty C he r hke hok)
    obtain ⟨mm, F⟩ := I.fr
    show wpAny _ _ (richCompare .Eq (.ref a) u) _ _ _
    refine PySem.W.cmp_K (by omega) F I.mod.kin J (Z.ty _ _ I.kIn hP) (N.at_ hc hok) me.at_ me.fn (wpAny_mono run (fun rv s1 hz => ?_) fun _ _ z => z)
    obtain ⟨z, H1, I1, rz, b, rfl, q⟩ := hz
    cases (show rv = Value.bool b from rz)
    exact ⟨.bl b, H1, I1, rfl, q⟩
  · exact (op_eq.or (op_eqD hu)) pins s σ H x y v u Q I rx ry (by_eq d e x y p G H S V Q hd he r h2)
theorem op_neY (hu : X.A.units + 64 < cLine) (C : ClsT X.K cs) (N : NfT X.K cs eq) (hT : AllM X k "__eq__" T) (hr : Room (k + 1) X.A) (hG : X.A.guards = some []) : OpR X (compareOp .NotEq) (rD X.K V (neY cs eq T)) := by
  intro pins s σ H x y v u Q I rx ry ⟨d, e, p, G, S, hd, he, r, h⟩
  rcases neY_split h with ⟨c, ns, fs, m, ke, rfl, hl, hke, hok, hc, h2⟩ | h2
  · obtain ⟨f, a, dx, xs, rfl, ha, _, me, run⟩ := own_run1 hT hl hr hG I rfl hd he ry r h2
    obtain rfl : v = Value.ref a := rx
    obtain ⟨od, J⟩ := inst_at I ha
    obtain ⟨P, Z, hP, _⟩ := kit_of I ry (kind_ty C he r hke hok)
    show wpAny _ _ (richCompare .NotEq (.ref a) u) _ _ _
    refine ne_K (by omega) I.kIn J (Z.ty _ _ I.kIn hP) (N.at_ hc hok) (N.ne c hc) (N.ob c hc) me.at_ me.fn (wpAny_mono run (fun rv s1 hz => ?_) fun _ _ z => z)
    obtain ⟨z, H1, I1, rz, b, rfl, q⟩ := hz
    cases (show rv = Value.bool b from rz)
    exact ⟨b, rfl, .bl (!b), H1, I1, rfl, q⟩
  · exact (op_ne.or (op_neD hu)) pins s σ H x y v u Q I rx ry (by_ne d e x y p G H S V Q hd he r h2)
end
end RM

/-! RQ: a, b = a list. -/
namespace RM
open PySem PySem.Spec PyProof.Rows L2
def setL (is : List Nat) (d : D) (t : DSt) : Option DSt := match d with
  | .lst es => setVs t is es
  | _ => none
def tl2 {α : Type} (f : D → D → M α) : D → M α
  | .lst [a, b] => f a b
  | _ => stuck
def tl3 {α : Type} (f : D → D → D → M α) : D → M α
  | .lst [a, b, c] => f a b c
  | _ => stuck
def tl4 {α : Type} (f : D → D → D → D → M α) : D → M α
  | .lst [a, b, c, d] => f a b c d
  | _ => stuck
@[simp] theorem tl2_lst {α : Type} (f : D → D → M α) (a b : D) : tl2 f (.lst [a, b]) = f a b := Eq.trans rfl rfl
@[simp] theorem tl3_lst {α : Type} (f : D → D → D → M α) (a b c : D) : tl3 f (.lst [a, b, c]) = f a b c := Eq.trans rfl rfl
@[simp] theorem tl4_lst {α : Type} (f : D → D → D → D → M α) (a b c d : D) : tl4 f (.lst [a, b, c, d]) = f a b c d := Eq.trans rfl rfl
theorem tglN {g : DSt} {is : List Nat} {P : D → DSt → Prop} (h : ∀ ds, ds.length = is.length → P (.lst ds) ((is.zip ds).foldl (fun g q => g.set q.1 (some (.val q.2))) g)) : ∀ d t, setL is d g = some t → P d t := fun d t e => by
  cases d <;> try cases e
  rename_i xs
  obtain ⟨h1, h2⟩ := setVs_get (show setVs g is xs = some t from e)
  rw [h2]
  exact h xs h1
theorem tgl2 {g : DSt} {i j : Nat} {P : D → DSt → Prop} (h : ∀ a b, P (.lst [a, b]) ((g.set i (some (.val a))).set j (some (.val b)))) : ∀ d t, setL [i, j] d g = some t → P d t := tglN fun ds e => match ds, e with | [a, b], _ => h a b
theorem tgl3 {g : DSt} {i j k : Nat} {P : D → DSt → Prop} (h : ∀ a b c, P (.lst [a, b, c]) (((g.set i (some (.val a))).set j (some (.val b))).set k (some (.val c)))) : ∀ d t, setL [i, j, k] d g = some t → P d t := tglN fun ds e => match ds, e with | [a, b, c], _ => h a b c
theorem tgl4 {g : DSt} {i j k l : Nat} {P : D → DSt → Prop} (h : ∀ a b c d, P (.lst [a, b, c, d]) ((((g.set i (some (.val a))).set j (some (.val b))).set k (some (.val c))).set l (some (.val d)))) : ∀ d t, setL [i, j, k, l] d g = some t → P d t := tglN fun ds e => match ds, e with | [a, b, c, d], _ => h a b c d
theorem nol2 {α : Type} {g : DSt} {i j : Nat} {f : D → D → M α} (hl : decide (i < g.length ∧ j < g.length) = true) : ∀ d, setL [i, j] d g = none → tl2 f d = stuck := fun d e => by
  unfold tl2
  split
  · rename_i a b
    obtain ⟨t, q⟩ := setVs_some (is := [i, j]) (g := g) (ds := [a, b]) rfl (by have := of_decide_eq_true hl; simp; exact this)
    have e : setVs g [i, j] [a, b] = none := e
    rw [q] at e; cases e
  · rfl
theorem nol3 {α : Type} {g : DSt} {i j k : Nat} {f : D → D → D → M α} (hl : decide (i < g.length ∧ j < g.length ∧ k < g.length) = true) : ∀ d, setL [i, j, k] d g = none → tl3 f d = stuck := fun d e => by
  unfold tl3
  split
  · rename_i a b c
    obtain ⟨t, q⟩ := setVs_some (is := [i, j, k]) (g := g) (ds := [a, b, c]) rfl (by have := of_decide_eq_true hl; simp; exact this)
    have e : setVs g [i, j, k] [a, b, c] = none := e
    rw [q] at e; cases e
  · rfl
theorem nol4 {α : Type} {g : DSt} {i j k l : Nat} {f : D → D → D → D → M α} (hl : decide (i < g.length ∧ j < g.length ∧ k < g.length ∧ l < g.length) = true) : ∀ d, setL [i, j, k, l] d g = none → tl4 f d = stuck := fun d e => by
  unfold tl4
  split
  · rename_i a b c d
    obtain ⟨t, q⟩ := setVs_some (is := [i, j, k, l]) (g := g) (ds := [a, b, c, d]) rfl (by have := of_decide_eq_true hl; simp; exact this)
    have e : setVs g [i, j, k, l] [a, b, c, d] = none := e
    rw [q] at e; cases e
  · rfl
section
variable {X : Cx} {W : Wf} {g : DSt} {e tg : Expr} {me : M D} {pos : Pos} {α : Type} {I : IC α} {rest : List Stmt}
theorem dg_lst {is : List Nat} (h : PG X tg (gUnl X.K is.length (gNs is))) : DG X W tg (setL is) := by
  refine PG.imp h fun v σ H Q ⟨n, d, t, p, G, S, ow, r, dn, t', e, h⟩ => ?_
  cases d <;> try cases e
  rename_i es
  obtain ⟨a, vs, rfl, ha, hv⟩ := dn
  refine ⟨a, vs, rfl, .inl (.inl (r.rs.rel.sub _ _ ha)), by rw [hv.length]; exact setVs_len e, ?_⟩
  exact gNs_ok r.rs hv e fun σ' ow' k r' _ => h p G H σ' ow' ⟨r', r.ext, fun a ha => r.own a (k a ha), r.fp, r.fg⟩
theorem xs_asgL {is : List Nat} {k : D → M α} (he : XE X W.x g e me) (hg : PG X tg (gUnl X.K is.length (gNs is))) (hN : ∀ d, setL is d g = none → k d = stuck) (hk : ∀ d t, setL is d g = some t → XS X W t I rest (k d)) (hs : swapsWithSole [tg] e pos.line X.env = pure false := by rfl) (hw : swappedStores [tg] e X.env = pure none := by rfl) (h1 : (assignEach [tg] X.env).map (·.2) = [assign tg X.env] := by rfl) :
    XS X W g I (.Assign [tg] e pos :: rest) (B me k) := by
  refine PSs.imp (pss_cons (ps_asg he (dg_lst (W := W) hg) hs hw h1) (fam (ι := {q : D × DSt // setL is q.1 g = some q.2}) fun q => hk q.1.1 q.1.2 q.2)) fun E σ H ⟨n, p, G, S, ow, r, h⟩ => ?_
  refine ⟨p, G, S, ow, r.rs, okG.seq h r fun d S1 v p1 G1 H1 e1 dn r1 x1 h1 => ?_⟩
  cases eg : setL is d g with
  | none =>
    rw [hN d eg] at h1
    exact h1.elim
  | some t' => exact ⟨n, d, g, p1, G1, S1, ow, r1, dn, t', eg, fun p' G' H' σ' ow' r' => ⟨⟨(d, t'), eg⟩, n, p', G', S1, ow', r', h1⟩⟩
end
end RM

/-! RQ: [x] == [y] of instances that are equal by their own ==. -/
namespace RM
open PySem PySem.Spec PyProof.Rows L2
open Classical in
noncomputable def eq1 (T : MT) (d e : D) : M D := fun S => match d, e with
  | .lst [.ins c ns fs], .lst [.ins c' ns' fs'] => if c' = c then match T.lookup c with
      | some h => if h (.ins c ns fs) (.ins c' ns' fs') S = .ok (.bl true) S then .ok (.bl true) S else .stuck
      | none => .stuck
    else .stuck
  | _, _ => .stuck
theorem eq1_split {K : PySem.W.Frag} {p : List (List Addr)} {G H : Hp} {V : Wf} {S : Sto} {Q : VK} {T : MT} {d e : D} (h : okR (Den K) K p G H V (eq1 T d e S) Q) : ∃ c ns fs ns' fs' m, d = .lst [.ins c ns fs] ∧ e = .lst [.ins c ns' fs'] ∧ T.lookup c = some m ∧ m (.ins c ns fs) (.ins c ns' fs') S = .ok (.bl true) S ∧ okR (Den K) K p G H V (.ok (.bl true) S) Q := by
  unfold eq1 at h
  split at h
  · rename_i c ns fs c' ns' fs'
    by_cases q : c' = c
    · rw [if_pos q] at h
      subst q
      cases el : T.lookup c' with
      | none => rw [el] at h; exact h.elim
      | some m =>
        rw [el] at h
        dsimp only at h
        by_cases z : m (.ins c' ns fs) (.ins c' ns' fs') S = .ok (.bl true) S
        · rw [if_pos z] at h
          exact ⟨_, _, _, _, _, m, rfl, rfl, el, z, h⟩
        · rw [if_neg z] at h; exact h.elim
    · rw [if_neg q] at h; exact h.elim
  · exact h.elim
section
variable {X : Cx} {V : Wf} {k : Nat} {T : MT}
theorem op_eq1 (hu : X.A.units + 64 < cLine) (hT : AllM X k "__eq__" T) (hr : Room (k + 1) X.A) (hG : X.A.guards = some []) : OpR X (compareOp .Eq) (rD X.K V (eq1 T)) := by
  intro pins s σ H x y v u Q I rx ry ⟨d, e, p, G, S, hd, he, r, h⟩
  obtain ⟨c, ns, fs, ns', fs', m, rfl, rfl, hl, hm, hq⟩ := eq1_split h
  obtain ⟨l, vs, rfl, hal, hv⟩ := hd
  obtain ⟨b, us, rfl, hab, hv2⟩ := he
  obtain ⟨w1, rfl, dw1⟩ := denL1 hv
  obtain ⟨w2, rfl, dw2⟩ := denL1 hv2
  obtain rfl : v = Value.ref l := rx
  obtain rfl : u = Value.ref b := ry
  have hnl : l ∉ p.flatten := fun z => by rw [r.gn l z] at hal; cases hal
  have hnb : b ∉ p.flatten := fun z => by rw [r.gn b z] at hab; cases hab
  let J : Nat → Shared → Prop := fun i s' => match i with
    | 0 => s' = s
    | 1 => ∃ H', Inv X pins σ H' s' ∧ (∃ p' G', Rel0 X.K p' S G' H' ∧ Ext p G H p' G' H')
    | _ => False
  show wpAny _ _ (richCompare .Eq (.ref l) (.ref b)) _ _ _
  have rd : ∀ {s' : Shared} {H' : Hp}, Inv X pins σ H' s' → H' l = some (.lst [w1]) → H' b = some (.lst [w2]) → ∃ (u1 u2 : Value) (n n2 : Nat), s'.heap.get? l = some { cls := .type "list", data := .seq #[u1] n } ∧ s'.heap.get? b = some { cls := .type "list", data := .seq #[u2] n2 } ∧ RelV w1 u1 ∧ RelV w2 u2 := by
    intro s' H' I' h1 h2
    obtain ⟨z, its, n, r1, e1⟩ := I'.hok l _ h1
    obtain ⟨z2, its2, n2, r2, e2⟩ := I'.hok b _ h2
    cases r1 with
    | cons a1 t1 =>
      cases t1
      cases r2 with
      | cons a2 t2 =>
        cases t2
        exact ⟨_, _, n, n2, e1, e2, a1, a2⟩
  refine GQ.rc_listG (N := 1) (by omega) J (fun i s' q => ?_) (fun s' q => ?_) rfl
  · match i, q with
    | 0, q =>
      cases (show s' = s from q)
      obtain ⟨u1, u2, n, n2, e1, e2, q1, q2⟩ := rd I (r.sub _ _ hal) (r.sub _ _ hab)
      refine ⟨#[u1], #[u2], n, n2, e1, e2, rfl, rfl, fun _ _ => ?_⟩
      show wpAny _ _ (eqBool u1 u2) _ _ _
      obtain ⟨f, a, dx, xs, rfl, ha, _, me, run⟩ := own_run1 (Q := fun z H' => z = .bl true ∧ ∃ p' G', Rel0 X.K p' S G' H' ∧ Ext p G H p' G' H') hT hl hr hG I rfl dw1 dw2 q2 r (by
        rw [hm]
        intro z p' G' H' dz rz xz
        exact ⟨dz, p', G', rz, xz⟩)
      obtain rfl : u1 = Value.ref a := q1
      obtain ⟨a2, dx2, vs2, rfl, ha2, _⟩ := id dw2
      obtain rfl : u2 = Value.ref a2 := q2
      by_cases haa : a = a2
      · subst haa
        exact SeqAt.EqAt.same (A := X.A.in1) (s := s) (.ref a) X.prog X.w X.xe _ ⟨rfl, H, I, p, G, r, Ext.refl _ _ _⟩
      · obtain ⟨od, J1⟩ := inst_at I ha
        obtain ⟨od2, J2⟩ := inst_at I (r.sub _ _ ha2)
        obtain ⟨mm, F⟩ := I.fr
        refine GQ.eqBool_refG haa (PySem.W.cmp_K (by show X.A.units + 1 < cLine; omega) F I.mod.kin J1 J2.type (by unfold PySem.W.notFirst; simp) me.at_ me.fn (wpAny_mono run (fun rv s1 hz => ?_) fun _ _ z => z))
        obtain ⟨z, H1, I1, rz, rfl, p', G', rz2, xz⟩ := hz
        cases (show rv = Value.bool true from rz)
        exact ⟨true, rfl, rfl, H1, I1, p', G', rz2, xz⟩
    | 1, q =>
      obtain ⟨H', I', p', G', rz, xz⟩ := q
      obtain ⟨u1, u2, n, n2, e1, e2, q1, q2⟩ := rd I' (xz.h _ _ (r.sub _ _ hal) hnl) (xz.h _ _ (r.sub _ _ hab) hnb)
      refine ⟨#[u1], #[u2], n, n2, e1, e2, rfl, rfl, fun h1 _ => ?_⟩
      exact absurd h1 (by show ¬ 1 < 1; omega)
    | _ + 2, q => exact q.elim
  · obtain ⟨H', I', p', G', rz, xz⟩ := (show ∃ H', Inv X pins σ H' s' ∧ (∃ p' G', Rel0 X.K p' S G' H' ∧ Ext p G H p' G' H') from q)
    exact ⟨.bl true, H', I', rfl, hq (.bl true) p' G' H' rfl rz xz⟩
end
end RM

/-! RQ: repr of data that may hold empty dicts. -/
namespace RM
open PySem PySem.Spec PyProof.Rows L2
mutual
def toPyE : D → Option PyData
  | .non => some .none
  | .bl b => some (.bool b)
  | .int i => some (.int i)
  | .str x => some (.str x)
  | .tup xs => (toPyEL xs).map .tuple
  | .lst xs => (toPyEL xs).map .list
  | .dic ks vs => match ks, vs with
    | [], [] => some (.dict [])
    | _, _ => none
  | .ins _ _ _ => none
  | .mref _ => none
  | .scr _ => none
  | .xcp _ _ _ => none
def toPyEL : List D → Option (List PyData)
  | [] => some []
  | x :: xs => match toPyE x, toPyEL xs with
    | some y, some ys => some (y :: ys)
    | _, _ => none
end
def reprE : List D → M D
  | [d] => match toPyE d with
    | some x => if x.showable = true ∧ x.depth ≤ 64 ∧ x.shown.length ≤ sizeLine then pure (.str x.shown) else stuck
    | none => stuck
  | _ => stuck
section
variable {X : Cx} {pins : List (Addr × Obj)} {σ : L2.St} {G H : Hp} {s : Shared} {p : List (List Addr)}
mutual
theorem den_reads (I : Inv X pins σ H s) (sub : Same G H) (hb : H sysModules = none) : ∀ {d : D} {v : L2.V} {u : Value} {x : PyData}, Den X.K p G d v → toPyE d = some x → RelV v u → ∃ as, Reads s.heap u x as ∧ sysModules ∉ as
  | .non, v, u, x, dn, e, r => by
    cases e
    cases (show v = _ from dn)
    cases r
    exact ⟨_, Reads.none, by simp⟩
  | .bl b, v, u, x, dn, e, r => by
    cases e
    cases (show v = _ from dn)
    cases r
    exact ⟨_, Reads.bool b, by simp⟩
  | .int i, v, u, x, dn, e, r => by
    cases e
    cases (show v = _ from dn)
    obtain ⟨t, rfl⟩ := r
    exact ⟨_, Reads.int i t, by simp⟩
  | .str y, v, u, x, dn, e, r => by
    cases e
    cases (show v = _ from dn)
    obtain ⟨t, rfl⟩ := r
    exact ⟨_, Reads.str y t, by simp⟩
  | .tup xs, v, u, x, dn, e, r => by
    obtain ⟨ys, e1, rfl⟩ := Option.map_eq_some_iff.mp (show (toPyEL xs).map PyData.tuple = some x from e)
    obtain ⟨a, vs, rfl, ha, hv⟩ := dn
    cases r
    obtain ⟨its, rv, ⟨o, ho, hc, n, hd⟩, _⟩ := I.tuple (SqT.mono sub ha)
    obtain ⟨as, hr, hn⟩ := den_readsL I sub hb hv e1 rv
    exact ⟨_, Reads.tuple ho hc hd hr, hn⟩
  | .lst xs, v, u, x, dn, e, r => by
    obtain ⟨ys, e1, rfl⟩ := Option.map_eq_some_iff.mp (show (toPyEL xs).map PyData.list = some x from e)
    obtain ⟨a, vs, rfl, ha, hv⟩ := dn
    cases r
    have ha := sub _ _ ha
    obtain ⟨its, rv, ⟨o, n, ho, hc, _, hd⟩, _⟩ := I.list (.inl (.inl ha))
    obtain ⟨as, hr, hn⟩ := den_readsL I sub hb hv e1 rv
    refine ⟨_, Reads.list ho hc hd hr, fun z => ?_⟩
    rcases List.mem_cons.mp z with z | z
    · rw [← z, hb] at ha; cases ha
    · exact hn z
  | .dic [] [], v, u, x, dn, e, r => by
    cases (show some (PyData.dict []) = some x from e)
    obtain ⟨a, vs, rfl, ha, hl, hv⟩ := dn
    cases r
    have ha := sub _ _ ha
    obtain ⟨_, hm, qs, kv, o, es, ep, ho, hx, hd, _, hp, _⟩ := dk_of I.hok ha
    have hq : qs = [] := by
      cases vs with
      | nil => cases kv; rfl
      | cons => cases hl
    subst hq
    have he : es.toList = [] := by
      cases q : es.toList with
      | nil => rfl
      | cons => rw [q] at hp; cases hp
    refine ⟨_, Reads.dict (kvs := []) ho hx.1 hd (by rw [he]; exact ReadsAll.nil) (by rw [he]; exact ReadsAll.nil), fun z => ?_⟩
    simp at z
    rw [← z] at hm
    simp at hm
  | .dic (_ :: _) _, _, _, _, _, e, _ => by cases e
  | .dic [] (_ :: _), _, _, _, _, e, _ => by cases e
  | .ins _ _ _, _, _, _, _, e, _ => by cases e
  | .mref _, _, _, _, _, e, _ => by cases e
  | .scr _, _, _, _, _, e, _ => by cases e
  | .xcp _ _ _, _, _, _, _, e, _ => by cases e
theorem den_readsL (I : Inv X pins σ H s) (sub : Same G H) (hb : H sysModules = none) : ∀ {ds : List D} {vs : List L2.V} {us : List Value} {xs : List PyData}, DenL X.K p G ds vs → toPyEL ds = some xs → Vals vs us → ∃ as, ReadsAll s.heap us xs as ∧ sysModules ∉ as
  | [], vs, us, xs, dn, e, r => by
    cases e
    cases dn
    cases r
    exact ⟨_, ReadsAll.nil, by simp⟩
  | d :: ds, vs, us, xs, dn, e, r => by
    have e' : (match toPyE d, toPyEL ds with
      | some y, some ys => some (y :: ys)
      | _, _ => none) = some xs := e
    cases q1 : toPyE d with
    | none => rw [q1] at e'; cases e'
    | some z =>
      cases q2 : toPyEL ds with
      | none => rw [q1, q2] at e'; cases e'
      | some zs =>
        rw [q1, q2] at e'
        cases e'
        obtain ⟨w, ws, rfl, d1, d2⟩ := dn
        cases r with
        | cons r1 r2 =>
          obtain ⟨as, h1, n1⟩ := den_reads I sub hb d1 q1 r1
          obtain ⟨bs, h2, n2⟩ := den_readsL I sub hb d2 q2 r2
          exact ⟨_, ReadsAll.cons h1 h2, by simp [n1, n2]⟩
end
end
theorem call_reprE {X : Cx} {V : Wf} (hG : X.A.guards = some []) (hu : X.A.units + 66 < cLine) (hsm : ∃ o, X.base.get? sysModules = some o) : CallR X (.builtin "repr") (rA X.K V reprE) := by
  intro pins s σ H xs us Q I r ⟨ds, p, G, S, dn, r0, h⟩
  obtain ⟨ob, hob⟩ := hsm
  have hb : H sysModules = none := (I.bs _ _ hob).2
  unfold reprE at h
  split at h
  · rename_i d
    obtain ⟨v, rfl, dv⟩ := denL1 dn
    obtain ⟨u, rfl, rv⟩ := vals1 r
    cases e : toPyE d with
    | none => rw [e] at h; exact h.elim
    | some x =>
      rw [e] at h
      dsimp only at h
      by_cases hz : x.showable = true ∧ x.depth ≤ 64 ∧ x.shown.length ≤ sizeLine
      · rw [if_pos hz] at h
        obtain ⟨h1, h2, h3⟩ := hz
        have q : Q (.str x.shown) H := okR.fin (v := L2.V.str _) h rfl r0
        obtain ⟨as, rd, hn⟩ := den_reads I r0.sub hb dv e rv
        have fin : ∀ {a : Addr}, Reads s.heap (.ref a) x as → wpAny (model X.prog X.w) X.A (call (.builtin "repr") [.ref a]) (EP X pins σ Q) X.xe s := fun {a} rd =>
          repr_of_reads' rd h1 (fun _ => hn) hG (by omega) (fun _ _ e => e) (fun h' u tk k => ⟨.str x.shown, H, I.kept k, ⟨_, rfl⟩, q⟩) h3
        cases d with
        | non =>
          cases e
          cases (show v = _ from dv)
          cases rv
          exact PySem.P.repr_of_none ⟨.str _, H, I.tok _, ⟨_, rfl⟩, q⟩
        | bl b =>
          cases e
          cases (show v = _ from dv)
          cases rv
          exact PySem.P.repr_of_bool ⟨.str _, H, I.tok _, ⟨_, rfl⟩, q⟩
        | int i =>
          cases e
          cases (show v = _ from dv)
          obtain ⟨t, rfl⟩ := rv
          exact PySem.P.repr_of_int (of_decide_eq_true h1) ⟨.str _, H, I.tok _, ⟨_, rfl⟩, q⟩
        | str y =>
          cases e
          cases (show v = _ from dv)
          obtain ⟨t, rfl⟩ := rv
          exact PySem.P.repr_of_str ⟨.str _, H, I.tok _, ⟨_, rfl⟩, q⟩ h3
        | tup ys =>
          obtain ⟨a, vs, rfl, _⟩ := dv
          cases rv
          exact fin rd
        | lst ys =>
          obtain ⟨a, vs, rfl, _⟩ := dv
          cases rv
          exact fin rd
        | dic ks ys =>
          obtain ⟨a, vs, rfl, _⟩ := dv
          cases rv
          exact fin rd
        | ins => cases e
        | mref => cases e
        | scr => cases e
        | xcp => cases e
      · rw [if_neg hz] at h; exact h.elim
  · exact h.elim
end RM

/-! RT: texts that are cut. -/
namespace RM
open PySem PySem.Spec PyProof.Rows L2
theorem strs_den {K : PySem.W.Frag} {p : List (List Addr)} {G : Hp} : ∀ ys : List Str, DenL K p G (ys.map D.str) (ys.map V.str)
  | [] => rfl
  | y :: ys => ⟨_, _, rfl, rfl, strs_den ys⟩
def splitF : D → D → M (List D)
  | .str a, .str b => if (b.length == 0) = false ∧ a.length + 2 ≤ sizeLine then pure ((Txt.split a b).map D.str) else stuck
  | _, _ => stuck
def partD3 : D → D → M D
  | .str a, .str b => if (b.length == 0) = false ∧ a.length ≤ sizeLine then pure (.tup [.str (Txt.partition a b).1, .str (Txt.partition a b).2.1, .str (Txt.partition a b).2.2]) else stuck
  | _, _ => stuck
def splitX (ma mb : M D) : M (List D) := B ma fun x => B (strD x) fun s => B mb fun y => splitF (.str s) y
def partX (ma mb : M D) : M D := B ma fun x => B (strD x) fun s => B mb fun y => partD3 (.str s) y
@[simp] theorem splitX_pure (s : Str) (m : M D) : splitX (pure (.str s)) m = B m fun y => splitF (.str s) y := Eq.trans rfl rfl
@[simp] theorem partX_pure (s : Str) (m : M D) : partX (pure (.str s)) m = B m fun y => partD3 (.str s) y := Eq.trans rfl rfl
theorem splitF_str {s t : Str} (h : (t.length == 0) = false ∧ s.length + 2 ≤ sizeLine) : splitF (.str s) (.str t) = pure ((Txt.split s t).map D.str) := if_pos h
theorem partD3_str {s t : Str} (h : (t.length == 0) = false ∧ s.length ≤ sizeLine) : partD3 (.str s) (.str t) = pure (.tup [.str (Txt.partition s t).1, .str (Txt.partition s t).2.1, .str (Txt.partition s t).2.2]) := if_pos h
section
variable {X : Cx} {W : WX} {g : DSt} {a b : Expr} {ma mb : M D} {pos p2 p3 p4 apos cpos : Pos}
theorem xf_split (ha : XE X W g a ma) (hb : XE X W g b mb) (hs : starEach [b] X.env = [(false, eval b X.env)] := by rfl)
    (hbase : attributeBase a "split" X.env (eval a X.env) = eval a X.env := by rfl) (hline : (apos.endLine == pos.line) = true := by rfl) : XF X W g (.Call (.Attribute a "split" apos) [b] [] pos) (splitX ma mb) := by
  refine PE.imp (pe_splitAny ha hb hs hbase hline) fun σ H Q ⟨p, G, S, ow, r, h⟩ => ?_
  have h : okF X.K p G H (fun c d H' => W c d σ H') ((ma >>= fun x => strD x >>= fun s => mb >>= fun y => splitF (.str s) y) S) Q := h
  refine ⟨p, G, S, ow, r, okF.seq h fun d S1 v p1 G1 H1 e1 dn r1 x1 h1 => ?_⟩
  cases d <;> try exact h1.elim
  rename_i s
  refine ⟨⟨s, dn⟩, p1, G1, S1, ow, r.ext x1 r1, okF.seq (m := mb) h1 fun e S2 u p2 G2 H2 e2 dn2 r2 x2 h2 => ?_⟩
  cases e <;> try exact h2.elim
  rename_i t
  have h2 : okF X.K p2 G2 H2 (fun c d H' => W c d σ H') ((if (t.length == 0) = false ∧ s.length + 2 ≤ sizeLine then pure ((Txt.split s t).map D.str) else stuck : M (List D)) S2) Q := h2
  by_cases q : (t.length == 0) = false ∧ s.length + 2 ≤ sizeLine
  · rw [if_pos q] at h2
    cases (show v = .str s from dn)
    cases (show u = .str t from dn2)
    exact .inl ⟨s, t, rfl, rfl, q.1, q.2, fun l hl => okF.lay h2 r2 hl (strs_den _)⟩
  · rw [if_neg q] at h2
    exact h2.elim
theorem xe_partition (ha : XE X W g a ma) (hb : XE X W g b mb) (hs : starEach [b] X.env = [(false, eval b X.env)] := by rfl)
    (hbase : attributeBase a "partition" X.env (eval a X.env) = eval a X.env := by rfl) (hline : (apos.endLine == pos.line) = true := by rfl) : XE X W g (.Call (.Attribute a "partition" apos) [b] [] pos) (partX ma mb) := by
  refine PE.imp (pe_m1 F.slot_str_partition F.type_str_partition mt_partition ha hb hs hbase hline) fun σ H Q ⟨p, G, S, ow, r, h⟩ => ?_
  have h : okR (Den X.K) X.K p G H (fun c d H' => W c d σ H') ((ma >>= fun x => strD x >>= fun s => mb >>= fun y => partD3 (.str s) y) S) Q := h
  refine ⟨p, G, S, ow, r, okR.seq h fun d S1 v p1 G1 H1 e1 dn r1 x1 h1 => ?_⟩
  cases d <;> try exact h1.elim
  rename_i s
  refine ⟨⟨s, dn⟩, p1, G1, S1, ow, r.ext x1 r1, okR.seq (m := mb) h1 fun e S2 u p2 G2 H2 e2 dn2 r2 x2 h2 => ?_⟩
  cases e <;> try exact h2.elim
  rename_i t
  have h2 : okR (Den X.K) X.K p2 G2 H2 (fun c d H' => W c d σ H') ((if (t.length == 0) = false ∧ s.length ≤ sizeLine then pure (.tup [.str (Txt.partition s t).1, .str (Txt.partition s t).2.1, .str (Txt.partition s t).2.2]) else stuck : M D) S2) Q := h2
  by_cases q : (t.length == 0) = false ∧ s.length ≤ sizeLine
  · rw [if_pos q] at h2
    cases (show v = .str s from dn)
    cases (show u = .str t from dn2)
    refine ⟨s, t, rfl, rfl, q.1, q.2, fun l hl => ?_⟩
    obtain ⟨r3, x3⟩ := r2.new (.tup [.str (Txt.partition s t).1, .str (Txt.partition s t).2.1, .str (Txt.partition s t).2.2]) hl
    exact h2 (.ref l) p2 _ _ ⟨l, _, rfl, SqT.of upd_same, ⟨_, _, rfl, rfl, ⟨_, _, rfl, rfl, ⟨_, _, rfl, rfl, rfl⟩⟩⟩⟩ r3 x3
  · rw [if_neg q] at h2
    exact h2.elim
end
end RM

/-! RM: texts of plain signs, plain side. -/
namespace RM
open PySem PySem.Spec PyProof.Rows L2 TL
/-- a text of at most n plain signs -/
structure Tx (n : Nat) (x : Str) : Prop where
  len : x.length ≤ n
  lo : ∀ c ∈ tl x, c < 128
theorem tl_len (x : Str) : (tl x).length = x.length := rfl
theorem Tx.le {n m : Nat} {x : Str} (h : Tx n x) (hl : n ≤ m) : Tx m x := ⟨by have := h.len; omega, h.lo⟩
theorem Tx.add {n m : Nat} {x y : Str} (h : Tx n x) (g : Tx m y) : Tx (n + m) (x ++ y) := by
  refine ⟨?_, fun c hc => ?_⟩
  · rw [← tl_len, tl_append, List.length_append, tl_len, tl_len]
    have := h.len; have := g.len; omega
  · rw [tl_append] at hc
    exact (List.mem_append.mp hc).elim (h.lo c) (g.lo c)
theorem Tx.lay {n : Nat} {x : Str} (h : Tx n x) : PyData.canLay0 (.str x) = true := by
  show x.cps.all _ = true
  rw [← Array.all_toList, List.all_eq_true]
  intro c hc
  have := h.lo c hc
  exact decide_eq_true (by omega)
theorem cutS_tl (z : Str) (lo hi : Option Int) : tl (cutS z lo hi) = cutL (tl z) lo hi := rfl
theorem cut_sub {α : Type} (xs : List α) (lo hi : Option Int) : (cutL xs lo hi).Sublist xs := by
  unfold cutL
  exact (List.take_sublist _ _).trans (List.drop_sublist _ _)
theorem Tx.sub {n : Nat} {x y : Str} (h : Tx n x) (s : (tl y).Sublist (tl x)) : Tx n y := ⟨by have := s.length_le; rw [tl_len, tl_len] at this; have := h.len; omega, fun c hc => h.lo c (s.subset hc)⟩
theorem Tx.cut {n : Nat} {x : Str} (h : Tx n x) (lo hi : Option Int) : Tx n (cutS x lo hi) := h.sub (by rw [cutS_tl]; exact cut_sub _ _ _)
theorem slice_str {n : Nat} {x : Str} (h : Tx n x) (hn : n ≤ 1000000) (lo hi : Option Int) : sliceD (.str x) lo hi = pure (.str (cutS x lo hi)) := if_pos (by have := h.len; unfold sizeLine; omega)
/-- a text in two -/
theorem tx_halves {n : Nat} {x : Str} {s : Int} (h : Tx n x) (h0 : 0 ≤ s) : (cutS x none (some s)).length + (cutS x (some s) none).length ≤ x.length := by
  have a : (cutL (tl x) none (some s)).length + (cutL (tl x) (some s) none).length ≤ (tl x).length := by
    unfold cutL _root_.HT.sIx
    simp [show ¬ s < 0 by omega]
    omega
  exact a
theorem tx_tail {n : Nat} {x : Str} {s : Int} (h : Tx n x) (h0 : 0 ≤ s) : (cutS x none (some s)).length + (cutS x (some (s + 1)) none).length ≤ x.length := by
  have a : (cutL (tl x) none (some s)).length + (cutL (tl x) (some (s + 1)) none).length ≤ (tl x).length := by
    unfold cutL _root_.HT.sIx
    simp [show ¬ s < 0 by omega, show ¬ s + 1 < 0 by omega]
    omega
  exact a
theorem tx_one {n : Nat} {x : Str} {s : Int} (h : Tx n x) (h0 : 0 ≤ s) : (cutS x (some s) (some (s + 1))).length ≤ 1 := by
  have a : (cutL (tl x) (some s) (some (s + 1))).length ≤ 1 := by
    unfold cutL _root_.HT.sIx
    simp [show ¬ s < 0 by omega, show ¬ s + 1 < 0 by omega]
    omega
  exact a
theorem mem_joinL {S : List Nat} {c : Nat} : ∀ {ps : List (List Nat)}, c ∈ joinL S ps → c ∈ S ∨ ∃ p ∈ ps, c ∈ p
  | [], h => by cases h
  | [p], h => .inr ⟨p, by simp, h⟩
  | p :: q :: r, h => by
    have h : c ∈ p ++ (S ++ joinL S (q :: r)) := h
    rcases List.mem_append.mp h with h | h
    · exact .inr ⟨p, by simp, h⟩
    · rcases List.mem_append.mp h with h | h
      · exact .inl h
      · rcases mem_joinL h with h | ⟨z, hz, hc⟩
        · exact .inl h
        · exact .inr ⟨z, List.mem_cons_of_mem _ hz, hc⟩
theorem joinL_mem {S : List Nat} {c : Nat} : ∀ {ps : List (List Nat)} {p : List Nat}, p ∈ ps → c ∈ p → c ∈ joinL S ps
  | [], _, h, _ => by cases h
  | [q], p, h, hc => by
    rw [List.mem_singleton.mp h] at hc
    exact hc
  | q :: r :: t, p, h, hc => by
    show c ∈ q ++ (S ++ joinL S (r :: t))
    rcases List.mem_cons.mp h with rfl | h
    · exact List.mem_append_left _ hc
    · exact List.mem_append_right _ (List.mem_append_right _ (joinL_mem h hc))
theorem joinL_len {S : List Nat} : ∀ (ps : List (List Nat)), (joinL S ps).length ≤ (ps.map (·.length)).sum + ps.length * S.length
  | [] => by simp [joinL]
  | [p] => by
    show p.length ≤ _
    simp
  | p :: q :: r => by
    have := joinL_len (S := S) (q :: r)
    show (p ++ (S ++ joinL S (q :: r))).length ≤ _
    rw [List.length_append, List.length_append, List.map_cons, List.sum_cons, List.length_cons, Nat.add_mul, Nat.one_mul]
    omega
/-- the pieces of a text -/
theorem Tx.pieces {n : Nat} {x y : Str} (h : Tx n x) : ∀ z ∈ Txt.split x y, Tx n z := fun z hz => by
  refine ⟨Nat.le_trans (PyProof.Rows.part_short hz) h.len, fun c hc => h.lo c ?_⟩
  have e := PySem.StrLaws.join_split x y
  rw [← e, tl_join]
  exact joinL_mem (List.mem_map_of_mem hz) hc
theorem Tx.join {n : Nat} {y : Str} {zs : List Str} (hy : Tx 1 y) (hz : ∀ z ∈ zs, ∀ c ∈ tl z, c < 128) (hl : (zs.map (·.length)).sum + zs.length ≤ n) : Tx n (Txt.join y zs) := by
  rw [join_eq]
  refine ⟨?_, fun c hc => ?_⟩
  · have := joinL_len (S := tl y) (zs.map tl)
    rw [← tl_len, tl_join]
    have h1 := hy.len
    rw [List.length_map, List.map_map, tl_len] at this
    have e : (zs.map ((·.length) ∘ tl)).sum = (zs.map (·.length)).sum := rfl
    rw [e] at this
    have : zs.length * y.length ≤ zs.length * 1 := Nat.mul_le_mul_left _ h1
    omega
  · rw [tl_join] at hc
    rcases mem_joinL hc with h | ⟨p, hp, h⟩
    · exact hy.lo c h
    · obtain ⟨z, hz2, rfl⟩ := List.mem_map.mp hp
      exact hz z hz2 c h
theorem toStrs_map : ∀ ys : List Str, toStrs (ys.map D.str) = some ys
  | [] => rfl
  | y :: ys => by
    show (toStrs (ys.map D.str)).map (y :: ·) = _
    rw [toStrs_map ys]; rfl
theorem joinD_lst {y : Str} {zs : List Str} (h : (zs.map (·.length)).sum + zs.length * y.length ≤ 16777216) : joinD (.str y) (.lst (zs.map D.str)) = pure (.str (Txt.join y zs)) ∧ joinD (.str y) (.tup (zs.map D.str)) = pure (.str (Txt.join y zs)) := by
  constructor <;>
  · unfold joinD
    dsimp only
    rw [toStrs_map]
    exact if_pos h
theorem sum_perm {xs ys : List Nat} (h : xs.Perm ys) : xs.sum = ys.sum := h.sum_nat
/-- two pieces exchanged -/
theorem swap_perm {xs : List Str} {i j : Nat} (hi : i < xs.length) (hj : j < xs.length) : ((xs.set i xs[j]).set j xs[i]).Perm xs := List.set_set_perm hi hj
end RM

/-! ### rowsmeet_k80_texts_of_rules: the text -/
namespace LW
open PySem PySem.Spec PyProof.Rows L2 RM
def top (i : Nat) : Stmt := PySem.Challenge.pw_rowsmeet_k80_texts_of_rules.main.body.getD i (.Pass ⟨0, 0, 0, 0⟩)
abbrev s_law_begun : Stmt := top 18
def d_law_begun : He.DefD := ⟨("_law_begun", none), "_law_begun", "_law_begun", defArgs s_law_begun, defBody s_law_begun, defScope s_law_begun, [], []⟩
abbrev s_law_draw : Stmt := top 19
def d_law_draw : He.DefD := ⟨("_law_draw", none), "_law_draw", "_law_draw", defArgs s_law_draw, defBody s_law_draw, defScope s_law_draw, [], []⟩
abbrev s_law_mixed : Stmt := top 21
def d_law_mixed : He.DefD := ⟨("_law_mixed", none), "_law_mixed", "_law_mixed", defArgs s_law_mixed, defBody s_law_mixed, defScope s_law_mixed, [], []⟩
abbrev s_law_every : Stmt := top 22
def d_law_every : He.DefD := ⟨("_law_every", none), "_law_every", "_law_every", defArgs s_law_every, defBody s_law_every, defScope s_law_every, [], []⟩
abbrev s_is_word : Stmt := top 8
def d_is_word : He.DefD := ⟨("is_word", none), "is_word", "is_word", defArgs s_is_word, defBody s_is_word, defScope s_is_word, [], []⟩
abbrev s_is_list : Stmt := top 5
def d_is_list : He.DefD := ⟨("is_list", none), "is_list", "is_list", defArgs s_is_list, defBody s_is_list, defScope s_is_list, [], []⟩
abbrev s_are_words : Stmt := top 9
def d_are_words : He.DefD := ⟨("are_words", none), "are_words", "are_words", defArgs s_are_words, defBody s_are_words, defScope s_are_words, [], []⟩
abbrev s_live_of : Stmt := top 10
def d_live_of : He.DefD := ⟨("live_of", none), "live_of", "live_of", defArgs s_live_of, defBody s_live_of, defScope s_live_of, [], []⟩
abbrev s_Rule_init : Stmt := inClass (top 11) 0
def d_Rule_init : He.DefD := ⟨("Rule", some "__init__"), "__init__", "Rule.__init__", defArgs s_Rule_init, defBody s_Rule_init, defScope s_Rule_init, [.adr (He.dflAt ("Rule", some "__init__") 0)], []⟩
abbrev s_need_rule : Stmt := top 12
def d_need_rule : He.DefD := ⟨("need_rule", none), "need_rule", "need_rule", defArgs s_need_rule, defBody s_need_rule, defScope s_need_rule, [], []⟩
abbrev s_Rule_words : Stmt := inClass (top 11) 1
def d_Rule_words : He.DefD := ⟨("Rule", some "words"), "words", "Rule.words", defArgs s_Rule_words, defBody s_Rule_words, defScope s_Rule_words, [], []⟩
abbrev s_rule_text : Stmt := top 14
def d_rule_text : He.DefD := ⟨("rule_text", none), "rule_text", "rule_text", defArgs s_rule_text, defBody s_rule_text, defScope s_rule_text, [], []⟩
abbrev s_need_text : Stmt := top 15
def d_need_text : He.DefD := ⟨("need_text", none), "need_text", "need_text", defArgs s_need_text, defBody s_need_text, defScope s_need_text, [], []⟩
abbrev s_read_rule : Stmt := top 16
def d_read_rule : He.DefD := ⟨("read_rule", none), "read_rule", "read_rule", defArgs s_read_rule, defBody s_read_rule, defScope s_read_rule, [], []⟩
abbrev s_Rule_eq : Stmt := inClass (top 11) 3
def d_Rule_eq : He.DefD := ⟨("Rule", some "__eq__"), "__eq__", "Rule.__eq__", defArgs s_Rule_eq, defBody s_Rule_eq, defScope s_Rule_eq, [], []⟩
abbrev s_law_pick : Stmt := top 20
def d_law_pick : He.DefD := ⟨("_law_pick", none), "_law_pick", "_law_pick", defArgs s_law_pick, defBody s_law_pick, defScope s_law_pick, [], []⟩
abbrev s_law_letters : Stmt := top 23
def d_law_letters : He.DefD := ⟨("_law_letters", none), "_law_letters", "_law_letters", defArgs s_law_letters, defBody s_law_letters, defScope s_law_letters, [], []⟩
abbrev s_law_signs : Stmt := top 24
def d_law_signs : He.DefD := ⟨("_law_signs", none), "_law_signs", "_law_signs", defArgs s_law_signs, defBody s_law_signs, defScope s_law_signs, [], []⟩
abbrev s_law_spoilt : Stmt := top 26
def d_law_spoilt : He.DefD := ⟨("_law_spoilt", none), "_law_spoilt", "_law_spoilt", defArgs s_law_spoilt, defBody s_law_spoilt, defScope s_law_spoilt, [], []⟩
abbrev s_law_read_wording : Stmt := top 25
def d_law_read_wording : He.DefD := ⟨("_law_read_wording", none), "_law_read_wording", "_law_read_wording", defArgs s_law_read_wording, defBody s_law_read_wording, defScope s_law_read_wording, [], []⟩
abbrev s_law_text_heard : Stmt := top 27
def d_law_text_heard : He.DefD := ⟨("_law_text_heard", none), "_law_text_heard", "_law_text_heard", defArgs s_law_text_heard, defBody s_law_text_heard, defScope s_law_text_heard, [], []⟩
abbrev s_law : Stmt := top 28
def d_law : He.DefD := ⟨("law", none), "law", "law", defArgs s_law, defBody s_law, defScope s_law, [], []⟩
def tt_KINDS : RM.TT := [("narrowest", "box"), ("widest", "box"), ("newest", "entry"), ("oldest", "entry"), ("cheapest", "price"), ("dearest", "price"), ("highest", "rank"), ("lowest", "rank")]
def ts0 : List TabD := [("KINDS", tt_KINDS)]
def ts : List TabD := ts0
def fn0 : List He.DefD := [d_law_begun, d_law_draw, d_law_mixed, d_law_every, d_is_word, d_is_list, d_are_words, d_live_of, d_Rule_init, d_need_rule, d_rule_text, d_need_text, d_read_rule, d_Rule_eq, d_law_pick, d_law_letters, d_law_signs, d_law_spoilt, d_law_read_wording, d_law_text_heard, d_law]
def fn : List He.DefD := fn0
def pr0 : List PrD := [⟨"Rule", "words", d_Rule_words⟩]
def pr : List PrD := pr0
def fa0 : List He.Fa := [.glo "BadRule", .glo "BadText", .glo "KINDS", .glo "Rule", .glo "_law_begun", .glo "_law_draw", .glo "_law_every", .glo "_law_letters", .glo "_law_mixed", .glo "_law_pick", .glo "_law_read_wording", .glo "_law_signs", .glo "_law_spoilt", .glo "_law_text_heard", .glo "are_words", .glo "is_list", .glo "is_word", .glo "law", .glo "live_of", .glo "need_rule", .glo "need_text", .glo "read_rule", .glo "rule_text", .free "abs", .free "all", .free "int", .free "isinstance", .free "len", .free "list", .free "min"]
def fa1 : List He.Fa := [.free "range", .free "repr", .free "set", .free "str", .free "super", .free "tuple", .mkr "Rule", .meth "Rule" "__eq__"]
def fa : List He.Fa := fa0 ++ fa1
def loose0 : List Str := ["PriceError", "BadRule", "BadText", "is_list", "KINDS", "is_word", "are_words", "live_of", "Rule", "need_rule", "rule_text", "need_text", "read_rule", "_law_begun", "_law_draw", "_law_pick", "_law_mixed", "_law_every", "_law_letters", "_law_signs", "_law_read_wording", "_law_spoilt", "_law_text_heard"]
def loose : List Str := loose0
def exL : List Str := ["BadRule", "BadText"]
def exF : List (Str × Str) := [("BadText", "line")]
def tfL : List (Str × Str) := [("law", "law.<locals>.<lambda>")]
abbrev s_BadText_init : Stmt := inClass (top 3) 0
def sd_BadText : SupD := ⟨"BadText", "line", "__init__", "BadText.__init__", defArgs s_BadText_init, defBody s_BadText_init, defScope s_BadText_init⟩
theorem ss_BadText : SupS (defScope s_BadText_init) "self" "line" := ⟨rfl, rfl, rfl, rfl, rfl, rfl, rfl, by decide +kernel, by decide, by decide, by decide⟩
def spL : List SupD := [sd_BadText]
def clsL : List Str := ["Rule"]
def tab : List (Str × Str) := [("Rule", "rule_words"), ("Rule", "rule_live")]
def eqL : List Str := ["Rule"]
def chk (K : PySem.W.Frag) : Bool := (clsB K clsL) && (fldB K tab) && (excB K exL) && (xfldB K exF) && (txtB K (He.ga K "BadRule")) && ((["BadText"] : List Str).all fun c => decide (PySem.W.exmOne K (.ref (He.ga K c)) (.ref (He.ga K "BadText")) = some true)) && (tupAt K (He.dflAt ("Rule", some "__init__") 0 K) []) && (He.valsB K (He.ga K "KINDS") (tabVals tt_KINDS)) && (nfB K clsL eqL)
abbrev R : PySem.W.OpenRow := PySem.W.OpenLaw.row PySem.Challenge.rw_rowsmeet_k80_texts_of_rules
def hkE : HkE := ⟨fa, fn, pr, chk, ts, spL, tfL, R.prog.main.file⟩
abbrev hk : PySem.W.Hook := hkE.hook 5
def ob (s : PySem.W.SharedT) : AlE := hkE.obs 5 (HandSHeadRun.getT s)
theorem ob_eq (s : PySem.W.SharedT) : ob s = hk.obs s.abs   := hkE.obs_eq (HandSHeadRun.getT_eq s)
theorem run0 (w : World) : HandSHeadRun.RunEq R (PySem.W.view R.prog [28]) hk ob 12000 loose (w.withFollow "special-get-raises" false) := by
  intro os
  kernel_rfl
theorem run1 (w : World) : HandSHeadRun.RunEq R (PySem.W.view R.prog [28]) hk ob 12000 loose (w.withFollow "special-get-raises" true) := by
  intro os
  kernel_rfl
theorem run (w : World) : HandSHeadRun.RunEq R (PySem.W.view R.prog [28]) hk ob 12000 loose w := PySem.W.byRow2 "special-get-raises" (P := fun w => HandSHeadRun.RunEq R (PySem.W.view R.prog [28]) hk ob 12000 loose w) run0 run1 w
structure TextF (P : Program) (w : World) (K : PySem.W.Frag) (mg : Str → Option Value) : Prop where
  says : SaysX fa fn pr chk K
  cls : ClsT K clsL
  fld : FldT K tab
  g_BadRule : mg "BadRule" = some (.ref (He.ga K "BadRule"))
  g_BadText : mg "BadText" = some (.ref (He.ga K "BadText"))
  g_KINDS : mg "KINDS" = some (.ref (He.ga K "KINDS"))
  g_Rule : mg "Rule" = some (.ref (He.ga K "Rule"))
  g_law_begun : mg "_law_begun" = some (.ref (He.ga K "_law_begun"))
  g_law_draw : mg "_law_draw" = some (.ref (He.ga K "_law_draw"))
  g_law_every : mg "_law_every" = some (.ref (He.ga K "_law_every"))
  g_law_letters : mg "_law_letters" = some (.ref (He.ga K "_law_letters"))
  g_law_mixed : mg "_law_mixed" = some (.ref (He.ga K "_law_mixed"))
  g_law_pick : mg "_law_pick" = some (.ref (He.ga K "_law_pick"))
  g_law_read_wording : mg "_law_read_wording" = some (.ref (He.ga K "_law_read_wording"))
  g_law_signs : mg "_law_signs" = some (.ref (He.ga K "_law_signs"))
  g_law_spoilt : mg "_law_spoilt" = some (.ref (He.ga K "_law_spoilt"))
  g_law_text_heard : mg "_law_text_heard" = some (.ref (He.ga K "_law_text_heard"))
  g_are_words : mg "are_words" = some (.ref (He.ga K "are_words"))
  g_is_list : mg "is_list" = some (.ref (He.ga K "is_list"))
  g_is_word : mg "is_word" = some (.ref (He.ga K "is_word"))
  g_law : mg "law" = some (.ref (He.ga K "law"))
  g_live_of : mg "live_of" = some (.ref (He.ga K "live_of"))
  g_need_rule : mg "need_rule" = some (.ref (He.ga K "need_rule"))
  g_need_text : mg "need_text" = some (.ref (He.ga K "need_text"))
  g_read_rule : mg "read_rule" = some (.ref (He.ga K "read_rule"))
  g_rule_text : mg "rule_text" = some (.ref (He.ga K "rule_text"))
  n_abs : mg "abs" = none
  n_all : mg "all" = none
  n_int : mg "int" = none
  n_isinstance : mg "isinstance" = none
  n_len : mg "len" = none
  n_list : mg "list" = none
  n_min : mg "min" = none
  n_range : mg "range" = none
  n_repr : mg "repr" = none
  n_set : mg "set" = none
  n_str : mg "str" = none
  n_super : mg "super" = none
  n_tuple : mg "tuple" = none
  mk_Rule : Mk K (He.ga K "Rule") (He.ma K (He.ga K "Rule") "__init__")
  m_Rule_eq : Meth K (He.ga K "Rule") "__eq__" (He.ma K (He.ga K "Rule") "__eq__")
  tp_Rule_init_0 : ∀ H : Hp, SqT K H (He.dflAt ("Rule", some "__init__") 0 K) []
  t_KINDS : TabF K w (He.ga K "KINDS") tt_KINDS
  ex : ExT K exL
  xf : ∀ q ∈ exF, PySem.W.findIn K (.ref (He.ga K q.1)) q.2 = some none
  tx_BadRule : TxtC K (He.ga K "BadRule")
  xm_BadText : ∀ c ∈ (["BadText"] : List Str), PySem.W.exmOne K (.ref (He.ga K c)) (.ref (He.ga K "BadText")) = some true
  su_BadText : SupC P K (He.ga K "BadText") (He.ma K (He.ga K "BadText") "__init__") "line" "__init__" "BadText.__init__" (defArgs s_BadText_init) (defBody s_BadText_init) (defScope s_BadText_init)
  nf : NfT K clsL eqL
theorem txt {P : Program} {w : World} {K : PySem.W.Frag} {h : Heap} {mg : Str → Option Value} (X : K.In h) (G : h.Ns mainGlobals mg) (ce : hkE.Says w h K) (hP : P.main.file = R.prog.main.file) (hs : (P.main.scope.names.lookup ("super" : Str)).isSome = false) : TextF P w K mg := by
  have cy : SaysY fa fn pr chk ts w K := ce.y
  have c := cy.x
  have hsp : ∀ d ∈ spL, supOk P.main.file K d = true ∧ supW K d = d.val := fun d hd => by rw [hP]; exact ce.sp d hd
  have e : chk K = true := c.c
  unfold chk at e
  simp only [Bool.and_eq_true] at e
  obtain ⟨⟨⟨⟨⟨⟨⟨⟨e0, e1⟩, e2⟩, e3⟩, e4⟩, e5⟩, e6⟩, e7⟩, e8⟩ := e
  exact ⟨c, clsB_ok e0, fldB_ok e1, He.glo_ok X G (c.d.fact 0 (f := .glo "BadRule") rfl), He.glo_ok X G (c.d.fact 1 (f := .glo "BadText") rfl), He.glo_ok X G (c.d.fact 2 (f := .glo "KINDS") rfl), He.glo_ok X G (c.d.fact 3 (f := .glo "Rule") rfl), He.glo_ok X G (c.d.fact 4 (f := .glo "_law_begun") rfl), He.glo_ok X G (c.d.fact 5 (f := .glo "_law_draw") rfl), He.glo_ok X G (c.d.fact 6 (f := .glo "_law_every") rfl), He.glo_ok X G (c.d.fact 7 (f := .glo "_law_letters") rfl), He.glo_ok X G (c.d.fact 8 (f := .glo "_law_mixed") rfl), He.glo_ok X G (c.d.fact 9 (f := .glo "_law_pick") rfl), He.glo_ok X G (c.d.fact 10 (f := .glo "_law_read_wording") rfl), He.glo_ok X G (c.d.fact 11 (f := .glo "_law_signs") rfl), He.glo_ok X G (c.d.fact 12 (f := .glo "_law_spoilt") rfl), He.glo_ok X G (c.d.fact 13 (f := .glo "_law_text_heard") rfl), He.glo_ok X G (c.d.fact 14 (f := .glo "are_words") rfl), He.glo_ok X G (c.d.fact 15 (f := .glo "is_list") rfl), He.glo_ok X G (c.d.fact 16 (f := .glo "is_word") rfl), He.glo_ok X G (c.d.fact 17 (f := .glo "law") rfl), He.glo_ok X G (c.d.fact 18 (f := .glo "live_of") rfl), He.glo_ok X G (c.d.fact 19 (f := .glo "need_rule") rfl), He.glo_ok X G (c.d.fact 20 (f := .glo "need_text") rfl), He.glo_ok X G (c.d.fact 21 (f := .glo "read_rule") rfl), He.glo_ok X G (c.d.fact 22 (f := .glo "rule_text") rfl), He.free_ok X G (c.d.fact 23 (f := .free "abs") rfl), He.free_ok X G (c.d.fact 24 (f := .free "all") rfl), He.free_ok X G (c.d.fact 25 (f := .free "int") rfl), He.free_ok X G (c.d.fact 26 (f := .free "isinstance") rfl), He.free_ok X G (c.d.fact 27 (f := .free "len") rfl), He.free_ok X G (c.d.fact 28 (f := .free "list") rfl), He.free_ok X G (c.d.fact 29 (f := .free "min") rfl), He.free_ok X G (c.d.fact 30 (f := .free "range") rfl), He.free_ok X G (c.d.fact 31 (f := .free "repr") rfl), He.free_ok X G (c.d.fact 32 (f := .free "set") rfl), He.free_ok X G (c.d.fact 33 (f := .free "str") rfl), He.free_ok X G (c.d.fact 34 (f := .free "super") rfl), He.free_ok X G (c.d.fact 35 (f := .free "tuple") rfl), He.mkr_ok (c.d.fact 36 (f := .mkr "Rule") rfl), He.meth_ok (c.d.fact 37 (f := .meth "Rule" "__eq__") rfl), fun H => tupAt_ok e6 H, cy.tab 0 (t := ("KINDS", tt_KINDS)) e7 rfl, excB_ok e2, xfldB_ok e3, txtB_ok e4, fun c hc => of_decide_eq_true (List.all_eq_true.mp e5 c hc), supOk_ok (d := sd_BadText) (hsp sd_BadText (List.mem_of_getElem? (i := 0) rfl)).1 (hsp sd_BadText (List.mem_of_getElem? (i := 0) rfl)).2 hs, nfB_ok e8⟩
def f_law_mixed_w1c (y : (List D) × (List D)) : M Bool := (noE (tst (B (pure (.lst y.1)) fun t1 => B (argsB [] lstD) fun t2 => neD t1 t2)))
def f_law_mixed_w2b (state : D) (y : (List D) × (List D)) : M ((List D) × (List D)) := (B (B (callB [(pure state), (pure (.int (y.1).length))] drawM []) fun t3 => appPop y.2 y.1 t3) fun both => (pure (both.2, both.1)))
def f_law_mixed (state : D) (several : D) : M D := (B (B (pure several) listF) fun left => B (argsB [] sizeL) fun found => (B (whileN f_law_mixed_w1c (f_law_mixed_w2b state) 1100 (left, found)) fun y_1 => (pure (.lst y_1.2))))
def f_law_every : M D := (argsB [(pure (.str "narrowest")), (pure (.str "widest")), (pure (.str "newest")), (pure (.str "oldest")), (pure (.str "cheapest")), (pure (.str "dearest")), (pure (.str "highest")), (pure (.str "lowest"))] lstD)
def f_is_word (thing : D) : M D := (eAnd (B (pure thing) (isiD clsL [(.b "str")])) (B (pure thing) (inTab false tt_KINDS)))
def f_is_list (thing : D) : M D := (B (pure thing) (isiD clsL [(.b "list"), (.b "tuple")]))
def f_are_words (thing : D) : M D := (eAnd (callB [(pure thing)] (l1 f_is_list) []) (eAnd (argsB [(B (B (B (pure thing) iterD) fun t3 => lc (fun word => (pure true)) (fun word => (callB [(pure word)] (l1 f_is_word) [])) t3) fun t4 => pure (.lst t4))] allD) (B (B (pure thing) lenSetD) fun t1 => B (argsB [(pure thing)] lenD) fun t2 => eqD t1 t2)))
def f_live_of_b1 (word : D) (y : (List D) × (List D)) : M ((List D) × (List D)) := (ifM (tAnd (noE (tst (B (B (pure word) (ixTab tt_KINDS)) fun t3 => B (pure (.lst y.2)) fun t4 => inD true t3 t4))) (noE (tst (B (pure (.str "entry")) fun t1 => B (pure (.lst y.2)) fun t2 => inD true t1 t2)))) (B (B (pure word) fun t6 => appO y.1 t6) fun found_1 => (B (B (B (pure word) (ixTab tt_KINDS)) fun t5 => appO y.2 t5) fun used_1 => (pure (found_1, used_1)))) (pure (y.1, y.2)))
def f_live_of (words : D) : M D := (B (argsB [] sizeL) fun found => B (argsB [] sizeL) fun used => (B (B (B (pure words) iterD) fun t7 => loopN f_live_of_b1 t7 (found, used)) fun y_1 => (argsB [(pure (.lst y_1.1))] tupleD)))
def f_Rule_init (words : D) : M D := onlyC "Rule" (ifM (tNot (tst (callB [(pure words)] (l1 f_are_words) []))) (raise ⟨"BadRule", [], []⟩) (B (argsB [(pure words)] tupleD) fun rule_words => (B (callB [(pure words)] (l1 f_live_of) []) fun rule_live => (pure (.ins "Rule" ["rule_words", "rule_live"] [rule_words, rule_live])))))
def f_need_rule (rule : D) : M D := (ifM (tNot (tst (B (pure rule) (isiD clsL [(.o "Rule")])))) (raise ⟨"BadRule", [], []⟩) (pure .non))
def f_Rule_words (self : D) : M D := (B (pure self) (fldD tab "rule_words"))
def f_rule_text (rule : D) : M D := (B (callB [(pure rule)] (l1 f_need_rule) []) fun _ => (joinX (pure (.str " ")) (B (pure rule) fun t1 => B (isC "Rule" t1) fun _ => noE ((l1 f_Rule_words) [t1]))))
def f_need_text (text : D) : M D := (ifM (tNot (tst (B (pure text) (isiD clsL [(.b "str")])))) (B (pure (.int 0)) fun t1 => raise ⟨"BadText", ["line"], [t1]⟩) (pure .non))
def f_read_rule (text : D) : M D := (B (callB [(pure text)] (l1 f_need_text) []) fun _ => (B (ifM (tst (B (pure text) fun t1 => B (pure (.str "")) fun t2 => eqD t1 t2)) (argsB [] lstD) (B (splitX (pure text) (pure (.str " "))) fun t3 => pure (.lst t3))) fun words => (ifM (tNot (tst (callB [(pure words)] (l1 f_are_words) []))) (B (pure (.int 0)) fun t4 => raise ⟨"BadText", ["line"], [t4]⟩) (callB [(pure words)] (l1 f_Rule_init) []))))
def f_Rule_eq (self : D) (other : D) : M D := (eAnd (B (pure other) (isiD clsL [(.o "Rule")])) (B (B (pure self) (fldD tab "rule_words")) fun t1 => B (B (pure other) (fldD tab "rule_words")) fun t2 => eqD t1 t2))
def f_law_pick (state : D) (several : D) : M D := (B (pure several) fun t1 => B (callB [(pure state), (argsB [(pure several)] lenD)] drawM []) fun t2 => idxD t1 t2)
def f_law_letters : M D := (pure (.str "abcdefghijklmnopqrstuvwxyz"))
def f_law_signs : M D := (B (pure (.str "\n !#$&'()*+,-./0123456789:;<=>?@ABCDEFGHIJKLMNOPQRSTUVWXYZ[]^_`")) fun signs_here => (B (B (pure signs_here) fun t1 => B ((l0 f_law_letters) []) fun t2 => addD t1 t2) fun t3 => B (pure (.str "{|}~")) fun t4 => addD t3 t4))
def f_law_spoilt (state : D) (said : D) : M D := (B (callB [(pure state), (pure (.int 8))] drawM []) fun way => B (callB [(pure state), (B (argsB [(pure said)] lenD) fun t1 => B (pure (.int 1)) fun t2 => addD t1 t2)] drawM []) fun spot => (B (callB [(pure state), ((l0 f_law_signs) [])] (l2 f_law_pick) []) fun sign => B (splitX (pure said) (pure (.str " "))) fun pieces => (ifM (tst (B (pure way) fun t3 => B (pure (.int 0)) fun t4 => eqD t3 t4)) (B (B (B (pure said) fun t5 => B (pure none) fun t6 => B (B (pure spot) partD) fun t7 => sliceD t5 t6 t7) fun t8 => B (pure sign) fun t9 => addD t8 t9) fun t13 => B (B (pure said) fun t10 => B (B (pure spot) partD) fun t11 => B (pure none) fun t12 => sliceD t10 t11 t12) fun t14 => addD t13 t14) (ifM (tst (B (pure way) fun t15 => B (pure (.int 1)) fun t16 => eqD t15 t16)) (B (B (pure said) fun t17 => B (pure none) fun t18 => B (B (pure spot) partD) fun t19 => sliceD t17 t18 t19) fun t25 => B (B (pure said) fun t22 => B (B (B (pure spot) fun t20 => B (pure (.int 1)) fun t21 => addD t20 t21) partD) fun t23 => B (pure none) fun t24 => sliceD t22 t23 t24) fun t26 => addD t25 t26) (ifM (tst (B (pure way) fun t27 => B (pure (.int 2)) fun t28 => eqD t27 t28)) (B (B (B (pure said) fun t29 => B (pure none) fun t30 => B (B (pure spot) partD) fun t31 => sliceD t29 t30 t31) fun t32 => B (pure sign) fun t33 => addD t32 t33) fun t39 => B (B (pure said) fun t36 => B (B (B (pure spot) fun t34 => B (pure (.int 1)) fun t35 => addD t34 t35) partD) fun t37 => B (pure none) fun t38 => sliceD t36 t37 t38) fun t40 => addD t39 t40) (ifM (tst (B (pure way) fun t41 => B (pure (.int 3)) fun t42 => eqD t41 t42)) (B (B (B (pure said) fun t43 => B (pure none) fun t44 => B (B (pure spot) partD) fun t45 => sliceD t43 t44 t45) fun t51 => B (B (pure said) fun t48 => B (B (pure spot) partD) fun t49 => B (B (B (pure spot) fun t46 => B (pure (.int 1)) fun t47 => addD t46 t47) partD) fun t50 => sliceD t48 t49 t50) fun t52 => addD t51 t52) fun t56 => B (B (pure said) fun t53 => B (B (pure spot) partD) fun t54 => B (pure none) fun t55 => sliceD t53 t54 t55) fun t57 => addD t56 t57) (ifM (tst (B (pure way) fun t58 => B (pure (.int 4)) fun t59 => eqD t58 t59)) (B (B (B (pure said) fun t60 => B (pure none) fun t61 => B (B (pure spot) partD) fun t62 => sliceD t60 t61 t62) fun t63 => B (callB [(pure state), (argsB [(pure (.str "0")), (pure (.str "1")), (pure (.str "-")), (pure (.str " ")), (pure (.str "*")), (pure (.str "a"))] lstD)] (l2 f_law_pick) []) fun t64 => addD t63 t64) fun t68 => B (B (pure said) fun t65 => B (B (pure spot) partD) fun t66 => B (pure none) fun t67 => sliceD t65 t66 t67) fun t69 => addD t68 t69) (ifM (tst (B (pure way) fun t70 => B (pure (.int 5)) fun t71 => eqD t70 t71)) (B (pure said) fun t72 => B (callB [(pure state), (argsB [(pure (.str "\n")), (pure (.str " ")), (pure (.str "-")), (pure (.str "0")), (pure (.str " 0")), (pure (.str "a"))] lstD)] (l2 f_law_pick) []) fun t73 => addD t72 t73) (ifM (tst (B (pure way) fun t74 => B (pure (.int 6)) fun t75 => eqD t74 t75)) (B (callB [(pure state), (pure (.int (pieces).length))] drawM []) fun one => B (callB [(pure state), (pure (.int (pieces).length))] drawM []) fun two => (B (B (pure one) fun t76 => idxD (.lst pieces) t76) fun first => (B (B (B (pure two) fun t77 => idxD (.lst pieces) t77) fun t80 => B (pure one) fun t81 => putX pieces t80 t81) fun pieces_1 => (B (B (pure first) fun t78 => B (pure two) fun t79 => putX pieces_1 t78 t79) fun pieces_2 => (joinX (pure (.str " ")) (pure (.lst pieces_2))))))) (pure said))))))))))
def f_law_read_wording (said : D) : M D := (B (ifM (tst (B (pure said) fun t1 => B (pure (.str "")) fun t2 => eqD t1 t2)) (argsB [] lstD) (B (splitX (pure said) (pure (.str " "))) fun t3 => pure (.lst t3))) fun found => (ifM (tOr (tst (B (B (B (B (pure found) iterD) fun t8 => lc (fun one => (tst (B (pure one) fun t6 => B ((l0 f_law_every) []) fun t7 => inD true t6 t7))) (fun one => (pure one)) t8) fun t9 => pure (.lst t9)) fun t10 => B (argsB [] lstD) fun t11 => neD t10 t11)) (tst (B (B (pure found) lenSetD) fun t4 => B (argsB [(pure found)] lenD) fun t5 => neD t4 t5))) (pure D.non) (pure found)))
def f_law_text_heard (mw : M D) : M D := (B (argsB [(pure D.non), (pure D.non)] tupD) (tp2 fun caught found => (B (tryM found caught (["BadText"] : List Str) mw) fun got => (ifM (tst (B (pure got.2) fun t1 => B (pure D.non) fun t2 => notNonD t1 t2)) (argsB [(pure (.str "BadText")), (B (pure got.2) (fldE exL exF "line"))] tupD) (pure got.1)))))
def f_law_b1 (one : D) (y_1 : Unit) : M (D ⊕ (Unit)) := (B (callB [(pure one)] (l1 f_law_read_wording) []) fun due => (B (ifM (tst (B (pure due) fun t20 => B (pure D.non) fun t21 => isNonD t20 t21)) (argsB [(pure (.str "BadText")), (pure (.int 0))] tupD) (argsB [(pure due)] tupleD)) fun due_1 => (B (argsB [(tabbed 0 "law" "law.<locals>.<lambda>" (noE (f_law_text_heard (B (callB [(pure one)] (l1 f_read_rule) []) fun t22 => B (isC "Rule" t22) fun _ => noE ((l1 f_Rule_words) [t22])))))] sizeL) fun heard => (B (B (tabbed 0 "law" "law.<locals>.<lambda>" (noE (f_law_text_heard (B (argsB [(pure one)] fun ys => argsK 0 1 1 arK [] (l1 f_read_rule) [] ys) fun t23 => B (isC "Rule" t23) fun _ => noE ((l1 f_Rule_words) [t23]))))) fun t26 => appO heard t26) fun heard_1 => (ifM (tst (B (argsB [(pure (.lst heard_1))] reprD) fun t24 => B (argsB [(argsB [(pure due_1), (pure due_1)] lstD)] reprD) fun t25 => neD t24 t25)) (B (pure (.bl false)) fun d => pure (.inl d)) (pure (.inr ())))))))
def f_law_b2 (thing : D) (y_3 : Unit) : M (D ⊕ (Unit)) := (ifM (tst (B (argsB [(tabbed 0 "law" "law.<locals>.<lambda>" (noE (f_law_text_heard (B (callB [(pure thing)] (l1 f_read_rule) []) fun t28 => B (isC "Rule" t28) fun _ => noE ((l1 f_Rule_words) [t28])))))] reprD) fun t29 => B (argsB [(argsB [(pure (.str "BadText")), (pure (.int 0))] tupD)] reprD) fun t30 => neD t29 t30)) (B (pure (.bl false)) fun d => pure (.inl d)) (pure (.inr ())))
def f_law_b3 (state : D) (turn : D) (y : Unit) : M (D ⊕ (Unit)) := (B (B (callB [(pure state), ((l0 f_law_every) [])] (l2 f_law_mixed) []) fun t4 => B (pure none) fun t5 => B (B (callB [(pure state), (pure (.int 9))] drawM []) partD) fun t6 => sliceD t4 t5 t6) fun wording => (B (joinX (pure (.str " ")) (pure wording)) fun said => B (callB [(pure wording)] (l1 f_Rule_init) []) fun made => (ifM (tst (B (argsB [(argsB [(callB [(pure made)] (l1 f_rule_text) []), (argsB [(callB [(argsB [(pure wording)] tupleD)] (l1 f_Rule_init) [])] fun ys => argsK 0 1 1 arK [] (l1 f_rule_text) [] ys)] lstD)] reprD) fun t7 => B (argsB [(argsB [(pure said), (pure said)] lstD)] reprD) fun t8 => neD t7 t8)) (B (pure (.bl false)) fun d => pure (.inl d)) (ifM (tOr (tNot (tst (B (callB [(pure said)] (l1 f_read_rule) []) fun t12 => B (pure made) fun t13 => eqY clsL eqL [("Rule", f_Rule_eq)] t12 t13))) (tst (B (argsB [(B (callB [(pure said)] (l1 f_read_rule) []) fun t9 => B (isC "Rule" t9) fun _ => noE ((l1 f_Rule_words) [t9]))] reprD) fun t10 => B (argsB [(argsB [(pure wording)] tupleD)] reprD) fun t11 => neD t10 t11))) (B (pure (.bl false)) fun d => pure (.inl d)) (B (callB [(pure state), (pure said)] (l2 f_law_spoilt) []) fun near => (B (B (B (argsB [(pure near), (B (B (pure said) fun t14 => B (pure (.str " ")) fun t15 => addD t14 t15) fun t16 => B (callB [(pure state), ((l0 f_law_every) [])] (l2 f_law_pick) []) fun t17 => addD t16 t17), (callB [(pure state), (pure near)] (l2 f_law_spoilt) []), (B (pure said) fun t18 => B (pure (.str "\n")) fun t19 => addD t18 t19)] tupD) iterD) fun t27 => loopS f_law_b1 t27 ()) (orRet Sum.inl fun y_2 => (B (B (B (argsB [(pure D.non), (pure (.int 5)), (pure (.bl true)), (pure wording), (argsB [(pure wording)] tupleD), (pure made), (pure (.dic [] []))] tupD) iterD) fun t31 => loopS f_law_b2 t31 ()) (orRet Sum.inl fun y_4 => (pure (.inr ())))))))))))
def f_law (script : D) : M D := (B (callB [(pure script)] begunD []) fun state => (B (B (B (B (pure (.int 8)) fun t1 => B (argsB [(argsB [(pure script)] lenD), (pure (.int 40))] minD) fun t2 => addD t1 t2) fun t3 => rangeD [t3]) fun t32 => loopS (f_law_b3 state) t32 ()) (orRet (fun d => d) fun y_5 => (pure (.bl true)))))
variable {P : Program} {w : World} {K : PySem.W.Frag} {mg : Str → Option Value} {base : Heap}
/-! _law_begun -/
theorem sc_law_begun : FnScope ["_law_script", "_law_cells", "_law_cell"] ["_law_script"] (defScope s_law_begun) := ⟨rfl, rfl, rfl, by decide +kernel, rfl, by decide +kernel, by decide +kernel⟩
abbrev FP_law_begun (K : PySem.W.Frag) (fd : FuncData) : Prop := FunD K "_law_begun" "_law_begun" (defArgs s_law_begun) (defBody s_law_begun) (defScope s_law_begun) ([]) [] (He.ga K "_law_begun") fd
theorem ok_law_begun (T : TextF P w K mg) (TB : TabsB base mg K tfL) : ∃ fd, FP_law_begun K fd ∧ Own P w K mg base 1 (He.ga K "_law_begun") fd ["_law_script"] begunD := by
  obtain ⟨fd, F⟩ := T.says.d.def_ 0 (d := d_law_begun) rfl
  have F : FP_law_begun K fd := F
  refine ⟨fd, F, fnG_of F sc_law_begun (fun vs H Q E h => spD.len vs H Q _ h) (fun cdv A fr s H vs Q E hG hr h => ⟨tBegun K, ?_, begun_read rfl vs H Q E h⟩), F.kp⟩
  exact pss_cons (ps_setLc (own := [("_law_cell", 2)]) rfl sc_law_begun.nd rfl rfl (sw_true rfl rfl rfl (by decide +kernel)) (pi_list (pv 0)) (blkOk_by (by first | decide +kernel | kernel_rfl)) (fun _ _ _ _ _ => pg_name sc_law_begun.nd rfl (by first | exact .inl rfl | exact .inr rfl)) (fun _ _ _ _ _ => pts_nil) (fun _ _ _ _ _ => pe_callB call_abs rfl T.n_abs (by decide +kernel) (pa_cons (pv 2) pa_nil)))
    (pss_one (ps_ret (pe_disp (pps_cons pe_str (pe_lc (own := [("_law_cell", 2)]) rfl sc_law_begun.nd (pi_list (pv 1)) (blkOk_by (by first | decide +kernel | kernel_rfl)) (fun _ _ _ _ _ => pg_name sc_law_begun.nd rfl (by first | exact .inl rfl | exact .inr rfl)) (fun _ _ _ _ _ => pts_one (pt_cmpR op_ge (pv 2) (pe_op op_pow pe_int pe_int) (nomark _))) (fun _ _ _ _ _ => pe_op op_sub (pv 2) (pe_op op_pow pe_int pe_int))) (pps_cons pe_str (pv 1) (pps_cons pe_str pe_int (pps_cons pe_str pe_int pps_nil)))) rfl rfl (by intro h; cases h) (by decide))))
/-! _law_draw -/
theorem sc_law_draw : FnScope ["_law_state", "_law_size", "_law_found", "_law_turn", "_law_cell", "_law_mixed_here"] ["_law_state", "_law_size"] (defScope s_law_draw) := ⟨rfl, rfl, rfl, by decide +kernel, rfl, by decide +kernel, by decide +kernel⟩
abbrev FP_law_draw (K : PySem.W.Frag) (fd : FuncData) : Prop := FunD K "_law_draw" "_law_draw" (defArgs s_law_draw) (defBody s_law_draw) (defScope s_law_draw) ([]) [] (He.ga K "_law_draw") fd
theorem ok_law_draw (T : TextF P w K mg) (TB : TabsB base mg K tfL) : ∃ fd, FP_law_draw K fd ∧ Own P w K mg base 1 (He.ga K "_law_draw") fd ["_law_state", "_law_size"] drawM := by
  obtain ⟨fd, F⟩ := T.says.d.def_ 1 (d := d_law_draw) rfl
  have F : FP_law_draw K fd := F
  refine ⟨fd, F, fnD_of F sc_law_draw (fun cdv A fr s H E B => ?_) rfl, F.kp⟩
  exact ds_cons (ds_while 1100 B.po (DW.dt (dw_and (dt_eq B.room.units (de_rest 0 (units1 B.room)) de_int) (dw_and1 (dt_large 0 B.room.units)))) (ds_one (ds_popL 0 (units1 B.room))))
    (ds_cons (ds_if (dt_gt (de_rest 0 (units1 B.room)) de_int) (ds_cons (ds_set 2 sc_law_draw.nd rfl (.inl rfl) (de_mod (de_int_ rfl T.n_int (da_cons (de_rest 0 (units1 B.room)) da_nil)) (de_var 1))) (ds_cons (ds_rest 0 (units1 B.room) (de_fdiv (de_rest 0 (units1 B.room)) (de_var 1))) (ds_one (ds_ret (de_var 2))))) ds_nil)
    (ds_cons (ds_set 3 sc_law_draw.nd rfl (.inl rfl) (de_add (de_turn 0 (units1 B.room)) de_int))
    (ds_cons (ds_turn 0 (units1 B.room) (de_var 3))
    (ds_cons (ds_set 4 sc_law_draw.nd rfl (.inl rfl) (de_if (dt_cells 0 B.room.units) (de_cell 0 (units1 B.room) (de_mod (de_int_ rfl T.n_int (da_cons (de_var 3) da_nil)) (de_lenCells 0 (units1 B.room) rfl T.n_len)) (fun _ _ => rfl)) de_int))
    (ds_cons (ds_set 5 sc_law_draw.nd rfl (.inl rfl) (de_mod (de_int_ rfl T.n_int (da_cons (de_pow (de_add (de_add (de_mod (de_int_ rfl T.n_int (da_cons (de_var 4) da_nil)) de_int) (de_mul de_int (de_var 3))) de_int) de_int) da_nil)) de_int))
    (ds_one (ds_ret (de_mod (de_int_ rfl T.n_int (da_cons (de_fdiv (de_mod (de_int_ rfl T.n_int (da_cons (de_pow (de_add (de_var 5) (de_mul de_int (de_var 3))) de_int) da_nil)) de_int) de_int) da_nil)) (de_var 1)))))))))
/-! _law_mixed -/
theorem sc_law_mixed : FnScope ["_law_state", "_law_several", "_law_left", "_law_found"] ["_law_state", "_law_several"] (defScope s_law_mixed) := ⟨rfl, rfl, rfl, by decide +kernel, rfl, by decide +kernel, by decide +kernel⟩
abbrev FP_law_mixed (K : PySem.W.Frag) (fd : FuncData) : Prop := FunD K "_law_mixed" "_law_mixed" (defArgs s_law_mixed) (defBody s_law_mixed) (defScope s_law_mixed) ([]) [] (He.ga K "_law_mixed") fd
theorem ok_law_mixed (T : TextF P w K mg) (TB : TabsB base mg K tfL) : ∃ fd, FP_law_mixed K fd ∧ Own P w K mg base 2 (He.ga K "_law_mixed") fd ["_law_state", "_law_several"] (l2 f_law_mixed) := by
  obtain ⟨fd, F⟩ := T.says.d.def_ 2 (d := d_law_mixed) rfl
  have F : FP_law_mixed K fd := F
  obtain ⟨fd_law_draw, F_law_draw, O_law_draw⟩ := ok_law_draw (P := P) (w := w) (base := base) T TB
  have b_law_draw : Binds K fd_law_draw ["_law_state", "_law_size"] [] := F_law_draw.bindsN fun _ _ _ _ _ _ us hl => match us, hl with | [_, _], _ => rfl
  refine ⟨fd, F, fnX_of (k := 1) (gf := (l2 f_law_mixed)) F sc_law_mixed (fun cdv A fr s H E B ds hl => ?_), F.kp⟩
  match ds, hl with | [state, several], _ => exact (by exact xs_par_oo 2 3 (by exact B.calm) (by exact sc_law_mixed.nd) (by rfl) (by rfl) (by decide) (by rfl) (by rfl) (by exact xf_list (by rfl) (by exact T.n_list) (by exact xe_var 1)) (by exact xf_lst xa_nil) (by intro left found; exact (by exact xs_then (e := (fun yy : (List D) × (List D) => ([some (.val state), some (.val several), some (.own yy.1), some (.own yy.2)] : DSt))) (by exact xs_whileN (mc := f_law_mixed_w1c) (f := (f_law_mixed_w2b state)) 1100 (fun yy : (List D) × (List D) => ([some (.val state), some (.val several), some (.own yy.1), some (.own yy.2)] : DSt)) (left, found) (by exact B.po) (by exact ⟨.inr rfl, .inr rfl, .inr rfl, .inr rfl, trivial⟩) (by intro y; exact (by exact xt_lent 2 (by rfl) (by exact xt_ne (by exact B.room.units) (by exact xe_var 2) (by exact xe_lst xa_nil)))) (by intro y; exact (by exact xs_appPop 3 2 (by decide) (by rfl) (by rfl) (by rfl) (by rfl) (by exact xe_call (x := "_law_draw") (ps := ["_law_state", "_law_size"]) (gf := drawM) (dds := []) (by exact O_law_draw.fn) (by exact B.room.mono (by decide)) (by exact B.gd) (by exact B.tk) (by rfl) (by exact T.g_law_draw) (by exact O_law_draw.kp) (by exact b_law_draw) (by exact .nil) (by exact fun _ _ => DenL.nil) (by exact xa_cons (by exact xe_var 0) (by exact xa_cons (by exact xe_lenO 2 (by rfl) (by exact T.n_len)) xa_nil))) (by intro both; exact (by exact xs_nil (a := (both.2, both.1)) (by exact ⟨_, rfl, ⟨.inr rfl, .inr rfl, .inr rfl, .inr rfl, trivial⟩⟩)))))) (by intro y_1; exact (by exact xs_freeze 3 (by rfl) (by exact xs_retB (by exact xe_var 3)))))))
/-! _law_every -/
theorem sc_law_every : FnScope [] [] (defScope s_law_every) := ⟨rfl, rfl, rfl, by decide +kernel, rfl, by decide +kernel, by decide +kernel⟩
abbrev FP_law_every (K : PySem.W.Frag) (fd : FuncData) : Prop := FunD K "_law_every" "_law_every" (defArgs s_law_every) (defBody s_law_every) (defScope s_law_every) ([]) [] (He.ga K "_law_every") fd
theorem ok_law_every (T : TextF P w K mg) (TB : TabsB base mg K tfL) : ∃ fd, FP_law_every K fd ∧ Own P w K mg base 1 (He.ga K "_law_every") fd [] (l0 f_law_every) := by
  obtain ⟨fd, F⟩ := T.says.d.def_ 3 (d := d_law_every) rfl
  have F : FP_law_every K fd := F
  refine ⟨fd, F, fnX_of (k := 0) (gf := (l0 f_law_every)) F sc_law_every (fun cdv A fr s H E B ds hl => ?_), F.kp⟩
  match ds, hl with | [], _ => exact (by exact xs_retB (by exact xe_lst (by exact xa_cons (by exact xe_str) (by exact xa_cons (by exact xe_str) (by exact xa_cons (by exact xe_str) (by exact xa_cons (by exact xe_str) (by exact xa_cons (by exact xe_str) (by exact xa_cons (by exact xe_str) (by exact xa_cons (by exact xe_str) (by exact xa_cons (by exact xe_str) xa_nil))))))))))
/-! is_word -/
theorem sc_is_word : FnScope ["thing"] ["thing"] (defScope s_is_word) := ⟨rfl, rfl, rfl, by decide +kernel, rfl, by decide +kernel, by decide +kernel⟩
abbrev FP_is_word (K : PySem.W.Frag) (fd : FuncData) : Prop := FunD K "is_word" "is_word" (defArgs s_is_word) (defBody s_is_word) (defScope s_is_word) ([]) [] (He.ga K "is_word") fd
theorem ok_is_word (T : TextF P w K mg) (TB : TabsB base mg K tfL) : ∃ fd, FP_is_word K fd ∧ Own P w K mg base 1 (He.ga K "is_word") fd ["thing"] (l1 f_is_word) := by
  obtain ⟨fd, F⟩ := T.says.d.def_ 4 (d := d_is_word) rfl
  have F : FP_is_word K fd := F
  refine ⟨fd, F, fnX_of (k := 0) (gf := (l1 f_is_word)) F sc_is_word (fun cdv A fr s H E B ds hl => ?_), F.kp⟩
  match ds, hl with | [thing], _ => exact (by exact xs_retB (by exact xe_and (by exact xe_isi (by exact T.cls) (.b "str") (by rfl) (by exact T.n_isinstance) (by exact xe_var 0) (by exact pe_ty "str" (by rfl) (by exact T.n_str) (by decide +kernel))) (by exact xe_one (by exact xe_inT (V := E) (x := "KINDS") (by exact T.t_KINDS) (by rfl) (by exact T.g_KINDS) (by exact xe_var 0)))))
/-! is_list -/
theorem sc_is_list : FnScope ["thing"] ["thing"] (defScope s_is_list) := ⟨rfl, rfl, rfl, by decide +kernel, rfl, by decide +kernel, by decide +kernel⟩
abbrev FP_is_list (K : PySem.W.Frag) (fd : FuncData) : Prop := FunD K "is_list" "is_list" (defArgs s_is_list) (defBody s_is_list) (defScope s_is_list) ([]) [] (He.ga K "is_list") fd
theorem ok_is_list (T : TextF P w K mg) (TB : TabsB base mg K tfL) : ∃ fd, FP_is_list K fd ∧ Own P w K mg base 1 (He.ga K "is_list") fd ["thing"] (l1 f_is_list) := by
  obtain ⟨fd, F⟩ := T.says.d.def_ 5 (d := d_is_list) rfl
  have F : FP_is_list K fd := F
  refine ⟨fd, F, fnX_of (k := 0) (gf := (l1 f_is_list)) F sc_is_list (fun cdv A fr s H E B ds hl => ?_), F.kp⟩
  match ds, hl with | [thing], _ => exact (by exact xs_retB (by exact xe_isi2 (by exact T.cls) (.b "list") (.b "tuple") (by rfl) (by exact T.n_isinstance) (by exact xe_var 0) (by exact pe_ty "list" (by rfl) (by exact T.n_list) (by decide +kernel)) (by exact pe_ty "tuple" (by rfl) (by exact T.n_tuple) (by decide +kernel))))
/-! are_words -/
theorem sc_are_words : FnScope ["thing", "word"] ["thing"] (defScope s_are_words) := ⟨rfl, rfl, rfl, by decide +kernel, rfl, by decide +kernel, by decide +kernel⟩
abbrev FP_are_words (K : PySem.W.Frag) (fd : FuncData) : Prop := FunD K "are_words" "are_words" (defArgs s_are_words) (defBody s_are_words) (defScope s_are_words) ([]) [] (He.ga K "are_words") fd
theorem ok_are_words (T : TextF P w K mg) (TB : TabsB base mg K tfL) : ∃ fd, FP_are_words K fd ∧ Own P w K mg base 2 (He.ga K "are_words") fd ["thing"] (l1 f_are_words) := by
  obtain ⟨fd, F⟩ := T.says.d.def_ 6 (d := d_are_words) rfl
  have F : FP_are_words K fd := F
  obtain ⟨fd_is_word, F_is_word, O_is_word⟩ := ok_is_word (P := P) (w := w) (base := base) T TB
  have b_is_word : Binds K fd_is_word ["thing"] [] := F_is_word.bindsN fun _ _ _ _ _ _ us hl => match us, hl with | [_], _ => rfl
  obtain ⟨fd_is_list, F_is_list, O_is_list⟩ := ok_is_list (P := P) (w := w) (base := base) T TB
  have b_is_list : Binds K fd_is_list ["thing"] [] := F_is_list.bindsN fun _ _ _ _ _ _ us hl => match us, hl with | [_], _ => rfl
  refine ⟨fd, F, fnX_of (k := 1) (gf := (l1 f_are_words)) F sc_are_words (fun cdv A fr s H E B ds hl => ?_), F.kp⟩
  match ds, hl with | [thing], _ => exact (by exact xs_retB (by exact xe_and (by exact xe_call (x := "is_list") (ps := ["thing"]) (gf := (l1 f_is_list)) (dds := []) (by exact O_is_list.fn) (by exact B.room.mono (by decide)) (by exact B.gd) (by exact B.tk) (by rfl) (by exact T.g_is_list) (by exact O_is_list.kp) (by exact b_is_list) (by exact .nil) (by exact fun _ _ => DenL.nil) (by exact xa_cons (by exact xe_var 0) xa_nil)) (by exact xe_and (by exact xe_all (by exact B.calm) (by rfl) (by exact T.n_all) (by exact xa_cons (by exact XF.xe (by exact xf_lc (T := (.nm 1)) (by exact B.calm) (by exact sc_are_words.nd) (by exact xi_any (by exact xe_var 0)) (blkOk_by (own := [("word", 1)]) (by first | decide +kernel | kernel_rfl)) (by intro _ _ _ _ _; exact (by exact pg_name (by exact sc_are_words.nd) (by rfl) (by first | exact .inl rfl | exact .inr rfl))) (by exact none1 (by rfl)) (by intro _ _ _ _ _; exact tgt1 (by intro word; exact xts_yes)) (by intro _ _ _ _ _; exact tgt1 (by intro word; exact (by exact xe_call (x := "is_word") (ps := ["thing"]) (gf := (l1 f_is_word)) (dds := []) (by exact O_is_word.fn) (by exact B.room.mono (by decide)) (by exact B.gd) (by exact takes0) (by rfl) (by exact T.g_is_word) (by exact O_is_word.kp) (by exact b_is_word) (by exact .nil) (by exact fun _ _ => DenL.nil) (by exact xa_cons (by exact xe_var 1) xa_nil)))) (by decide))) xa_nil)) (by exact xe_one (by exact xe_eq (by exact B.room.units) (by exact xe_lenSet (by exact B.calm) (by rfl) (by exact T.n_len) (by rfl) (by exact T.n_set) (by exact xe_var 0)) (by exact xe_len (by rfl) (by exact T.n_len) (by exact xa_cons (by exact xe_var 0) xa_nil)))))))
/-! live_of -/
theorem sc_live_of : FnScope ["words", "found", "used", "word"] ["words"] (defScope s_live_of) := ⟨rfl, rfl, rfl, by decide +kernel, rfl, by decide +kernel, by decide +kernel⟩
abbrev FP_live_of (K : PySem.W.Frag) (fd : FuncData) : Prop := FunD K "live_of" "live_of" (defArgs s_live_of) (defBody s_live_of) (defScope s_live_of) ([]) [] (He.ga K "live_of") fd
theorem ok_live_of (T : TextF P w K mg) (TB : TabsB base mg K tfL) : ∃ fd, FP_live_of K fd ∧ Own P w K mg base 1 (He.ga K "live_of") fd ["words"] (l1 f_live_of) := by
  obtain ⟨fd, F⟩ := T.says.d.def_ 7 (d := d_live_of) rfl
  have F : FP_live_of K fd := F
  refine ⟨fd, F, fnX_of (k := 0) (gf := (l1 f_live_of)) F sc_live_of (fun cdv A fr s H E B ds hl => ?_), F.kp⟩
  match ds, hl with | [words], _ => exact (by exact xs_par_oo 1 2 (by exact B.calm) (by exact sc_live_of.nd) (by rfl) (by rfl) (by decide) (by rfl) (by rfl) (by exact xf_lst xa_nil) (by exact xf_lst xa_nil) (by intro found used; exact (by exact xs_then (e := (fun yy : (List D) × (List D) => ([some (.val words), some (.own yy.1), some (.own yy.2), none] : DSt))) (by exact xs_forN (T := (.nm 3)) (f := f_live_of_b1) (fun yy : (List D) × (List D) => ([some (.val words), some (.own yy.1), some (.own yy.2), none] : DSt)) (found, used) (by exact B.po) (by exact B.calm) (by exact xi_any (by exact xe_var 0)) (by exact pg_name (by exact sc_live_of.nd) (by rfl) (by first | exact .inl rfl | exact .inr rfl)) (by exact ⟨.inr rfl, .inr rfl, .inr rfl, .inl rfl, trivial⟩) (by intro y; exact none1 (by rfl)) (by intro y; exact tgt1 (by intro word; exact (by exact xs_last (by exact xs_if (by exact XW.xt (by exact xw_and (by exact xt_lent 2 (by rfl) (by exact xt_notin (by exact xe_ixT (V := E) (x := "KINDS") (by exact T.t_KINDS) (by rfl) (by exact T.g_KINDS) (by exact xe_var 3) (by exact fun _ _ => rfl)) (by exact xe_var 2))) (by exact xw_and1 (by exact xt_lent 2 (by rfl) (by exact xt_notin (by exact xe_str) (by exact xe_var 2)))))) (by exact xs_append 1 (by rfl) (by rfl) (by exact xe_var 3) (by intro found_1; exact (by exact xs_append 2 (by rfl) (by rfl) (by exact xe_ixT (V := E) (x := "KINDS") (by exact T.t_KINDS) (by rfl) (by exact T.g_KINDS) (by exact xe_var 3) (by exact fun _ _ => rfl)) (by intro used_1; exact (by exact xs_nil (a := (found_1, used_1)) (by exact ⟨_, rfl, ⟨.inr rfl, .inr rfl, .inr rfl, .inl rfl, trivial⟩⟩)))))) (by exact xs_nil (a := (y.1, y.2)) (by exact ⟨_, rfl, ⟨.inr rfl, .inr rfl, .inr rfl, .inl rfl, trivial⟩⟩))))))) (by intro y_1; exact (by exact xs_freeze 1 (by rfl) (by exact xs_retB (by exact xe_tuple_ (by rfl) (by exact T.n_tuple) (by exact xa_cons (by exact xe_var 1) xa_nil))))))))
/-! Rule.__init__ -/
theorem sc_Rule_init : FnScope ["self", "words"] ["self", "words"] (defScope s_Rule_init) := ⟨rfl, rfl, rfl, by decide +kernel, rfl, by decide +kernel, by decide +kernel⟩
abbrev FP_Rule_init (K : PySem.W.Frag) (fd : FuncData) : Prop := FunD K "__init__" "Rule.__init__" (defArgs s_Rule_init) (defBody s_Rule_init) (defScope s_Rule_init) (d_Rule_init.dvs K) [] (He.ma K (He.ga K "Rule") "__init__") fd
theorem ok_Rule_init (T : TextF P w K mg) (TB : TabsB base mg K tfL) : ∃ fd, FP_Rule_init K fd ∧ OwnI P w K mg base 3 "Rule" (He.ma K (He.ga K "Rule") "__init__") fd ["self", "words"] (l1 f_Rule_init) := by
  obtain ⟨fd, F⟩ := T.says.d.def_ 8 (d := d_Rule_init) rfl
  have F : FP_Rule_init K fd := F
  obtain ⟨fd_are_words, F_are_words, O_are_words⟩ := ok_are_words (P := P) (w := w) (base := base) T TB
  have b_are_words : Binds K fd_are_words ["thing"] [] := F_are_words.bindsN fun _ _ _ _ _ _ us hl => match us, hl with | [_], _ => rfl
  obtain ⟨fd_live_of, F_live_of, O_live_of⟩ := ok_live_of (P := P) (w := w) (base := base) T TB
  have b_live_of : Binds K fd_live_of ["words"] [] := F_live_of.bindsN fun _ _ _ _ _ _ us hl => match us, hl with | [_], _ => rfl
  refine ⟨fd, F, fnI_of (k := 2) (gf := (l1 f_Rule_init)) (by decide) F sc_Rule_init (fun cdv A fr s H E B a0 ds hl => ?_), mk1 (fun _ => rfl)⟩
  match ds, hl with | [words], _ => exact XS.only (by exact xs_if1 (by exact xt_not (by exact xt_val (by exact xe_call (x := "are_words") (ps := ["thing"]) (gf := (l1 f_are_words)) (dds := []) (by exact O_are_words.fn) (by exact B.room.mono (by decide)) (by exact B.gd) (by exact B.tk) (by rfl) (by exact T.g_are_words) (by exact O_are_words.kp) (by exact b_are_words) (by exact .nil) (by exact fun _ _ => DenL.nil) (by exact xa_cons (by exact xe_var 1) xa_nil)))) (by exact xs_raiseT (by exact T.tx_BadRule) (by exact B.calm) (by exact B.tk) (by rfl) (by exact T.g_BadRule)) (by exact xs_fldS 0 (by exact T.fld) (by rfl) (by rfl) (by exact xe_tuple_ (by rfl) (by exact T.n_tuple) (by exact xa_cons (by exact xe_var 1) xa_nil)) (by intro rule_words; exact (by exact xs_fldS 0 (by exact T.fld) (by rfl) (by rfl) (by exact xe_call (x := "live_of") (ps := ["words"]) (gf := (l1 f_live_of)) (dds := []) (by exact O_live_of.fn) (by exact B.room.mono (by decide)) (by exact B.gd) (by exact B.tk) (by rfl) (by exact T.g_live_of) (by exact O_live_of.kp) (by exact b_live_of) (by exact .nil) (by exact fun _ _ => DenL.nil) (by exact xa_cons (by exact xe_var 1) xa_nil)) (by intro rule_live; exact (by exact xs_made (by rfl)))))))
/-! need_rule -/
theorem sc_need_rule : FnScope ["rule"] ["rule"] (defScope s_need_rule) := ⟨rfl, rfl, rfl, by decide +kernel, rfl, by decide +kernel, by decide +kernel⟩
abbrev FP_need_rule (K : PySem.W.Frag) (fd : FuncData) : Prop := FunD K "need_rule" "need_rule" (defArgs s_need_rule) (defBody s_need_rule) (defScope s_need_rule) ([]) [] (He.ga K "need_rule") fd
theorem ok_need_rule (T : TextF P w K mg) (TB : TabsB base mg K tfL) : ∃ fd, FP_need_rule K fd ∧ Own P w K mg base 1 (He.ga K "need_rule") fd ["rule"] (l1 f_need_rule) := by
  obtain ⟨fd, F⟩ := T.says.d.def_ 9 (d := d_need_rule) rfl
  have F : FP_need_rule K fd := F
  refine ⟨fd, F, fnX_of (k := 0) (gf := (l1 f_need_rule)) F sc_need_rule (fun cdv A fr s H E B ds hl => ?_), F.kp⟩
  match ds, hl with | [rule], _ => exact (by exact xs_last (by exact xs_if (by exact xt_not (by exact xt_val (by exact xe_isi (by exact T.cls) (.o "Rule") (by rfl) (by exact T.n_isinstance) (by exact xe_var 0) (by exact pe_own "Rule" (by rfl) (by exact T.g_Rule))))) (by exact xs_raiseT (by exact T.tx_BadRule) (by exact B.calm) (by exact B.tk) (by rfl) (by exact T.g_BadRule)) (by exact xs_nil (a := D.non) (by exact .inr ⟨rfl, _, rfl⟩))))
/-! Rule.words -/
theorem sc_Rule_words : FnScope ["self"] ["self"] (defScope s_Rule_words) := ⟨rfl, rfl, rfl, by decide +kernel, rfl, by decide +kernel, by decide +kernel⟩
abbrev FP_Rule_words (K : PySem.W.Frag) (fd : FuncData) : Prop := FunD K "words" "Rule.words" (defArgs s_Rule_words) (defBody s_Rule_words) (defScope s_Rule_words) ([]) [] (pAd K "Rule" "words") fd
theorem ok_Rule_words (T : TextF P w K mg) (TB : TabsB base mg K tfL) : ∃ fd, FP_Rule_words K fd ∧ Own P w K mg base 1 (pAd K "Rule" "words") fd ["self"] (l1 f_Rule_words) := by
  obtain ⟨_, fd, F⟩ := T.says.prop_ 0 rfl
  have F : FP_Rule_words K fd := F
  refine ⟨fd, F, fnX_of (k := 0) (gf := (l1 f_Rule_words)) F sc_Rule_words (fun cdv A fr s H E B ds hl => ?_), F.kp⟩
  match ds, hl with | [self], _ => exact (by exact xs_retB (by exact xe_fld (by exact T.fld) "rule_words" (by exact xe_var 0)))
/-! rule_text -/
theorem sc_rule_text : FnScope ["rule"] ["rule"] (defScope s_rule_text) := ⟨rfl, rfl, rfl, by decide +kernel, rfl, by decide +kernel, by decide +kernel⟩
abbrev FP_rule_text (K : PySem.W.Frag) (fd : FuncData) : Prop := FunD K "rule_text" "rule_text" (defArgs s_rule_text) (defBody s_rule_text) (defScope s_rule_text) ([]) [] (He.ga K "rule_text") fd
theorem ok_rule_text (T : TextF P w K mg) (TB : TabsB base mg K tfL) : ∃ fd, FP_rule_text K fd ∧ Own P w K mg base 3 (He.ga K "rule_text") fd ["rule"] (l1 f_rule_text) := by
  obtain ⟨fd, F⟩ := T.says.d.def_ 10 (d := d_rule_text) rfl
  have F : FP_rule_text K fd := F
  obtain ⟨fd_need_rule, F_need_rule, O_need_rule⟩ := ok_need_rule (P := P) (w := w) (base := base) T TB
  have b_need_rule : Binds K fd_need_rule ["rule"] [] := F_need_rule.bindsN fun _ _ _ _ _ _ us hl => match us, hl with | [_], _ => rfl
  have P_Rule_words := (T.says.prop_ 0 rfl).1
  obtain ⟨fd_Rule_words, F_Rule_words, O_Rule_words⟩ := ok_Rule_words (P := P) (w := w) (base := base) T TB
  have b_Rule_words : Binds K fd_Rule_words ["self"] [] := F_Rule_words.bindsN fun _ _ _ _ _ _ us hl => match us, hl with | [_], _ => rfl
  refine ⟨fd, F, fnX_of (k := 2) (gf := (l1 f_rule_text)) F sc_rule_text (fun cdv A fr s H E B ds hl => ?_), F.kp⟩
  match ds, hl with | [rule], _ => exact (by exact xs_expr (by exact xe_call (x := "need_rule") (ps := ["rule"]) (gf := (l1 f_need_rule)) (dds := []) (by exact O_need_rule.fn) (by exact B.room.mono (by decide)) (by exact B.gd) (by exact B.tk) (by rfl) (by exact T.g_need_rule) (by exact O_need_rule.kp) (by exact b_need_rule) (by exact .nil) (by exact fun _ _ => DenL.nil) (by exact xa_cons (by exact xe_var 0) xa_nil)) (by exact xs_retB (by exact xe_join (by exact xe_str) (by exact xe_prop "Rule" "words" (gf := (l1 f_Rule_words)) (by exact P_Rule_words) (by exact T.cls.cl "Rule" (by decide)) (by exact O_Rule_words.fn) (by exact B.room.mono (by decide)) (by exact B.gd) (by exact b_Rule_words) (by exact xe_var 0)))))
/-! need_text -/
theorem sc_need_text : FnScope ["text"] ["text"] (defScope s_need_text) := ⟨rfl, rfl, rfl, by decide +kernel, rfl, by decide +kernel, by decide +kernel⟩
abbrev FP_need_text (K : PySem.W.Frag) (fd : FuncData) : Prop := FunD K "need_text" "need_text" (defArgs s_need_text) (defBody s_need_text) (defScope s_need_text) ([]) [] (He.ga K "need_text") fd
theorem ok_need_text (T : TextF P w K mg) (TB : TabsB base mg K tfL) : ∃ fd, FP_need_text K fd ∧ Own P w K mg base 3 (He.ga K "need_text") fd ["text"] (l1 f_need_text) := by
  obtain ⟨fd, F⟩ := T.says.d.def_ 11 (d := d_need_text) rfl
  have F : FP_need_text K fd := F
  refine ⟨fd, F, fnX_of (k := 2) (gf := (l1 f_need_text)) F sc_need_text (fun cdv A fr s H E B ds hl => ?_), F.kp⟩
  match ds, hl with | [text], _ => exact (by exact xs_last (by exact xs_if (by exact xt_not (by exact xt_val (by exact xe_isi (by exact T.cls) (.b "str") (by rfl) (by exact T.n_isinstance) (by exact xe_var 0) (by exact pe_ty "str" (by rfl) (by exact T.n_str) (by decide +kernel))))) (by exact xs_raiseS (k := 1) (by exact T.su_BadText) (by exact ss_BadText) (by rfl) (by rfl) (by rfl) (by intros; rfl) (by exact B.room.mono (by decide)) (by exact B.calm) (by exact B.tk) (by exact T.n_super) (by rfl) (by exact T.g_BadText) (by exact xe_int)) (by exact xs_nil (a := D.non) (by exact .inr ⟨rfl, _, rfl⟩))))
/-! read_rule -/
theorem sc_read_rule : FnScope ["text", "words"] ["text"] (defScope s_read_rule) := ⟨rfl, rfl, rfl, by decide +kernel, rfl, by decide +kernel, by decide +kernel⟩
abbrev FP_read_rule (K : PySem.W.Frag) (fd : FuncData) : Prop := FunD K "read_rule" "read_rule" (defArgs s_read_rule) (defBody s_read_rule) (defScope s_read_rule) ([]) [] (He.ga K "read_rule") fd
theorem ok_read_rule (T : TextF P w K mg) (TB : TabsB base mg K tfL) : ∃ fd, FP_read_rule K fd ∧ Own P w K mg base 5 (He.ga K "read_rule") fd ["text"] (l1 f_read_rule) := by
  obtain ⟨fd, F⟩ := T.says.d.def_ 12 (d := d_read_rule) rfl
  have F : FP_read_rule K fd := F
  obtain ⟨fd_need_text, F_need_text, O_need_text⟩ := ok_need_text (P := P) (w := w) (base := base) T TB
  have b_need_text : Binds K fd_need_text ["text"] [] := F_need_text.bindsN fun _ _ _ _ _ _ us hl => match us, hl with | [_], _ => rfl
  obtain ⟨fd_are_words, F_are_words, O_are_words⟩ := ok_are_words (P := P) (w := w) (base := base) T TB
  have b_are_words : Binds K fd_are_words ["thing"] [] := F_are_words.bindsN fun _ _ _ _ _ _ us hl => match us, hl with | [_], _ => rfl
  obtain ⟨fd_Rule_init, F_Rule_init, O_Rule_init⟩ := ok_Rule_init (P := P) (w := w) (base := base) T TB
  obtain ⟨ds_Rule_2, mv_Rule_2, mb_Rule_2⟩ := F_Rule_init.binds1 (ps := ["self", "words"]) 2 1 (by intro h; cases h) rfl fun _ _ _ _ _ _ _ us its h1 h2 => match us, h1, its, h2 with | [_, _], _, [_], _ => ⟨_, rfl, rfl⟩
  have md_Rule_2 : ∀ q G, DenL K q G [] ((d_Rule_init.dvs K).drop 1) := fun q G => DenL.nil
  refine ⟨fd, F, fnX_of (k := 4) (gf := (l1 f_read_rule)) F sc_read_rule (fun cdv A fr s H E B ds hl => ?_), F.kp⟩
  match ds, hl with | [text], _ => exact (by exact xs_expr (by exact xe_call (x := "need_text") (ps := ["text"]) (gf := (l1 f_need_text)) (dds := []) (by exact O_need_text.fn) (by exact B.room.mono (by decide)) (by exact B.gd) (by exact B.tk) (by rfl) (by exact T.g_need_text) (by exact O_need_text.kp) (by exact b_need_text) (by exact .nil) (by exact fun _ _ => DenL.nil) (by exact xa_cons (by exact xe_var 0) xa_nil)) (by exact xs_set 1 (by exact sc_read_rule.nd) (by rfl) (by first | exact .inl rfl | exact .inr rfl) (by exact xe_if (by exact xt_eq (by exact B.room.units) (by exact xe_var 0) (by exact xe_str)) (by exact xe_lst xa_nil) (by exact XF.xe (by exact xf_split (by exact xe_var 0) (by exact xe_str)))) (by intro words; exact (by exact xs_if1 (by exact xt_not (by exact xt_val (by exact xe_call (x := "are_words") (ps := ["thing"]) (gf := (l1 f_are_words)) (dds := []) (by exact O_are_words.fn) (by exact B.room.mono (by decide)) (by exact B.gd) (by exact B.tk) (by rfl) (by exact T.g_are_words) (by exact O_are_words.kp) (by exact b_are_words) (by exact .nil) (by exact fun _ _ => DenL.nil) (by exact xa_cons (by exact xe_var 1) xa_nil)))) (by exact xs_raiseS (k := 1) (by exact T.su_BadText) (by exact ss_BadText) (by rfl) (by rfl) (by rfl) (by intros; rfl) (by exact B.room.mono (by decide)) (by exact B.calm) (by exact B.tk) (by exact T.n_super) (by rfl) (by exact T.g_BadText) (by exact xe_int)) (by exact xs_retB (by exact xe_make "Rule" (ps := ["self", "words"]) (gf := (l1 f_Rule_init)) (dds := []) (by exact T.mk_Rule) (by exact O_Rule_init.fn) (by exact O_Rule_init.mkc) (by exact B.room.mono (by decide)) (by exact B.gd) (by exact B.tk) (by rfl) (by exact T.g_Rule) (by exact mb_Rule_2) (by exact mv_Rule_2) (by exact md_Rule_2) (by exact xa_cons (by exact xe_var 1) xa_nil)))))))
/-! Rule.__eq__ -/
theorem sc_Rule_eq : FnScope ["self", "other"] ["self", "other"] (defScope s_Rule_eq) := ⟨rfl, rfl, rfl, by decide +kernel, rfl, by decide +kernel, by decide +kernel⟩
abbrev FP_Rule_eq (K : PySem.W.Frag) (fd : FuncData) : Prop := FunD K "__eq__" "Rule.__eq__" (defArgs s_Rule_eq) (defBody s_Rule_eq) (defScope s_Rule_eq) ([]) [] (He.ma K (He.ga K "Rule") "__eq__") fd
theorem ok_Rule_eq (T : TextF P w K mg) (TB : TabsB base mg K tfL) : ∃ fd, FP_Rule_eq K fd ∧ Own P w K mg base 1 (He.ma K (He.ga K "Rule") "__eq__") fd ["self", "other"] (l2 f_Rule_eq) := by
  obtain ⟨fd, F⟩ := T.says.d.def_ 13 (d := d_Rule_eq) rfl
  have F : FP_Rule_eq K fd := F
  refine ⟨fd, F, fnX_of (k := 0) (gf := (l2 f_Rule_eq)) F sc_Rule_eq (fun cdv A fr s H E B ds hl => ?_), F.kp⟩
  match ds, hl with | [self, other], _ => exact (by exact xs_retB (by exact xe_and (by exact xe_isi (by exact T.cls) (.o "Rule") (by rfl) (by exact T.n_isinstance) (by exact xe_var 1) (by exact pe_own "Rule" (by rfl) (by exact T.g_Rule))) (by exact xe_one (by exact xe_eq (by exact B.room.units) (by exact xe_fld (by exact T.fld) "rule_words" (by exact xe_var 0)) (by exact xe_fld (by exact T.fld) "rule_words" (by exact xe_var 1))))))
/-! _law_pick -/
theorem sc_law_pick : FnScope ["_law_state", "_law_several"] ["_law_state", "_law_several"] (defScope s_law_pick) := ⟨rfl, rfl, rfl, by decide +kernel, rfl, by decide +kernel, by decide +kernel⟩
abbrev FP_law_pick (K : PySem.W.Frag) (fd : FuncData) : Prop := FunD K "_law_pick" "_law_pick" (defArgs s_law_pick) (defBody s_law_pick) (defScope s_law_pick) ([]) [] (He.ga K "_law_pick") fd
theorem ok_law_pick (T : TextF P w K mg) (TB : TabsB base mg K tfL) : ∃ fd, FP_law_pick K fd ∧ Own P w K mg base 2 (He.ga K "_law_pick") fd ["_law_state", "_law_several"] (l2 f_law_pick) := by
  obtain ⟨fd, F⟩ := T.says.d.def_ 14 (d := d_law_pick) rfl
  have F : FP_law_pick K fd := F
  obtain ⟨fd_law_draw, F_law_draw, O_law_draw⟩ := ok_law_draw (P := P) (w := w) (base := base) T TB
  have b_law_draw : Binds K fd_law_draw ["_law_state", "_law_size"] [] := F_law_draw.bindsN fun _ _ _ _ _ _ us hl => match us, hl with | [_, _], _ => rfl
  refine ⟨fd, F, fnX_of (k := 1) (gf := (l2 f_law_pick)) F sc_law_pick (fun cdv A fr s H E B ds hl => ?_), F.kp⟩
  match ds, hl with | [state, several], _ => exact (by exact xs_retB (by exact xe_idx (by exact xe_var 1) (by exact xe_call (x := "_law_draw") (ps := ["_law_state", "_law_size"]) (gf := drawM) (dds := []) (by exact O_law_draw.fn) (by exact B.room.mono (by decide)) (by exact B.gd) (by exact B.tk) (by rfl) (by exact T.g_law_draw) (by exact O_law_draw.kp) (by exact b_law_draw) (by exact .nil) (by exact fun _ _ => DenL.nil) (by exact xa_cons (by exact xe_var 0) (by exact xa_cons (by exact xe_len (by rfl) (by exact T.n_len) (by exact xa_cons (by exact xe_var 1) xa_nil)) xa_nil))) (by exact fun _ _ => rfl)))
/-! _law_letters -/
theorem sc_law_letters : FnScope [] [] (defScope s_law_letters) := ⟨rfl, rfl, rfl, by decide +kernel, rfl, by decide +kernel, by decide +kernel⟩
abbrev FP_law_letters (K : PySem.W.Frag) (fd : FuncData) : Prop := FunD K "_law_letters" "_law_letters" (defArgs s_law_letters) (defBody s_law_letters) (defScope s_law_letters) ([]) [] (He.ga K "_law_letters") fd
theorem ok_law_letters (T : TextF P w K mg) (TB : TabsB base mg K tfL) : ∃ fd, FP_law_letters K fd ∧ Own P w K mg base 1 (He.ga K "_law_letters") fd [] (l0 f_law_letters) := by
  obtain ⟨fd, F⟩ := T.says.d.def_ 15 (d := d_law_letters) rfl
  have F : FP_law_letters K fd := F
  refine ⟨fd, F, fnX_of (k := 0) (gf := (l0 f_law_letters)) F sc_law_letters (fun cdv A fr s H E B ds hl => ?_), F.kp⟩
  match ds, hl with | [], _ => exact (by exact xs_retB (by exact xe_str))
/-! _law_signs -/
theorem sc_law_signs : FnScope ["_law_signs_here"] [] (defScope s_law_signs) := ⟨rfl, rfl, rfl, by decide +kernel, rfl, by decide +kernel, by decide +kernel⟩
abbrev FP_law_signs (K : PySem.W.Frag) (fd : FuncData) : Prop := FunD K "_law_signs" "_law_signs" (defArgs s_law_signs) (defBody s_law_signs) (defScope s_law_signs) ([]) [] (He.ga K "_law_signs") fd
theorem ok_law_signs (T : TextF P w K mg) (TB : TabsB base mg K tfL) : ∃ fd, FP_law_signs K fd ∧ Own P w K mg base 2 (He.ga K "_law_signs") fd [] (l0 f_law_signs) := by
  obtain ⟨fd, F⟩ := T.says.d.def_ 16 (d := d_law_signs) rfl
  have F : FP_law_signs K fd := F
  obtain ⟨fd_law_letters, F_law_letters, O_law_letters⟩ := ok_law_letters (P := P) (w := w) (base := base) T TB
  have b_law_letters : Binds K fd_law_letters [] [] := F_law_letters.bindsN fun _ _ _ _ _ _ us hl => match us, hl with | [], _ => rfl
  refine ⟨fd, F, fnX_of (k := 1) (gf := (l0 f_law_signs)) F sc_law_signs (fun cdv A fr s H E B ds hl => ?_), F.kp⟩
  match ds, hl with | [], _ => exact (by exact xs_set 0 (by exact sc_law_signs.nd) (by rfl) (by first | exact .inl rfl | exact .inr rfl) (by exact xe_str) (by intro signs_here; exact (by exact xs_retB (by exact xe_add (by exact xe_add (by exact xe_var 0) (by exact xe_call0 (x := "_law_letters") (ps := []) (gf := (l0 f_law_letters)) (dds := []) (by exact O_law_letters.fn) (by exact B.room.mono (by decide)) (by exact B.gd) (by exact B.tk) (by rfl) (by exact T.g_law_letters) (by exact O_law_letters.kp) (by exact b_law_letters) (by exact .nil) (by exact fun _ _ => DenL.nil))) (by exact xe_str)))))
/-! _law_spoilt -/
theorem sc_law_spoilt : FnScope ["_law_state", "_law_said", "_law_way", "_law_spot", "_law_sign", "_law_pieces", "_law_one", "_law_two", "_law_first"] ["_law_state", "_law_said"] (defScope s_law_spoilt) := ⟨rfl, rfl, rfl, by decide +kernel, rfl, by decide +kernel, by decide +kernel⟩
abbrev FP_law_spoilt (K : PySem.W.Frag) (fd : FuncData) : Prop := FunD K "_law_spoilt" "_law_spoilt" (defArgs s_law_spoilt) (defBody s_law_spoilt) (defScope s_law_spoilt) ([]) [] (He.ga K "_law_spoilt") fd
theorem ok_law_spoilt (T : TextF P w K mg) (TB : TabsB base mg K tfL) : ∃ fd, FP_law_spoilt K fd ∧ Own P w K mg base 3 (He.ga K "_law_spoilt") fd ["_law_state", "_law_said"] (l2 f_law_spoilt) := by
  obtain ⟨fd, F⟩ := T.says.d.def_ 17 (d := d_law_spoilt) rfl
  have F : FP_law_spoilt K fd := F
  obtain ⟨fd_law_draw, F_law_draw, O_law_draw⟩ := ok_law_draw (P := P) (w := w) (base := base) T TB
  have b_law_draw : Binds K fd_law_draw ["_law_state", "_law_size"] [] := F_law_draw.bindsN fun _ _ _ _ _ _ us hl => match us, hl with | [_, _], _ => rfl
  obtain ⟨fd_law_pick, F_law_pick, O_law_pick⟩ := ok_law_pick (P := P) (w := w) (base := base) T TB
  have b_law_pick : Binds K fd_law_pick ["_law_state", "_law_several"] [] := F_law_pick.bindsN fun _ _ _ _ _ _ us hl => match us, hl with | [_, _], _ => rfl
  obtain ⟨fd_law_signs, F_law_signs, O_law_signs⟩ := ok_law_signs (P := P) (w := w) (base := base) T TB
  have b_law_signs : Binds K fd_law_signs [] [] := F_law_signs.bindsN fun _ _ _ _ _ _ us hl => match us, hl with | [], _ => rfl
  refine ⟨fd, F, fnX_of (k := 2) (gf := (l2 f_law_spoilt)) F sc_law_spoilt (fun cdv A fr s H E B ds hl => ?_), F.kp⟩
  match ds, hl with | [state, said], _ => exact (by exact xs_par_vv 2 3 (by exact B.calm) (by exact sc_law_spoilt.nd) (by rfl) (by rfl) (by decide) (by rfl) (by rfl) (by exact xe_call (x := "_law_draw") (ps := ["_law_state", "_law_size"]) (gf := drawM) (dds := []) (by exact O_law_draw.fn) (by exact B.room.mono (by decide)) (by exact B.gd) (by exact B.tk) (by rfl) (by exact T.g_law_draw) (by exact O_law_draw.kp) (by exact b_law_draw) (by exact .nil) (by exact fun _ _ => DenL.nil) (by exact xa_cons (by exact xe_var 0) (by exact xa_cons (by exact xe_int) xa_nil))) (by exact xe_call (x := "_law_draw") (ps := ["_law_state", "_law_size"]) (gf := drawM) (dds := []) (by exact O_law_draw.fn) (by exact B.room.mono (by decide)) (by exact B.gd) (by exact B.tk) (by rfl) (by exact T.g_law_draw) (by exact O_law_draw.kp) (by exact b_law_draw) (by exact .nil) (by exact fun _ _ => DenL.nil) (by exact xa_cons (by exact xe_var 0) (by exact xa_cons (by exact xe_add (by exact xe_len (by rfl) (by exact T.n_len) (by exact xa_cons (by exact xe_var 1) xa_nil)) (by exact xe_int)) xa_nil))) (by intro way spot; exact (by exact xs_par_vo 4 5 (by exact B.calm) (by exact sc_law_spoilt.nd) (by rfl) (by rfl) (by decide) (by rfl) (by rfl) (by exact xe_call (x := "_law_pick") (ps := ["_law_state", "_law_several"]) (gf := (l2 f_law_pick)) (dds := []) (by exact O_law_pick.fn) (by exact B.room.mono (by decide)) (by exact B.gd) (by exact B.tk) (by rfl) (by exact T.g_law_pick) (by exact O_law_pick.kp) (by exact b_law_pick) (by exact .nil) (by exact fun _ _ => DenL.nil) (by exact xa_cons (by exact xe_var 0) (by exact xa_cons (by exact xe_call0 (x := "_law_signs") (ps := []) (gf := (l0 f_law_signs)) (dds := []) (by exact O_law_signs.fn) (by exact B.room.mono (by decide)) (by exact B.gd) (by exact B.tk) (by rfl) (by exact T.g_law_signs) (by exact O_law_signs.kp) (by exact b_law_signs) (by exact .nil) (by exact fun _ _ => DenL.nil)) xa_nil))) (by exact xf_split (by exact xe_var 1) (by exact xe_str)) (by intro sign pieces; exact (by exact xs_if1 (by exact xt_eq (by exact B.room.units) (by exact xe_var 2) (by exact xe_int)) (by exact xs_retR (by exact xe_add (by exact xe_add (by exact xe_slice (by exact xe_var 1) (by exact xo_none) (by exact xo_some (by exact xe_var 3))) (by exact xe_var 4)) (by exact xe_slice (by exact xe_var 1) (by exact xo_some (by exact xe_var 3)) (by exact xo_none)))) (by exact xs_if1 (by exact xt_eq (by exact B.room.units) (by exact xe_var 2) (by exact xe_int)) (by exact xs_retR (by exact xe_add (by exact xe_slice (by exact xe_var 1) (by exact xo_none) (by exact xo_some (by exact xe_var 3))) (by exact xe_slice (by exact xe_var 1) (by exact xo_some (by exact xe_add (by exact xe_var 3) (by exact xe_int))) (by exact xo_none)))) (by exact xs_if1 (by exact xt_eq (by exact B.room.units) (by exact xe_var 2) (by exact xe_int)) (by exact xs_retR (by exact xe_add (by exact xe_add (by exact xe_slice (by exact xe_var 1) (by exact xo_none) (by exact xo_some (by exact xe_var 3))) (by exact xe_var 4)) (by exact xe_slice (by exact xe_var 1) (by exact xo_some (by exact xe_add (by exact xe_var 3) (by exact xe_int))) (by exact xo_none)))) (by exact xs_if1 (by exact xt_eq (by exact B.room.units) (by exact xe_var 2) (by exact xe_int)) (by exact xs_retR (by exact xe_add (by exact xe_add (by exact xe_slice (by exact xe_var 1) (by exact xo_none) (by exact xo_some (by exact xe_var 3))) (by exact xe_slice (by exact xe_var 1) (by exact xo_some (by exact xe_var 3)) (by exact xo_some (by exact xe_add (by exact xe_var 3) (by exact xe_int))))) (by exact xe_slice (by exact xe_var 1) (by exact xo_some (by exact xe_var 3)) (by exact xo_none)))) (by exact xs_if1 (by exact xt_eq (by exact B.room.units) (by exact xe_var 2) (by exact xe_int)) (by exact xs_retR (by exact xe_add (by exact xe_add (by exact xe_slice (by exact xe_var 1) (by exact xo_none) (by exact xo_some (by exact xe_var 3))) (by exact xe_call (x := "_law_pick") (ps := ["_law_state", "_law_several"]) (gf := (l2 f_law_pick)) (dds := []) (by exact O_law_pick.fn) (by exact B.room.mono (by decide)) (by exact B.gd) (by exact B.tk) (by rfl) (by exact T.g_law_pick) (by exact O_law_pick.kp) (by exact b_law_pick) (by exact .nil) (by exact fun _ _ => DenL.nil) (by exact xa_cons (by exact xe_var 0) (by exact xa_cons (by exact xe_lst (by exact xa_cons (by exact xe_str) (by exact xa_cons (by exact xe_str) (by exact xa_cons (by exact xe_str) (by exact xa_cons (by exact xe_str) (by exact xa_cons (by exact xe_str) (by exact xa_cons (by exact xe_str) xa_nil))))))) xa_nil)))) (by exact xe_slice (by exact xe_var 1) (by exact xo_some (by exact xe_var 3)) (by exact xo_none)))) (by exact xs_if1 (by exact xt_eq (by exact B.room.units) (by exact xe_var 2) (by exact xe_int)) (by exact xs_retR (by exact xe_add (by exact xe_var 1) (by exact xe_call (x := "_law_pick") (ps := ["_law_state", "_law_several"]) (gf := (l2 f_law_pick)) (dds := []) (by exact O_law_pick.fn) (by exact B.room.mono (by decide)) (by exact B.gd) (by exact B.tk) (by rfl) (by exact T.g_law_pick) (by exact O_law_pick.kp) (by exact b_law_pick) (by exact .nil) (by exact fun _ _ => DenL.nil) (by exact xa_cons (by exact xe_var 0) (by exact xa_cons (by exact xe_lst (by exact xa_cons (by exact xe_str) (by exact xa_cons (by exact xe_str) (by exact xa_cons (by exact xe_str) (by exact xa_cons (by exact xe_str) (by exact xa_cons (by exact xe_str) (by exact xa_cons (by exact xe_str) xa_nil))))))) xa_nil))))) (by exact xs_if1 (by exact xt_eq (by exact B.room.units) (by exact xe_var 2) (by exact xe_int)) (by exact xs_par_vv 6 7 (by exact B.calm) (by exact sc_law_spoilt.nd) (by rfl) (by rfl) (by decide) (by rfl) (by rfl) (by exact xe_call (x := "_law_draw") (ps := ["_law_state", "_law_size"]) (gf := drawM) (dds := []) (by exact O_law_draw.fn) (by exact B.room.mono (by decide)) (by exact B.gd) (by exact B.tk) (by rfl) (by exact T.g_law_draw) (by exact O_law_draw.kp) (by exact b_law_draw) (by exact .nil) (by exact fun _ _ => DenL.nil) (by exact xa_cons (by exact xe_var 0) (by exact xa_cons (by exact xe_lenO 5 (by rfl) (by exact T.n_len)) xa_nil))) (by exact xe_call (x := "_law_draw") (ps := ["_law_state", "_law_size"]) (gf := drawM) (dds := []) (by exact O_law_draw.fn) (by exact B.room.mono (by decide)) (by exact B.gd) (by exact B.tk) (by rfl) (by exact T.g_law_draw) (by exact O_law_draw.kp) (by exact b_law_draw) (by exact .nil) (by exact fun _ _ => DenL.nil) (by exact xa_cons (by exact xe_var 0) (by exact xa_cons (by exact xe_lenO 5 (by rfl) (by exact T.n_len)) xa_nil))) (by intro one two; exact (by exact xs_set 8 (by exact sc_law_spoilt.nd) (by rfl) (by first | exact .inl rfl | exact .inr rfl) (by exact xe_idxO 5 (by rfl) (by exact xe_var 6) (by exact fun _ _ => rfl)) (by intro first; exact (by exact xs_put 5 (by rfl) (by rfl) (by exact xe_idxO 5 (by rfl) (by exact xe_var 7) (by exact fun _ _ => rfl)) (by exact xe_var 6) (by intro pieces_1; exact (by exact xs_put 5 (by rfl) (by rfl) (by exact xe_var 8) (by exact xe_var 7) (by intro pieces_2; exact (by exact xs_freeze 5 (by rfl) (by exact xs_retR (by exact xe_join (by exact xe_str) (by exact xe_var 5)))))))))))) (by exact xs_retB (by exact xe_var 1)))))))))))))
/-! _law_read_wording -/
theorem sc_law_read_wording : FnScope ["_law_said", "_law_found", "_law_one"] ["_law_said"] (defScope s_law_read_wording) := ⟨rfl, rfl, rfl, by decide +kernel, rfl, by decide +kernel, by decide +kernel⟩
abbrev FP_law_read_wording (K : PySem.W.Frag) (fd : FuncData) : Prop := FunD K "_law_read_wording" "_law_read_wording" (defArgs s_law_read_wording) (defBody s_law_read_wording) (defScope s_law_read_wording) ([]) [] (He.ga K "_law_read_wording") fd
theorem ok_law_read_wording (T : TextF P w K mg) (TB : TabsB base mg K tfL) : ∃ fd, FP_law_read_wording K fd ∧ Own P w K mg base 2 (He.ga K "_law_read_wording") fd ["_law_said"] (l1 f_law_read_wording) := by
  obtain ⟨fd, F⟩ := T.says.d.def_ 18 (d := d_law_read_wording) rfl
  have F : FP_law_read_wording K fd := F
  obtain ⟨fd_law_every, F_law_every, O_law_every⟩ := ok_law_every (P := P) (w := w) (base := base) T TB
  have b_law_every : Binds K fd_law_every [] [] := F_law_every.bindsN fun _ _ _ _ _ _ us hl => match us, hl with | [], _ => rfl
  refine ⟨fd, F, fnX_of (k := 1) (gf := (l1 f_law_read_wording)) F sc_law_read_wording (fun cdv A fr s H E B ds hl => ?_), F.kp⟩
  match ds, hl with | [said], _ => exact (by exact xs_set 1 (by exact sc_law_read_wording.nd) (by rfl) (by first | exact .inl rfl | exact .inr rfl) (by exact xe_if (by exact xt_eq (by exact B.room.units) (by exact xe_var 0) (by exact xe_str)) (by exact xe_lst xa_nil) (by exact XF.xe (by exact xf_split (by exact xe_var 0) (by exact xe_str)))) (by intro found; exact (by exact xs_if1 (by exact XW.xt (by exact xw_or (by exact xt_ne (by exact B.room.units) (by exact XF.xe (by exact xf_lc (T := (.nm 2)) (by exact B.calm) (by exact sc_law_read_wording.nd) (by exact xi_any (by exact xe_var 1)) (blkOk_by (own := [("_law_one", 2)]) (by first | decide +kernel | kernel_rfl)) (by intro _ _ _ _ _; exact (by exact pg_name (by exact sc_law_read_wording.nd) (by rfl) (by first | exact .inl rfl | exact .inr rfl))) (by exact none1 (by rfl)) (by intro _ _ _ _ _; exact tgt1 (by intro one; exact (by exact xts_one (by exact xt_notin (by exact xe_var 2) (by exact xe_call0 (x := "_law_every") (ps := []) (gf := (l0 f_law_every)) (dds := []) (by exact O_law_every.fn) (by exact B.room.mono (by decide)) (by exact B.gd) (by exact takes0) (by rfl) (by exact T.g_law_every) (by exact O_law_every.kp) (by exact b_law_every) (by exact .nil) (by exact fun _ _ => DenL.nil)))))) (by intro _ _ _ _ _; exact tgt1 (by intro one; exact (by exact xe_var 2))) (by decide))) (by exact xe_lst xa_nil)) (by exact xw_or1 (by exact xt_ne (by exact B.room.units) (by exact xe_lenSet (by exact B.calm) (by rfl) (by exact T.n_len) (by rfl) (by exact T.n_set) (by exact xe_var 1)) (by exact xe_len (by rfl) (by exact T.n_len) (by exact xa_cons (by exact xe_var 1) xa_nil)))))) (by exact xs_retR (by exact xe_non)) (by exact xs_retB (by exact xe_var 1)))))
/-! _law_text_heard -/
theorem sc_law_text_heard : FnScope ["_law_work", "_law_caught", "_law_found", "error"] ["_law_work"] (defScope s_law_text_heard) := ⟨rfl, rfl, rfl, by decide +kernel, rfl, by decide +kernel, by decide +kernel⟩
abbrev FP_law_text_heard (K : PySem.W.Frag) (fd : FuncData) : Prop := FunD K "_law_text_heard" "_law_text_heard" (defArgs s_law_text_heard) (defBody s_law_text_heard) (defScope s_law_text_heard) ([]) [] (He.ga K "_law_text_heard") fd
theorem cat_law_text_heard (T : TextF P w K mg) (TB : TabsB base mg K tfL) {cdv : Value} {A : Around} {fr : List Env} {s : Shared} {H : Hp} {f c0 : Addr} {q0 : Str} {gm : DSt} {sm : L2.St} {mw : M D} (B : BodyX (cxOf (L2.CX P w) P w K mg base ["_law_work", "_law_caught", "_law_found", "error"] "_law_text_heard" (defScope s_law_text_heard) (He.ga K "_law_text_heard") cdv A fr s H fun _ _ _ => False) 0 (fun _ _ _ => False)) (act : Acts (cxOf (L2.CX P w) P w K mg base ["_law_work", "_law_caught", "_law_found", "error"] "_law_text_heard" (defScope s_law_text_heard) (He.ga K "_law_text_heard") cdv A fr s H fun _ _ _ => False) "_law_work" f c0 q0 gm sm mw) :
    XS (cxOf (L2.CX P w) P w K mg base ["_law_work", "_law_caught", "_law_found", "error"] "_law_text_heard" (defScope s_law_text_heard) (He.ga K "_law_text_heard") cdv A fr s H fun _ _ _ => False) (fun _ _ _ => False) (some (.lam (.ref f) (LamR K gm sm c0 q0)) :: List.replicate 3 none) IB (defBody s_law_text_heard) (f_law_text_heard mw) := by
  exact (by exact xs_asg (T := (.tp [1, 2])) (by exact xe_tup (by exact xa_cons (by exact xe_non) (by exact xa_cons (by exact xe_non) xa_nil))) (by exact pg_tup (by exact B.calm) (by exact pgs_cons (by exact pg_name (by exact sc_law_text_heard.nd) (by rfl) (by first | exact .inl rfl | exact .inr rfl)) (by exact pgs_cons (by exact pg_name (by exact sc_law_text_heard.nd) (by rfl) (by first | exact .inl rfl | exact .inr rfl)) pgs_nil))) (by exact none2 (by rfl)) (by exact tgt2 (by intro caught found; exact (by exact xs_then (e := fun yy : D × D => ([some (.lam (.ref f) (LamR K gm sm c0 q0)), some (.val yy.2), some (.val yy.1), none] : DSt)) (by exact xs_tryM (cs := (["BadText"] : List Str)) 3 1 2 (by exact act) (by rfl) (by exact T.xm_BadText) (by exact ⟨rfl, by decide, .inl T.g_BadText⟩) (by rfl) (by rfl) (by rfl) (by exact sc_law_text_heard.nd) (by rfl) (by rfl) (by exact .inl rfl) (by rfl) (by rfl) (by rfl) (by rfl) (by rfl) (by rfl) (by rfl)) (by intro got; exact (by exact xs_retB (by exact xe_if (by exact xt_isnot (by exact xe_var 1) (by exact xe_non)) (by exact xe_tup (by exact xa_cons (by exact xe_str) (by exact xa_cons (by exact xe_fldE "line" (by exact T.ex) (by exact T.xf) (by exact xe_var 1)) xa_nil))) (by exact xe_var 2))))))))
/-! law -/
theorem sc_law : FnScope ["_law_script", "_law_state", "_law_turn", "_law_wording", "_law_said", "_law_made", "_law_near", "_law_one", "_law_due", "_law_heard", "_law_thing"] ["_law_script"] (defScope s_law) := ⟨rfl, rfl, rfl, by decide +kernel, rfl, by decide +kernel, by decide +kernel⟩
abbrev FP_law (K : PySem.W.Frag) (fd : FuncData) : Prop := FunD K "law" "law" (defArgs s_law) (defBody s_law) (defScope s_law) ([]) [] (He.ga K "law") fd
theorem ok_law (T : TextF P w K mg) (TB : TabsB base mg K tfL) : ∃ fd, FP_law K fd ∧ Own P w K mg base 8 (He.ga K "law") fd ["_law_script"] (l1 f_law) := by
  obtain ⟨fd, F⟩ := T.says.d.def_ 20 (d := d_law) rfl
  have F : FP_law K fd := F
  obtain ⟨fd_law_begun, F_law_begun, O_law_begun⟩ := ok_law_begun (P := P) (w := w) (base := base) T TB
  have b_law_begun : Binds K fd_law_begun ["_law_script"] [] := F_law_begun.bindsN fun _ _ _ _ _ _ us hl => match us, hl with | [_], _ => rfl
  obtain ⟨fd_law_mixed, F_law_mixed, O_law_mixed⟩ := ok_law_mixed (P := P) (w := w) (base := base) T TB
  have b_law_mixed : Binds K fd_law_mixed ["_law_state", "_law_several"] [] := F_law_mixed.bindsN fun _ _ _ _ _ _ us hl => match us, hl with | [_, _], _ => rfl
  obtain ⟨fd_law_every, F_law_every, O_law_every⟩ := ok_law_every (P := P) (w := w) (base := base) T TB
  have b_law_every : Binds K fd_law_every [] [] := F_law_every.bindsN fun _ _ _ _ _ _ us hl => match us, hl with | [], _ => rfl
  obtain ⟨fd_law_draw, F_law_draw, O_law_draw⟩ := ok_law_draw (P := P) (w := w) (base := base) T TB
  have b_law_draw : Binds K fd_law_draw ["_law_state", "_law_size"] [] := F_law_draw.bindsN fun _ _ _ _ _ _ us hl => match us, hl with | [_, _], _ => rfl
  obtain ⟨fd_Rule_init, F_Rule_init, O_Rule_init⟩ := ok_Rule_init (P := P) (w := w) (base := base) T TB
  obtain ⟨fd_rule_text, F_rule_text, O_rule_text⟩ := ok_rule_text (P := P) (w := w) (base := base) T TB
  have b_rule_text : Binds K fd_rule_text ["rule"] [] := F_rule_text.bindsN fun _ _ _ _ _ _ us hl => match us, hl with | [_], _ => rfl
  have k_rule_text : KwTo K fd_rule_text ["rule"] ["rule"] 0 arK [] [] := kwAll F_rule_text fun _ _ _ _ _ _ ws hl => match ws, hl with | [_], _ => rfl
  have P_Rule_words := (T.says.prop_ 0 rfl).1
  obtain ⟨fd_Rule_words, F_Rule_words, O_Rule_words⟩ := ok_Rule_words (P := P) (w := w) (base := base) T TB
  have b_Rule_words : Binds K fd_Rule_words ["self"] [] := F_Rule_words.bindsN fun _ _ _ _ _ _ us hl => match us, hl with | [_], _ => rfl
  obtain ⟨fd_read_rule, F_read_rule, O_read_rule⟩ := ok_read_rule (P := P) (w := w) (base := base) T TB
  have b_read_rule : Binds K fd_read_rule ["text"] [] := F_read_rule.bindsN fun _ _ _ _ _ _ us hl => match us, hl with | [_], _ => rfl
  have k_read_rule : KwTo K fd_read_rule ["text"] ["text"] 0 arK [] [] := kwAll F_read_rule fun _ _ _ _ _ _ ws hl => match ws, hl with | [_], _ => rfl
  obtain ⟨fd_Rule_eq, F_Rule_eq, O_Rule_eq⟩ := ok_Rule_eq (P := P) (w := w) (base := base) T TB
  have b_Rule_eq : Binds K fd_Rule_eq ["self", "other"] [] := F_Rule_eq.bindsN fun _ _ _ _ _ _ us hl => match us, hl with | [_, _], _ => rfl
  obtain ⟨fd_law_spoilt, F_law_spoilt, O_law_spoilt⟩ := ok_law_spoilt (P := P) (w := w) (base := base) T TB
  have b_law_spoilt : Binds K fd_law_spoilt ["_law_state", "_law_said"] [] := F_law_spoilt.bindsN fun _ _ _ _ _ _ us hl => match us, hl with | [_, _], _ => rfl
  obtain ⟨fd_law_pick, F_law_pick, O_law_pick⟩ := ok_law_pick (P := P) (w := w) (base := base) T TB
  have b_law_pick : Binds K fd_law_pick ["_law_state", "_law_several"] [] := F_law_pick.bindsN fun _ _ _ _ _ _ us hl => match us, hl with | [_, _], _ => rfl
  obtain ⟨fd_law_read_wording, F_law_read_wording, O_law_read_wording⟩ := ok_law_read_wording (P := P) (w := w) (base := base) T TB
  have b_law_read_wording : Binds K fd_law_read_wording ["_law_said"] [] := F_law_read_wording.bindsN fun _ _ _ _ _ _ us hl => match us, hl with | [_], _ => rfl
  obtain ⟨fd_law_text_heard, F_law_text_heard⟩ := T.says.d.def_ 19 (d := d_law_text_heard) rfl
  have F_law_text_heard : FP_law_text_heard K fd_law_text_heard := F_law_text_heard
  have b_law_text_heard : Binds K fd_law_text_heard ["_law_work"] [] := F_law_text_heard.bindsN fun _ _ _ _ _ _ us hl => match us, hl with | [_], _ => rfl
  obtain ⟨ds_Rule_2, mv_Rule_2, mb_Rule_2⟩ := F_Rule_init.binds1 (ps := ["self", "words"]) 2 1 (by intro h; cases h) rfl fun _ _ _ _ _ _ _ us its h1 h2 => match us, h1, its, h2 with | [_, _], _, [_], _ => ⟨_, rfl, rfl⟩
  have md_Rule_2 : ∀ q G, DenL K q G [] ((d_Rule_init.dvs K).drop 1) := fun q G => DenL.nil
  refine ⟨fd, F, fnX_ofC (n := "law") (k := 7) (gf := (l1 f_law)) F sc_law (fun A fr s H E B ds hl => ?_), F.kp⟩
  match ds, hl with | [script], _ => exact (by exact xs_set 1 (by exact sc_law.nd) (by rfl) (by first | exact .inl rfl | exact .inr rfl) (by exact xe_call (x := "_law_begun") (ps := ["_law_script"]) (gf := begunD) (dds := []) (by exact O_law_begun.fn) (by exact B.room.mono (by decide)) (by exact B.gd) (by exact B.tk) (by rfl) (by exact T.g_law_begun) (by exact O_law_begun.kp) (by exact b_law_begun) (by exact .nil) (by exact fun _ _ => DenL.nil) (by exact xa_cons (by exact xe_var 0) xa_nil)) (by intro state; exact (by exact xs_thenS (e := (fun yy : Unit => ([some (.val script), some (.val state), none, none, none, none, none, none, none, none, none] : DSt))) (by exact xs_forS (T := (.nm 2)) (f := (f_law_b3 state)) (fun yy : Unit => ([some (.val script), some (.val state), none, none, none, none, none, none, none, none, none] : DSt)) () (by exact B.po) (by exact B.calm) (by exact xi_range1 (by rfl) (by exact T.n_range) (by exact xe_add (by exact xe_int) (by exact xe_min (by exact B.calm) (by rfl) (by exact T.n_min) (by exact xa_cons (by exact xe_len (by rfl) (by exact T.n_len) (by exact xa_cons (by exact xe_var 0) xa_nil)) (by exact xa_cons (by exact xe_int) xa_nil))))) (by exact pg_name (by exact sc_law.nd) (by rfl) (by first | exact .inl rfl | exact .inr rfl)) (by exact ⟨.inr rfl, .inr rfl, .inl rfl, .inl rfl, .inl rfl, .inl rfl, .inl rfl, .inl rfl, .inl rfl, .inl rfl, .inl rfl, trivial⟩) (by intro y; exact none1 (by rfl)) (by intro y; exact tgt1 (by intro turn; exact (by exact xs_set 3 (by exact sc_law.nd) (by rfl) (by first | exact .inl rfl | exact .inr rfl) (by exact xe_slice (by exact xe_call (x := "_law_mixed") (ps := ["_law_state", "_law_several"]) (gf := (l2 f_law_mixed)) (dds := []) (by exact O_law_mixed.fn) (by exact B.room.mono (by decide)) (by exact B.gd) (by exact B.tk) (by rfl) (by exact T.g_law_mixed) (by exact O_law_mixed.kp) (by exact b_law_mixed) (by exact .nil) (by exact fun _ _ => DenL.nil) (by exact xa_cons (by exact xe_var 1) (by exact xa_cons (by exact xe_call0 (x := "_law_every") (ps := []) (gf := (l0 f_law_every)) (dds := []) (by exact O_law_every.fn) (by exact B.room.mono (by decide)) (by exact B.gd) (by exact B.tk) (by rfl) (by exact T.g_law_every) (by exact O_law_every.kp) (by exact b_law_every) (by exact .nil) (by exact fun _ _ => DenL.nil)) xa_nil))) (by exact xo_none) (by exact xo_some (by exact xe_call (x := "_law_draw") (ps := ["_law_state", "_law_size"]) (gf := drawM) (dds := []) (by exact O_law_draw.fn) (by exact B.room.mono (by decide)) (by exact B.gd) (by exact B.tk) (by rfl) (by exact T.g_law_draw) (by exact O_law_draw.kp) (by exact b_law_draw) (by exact .nil) (by exact fun _ _ => DenL.nil) (by exact xa_cons (by exact xe_var 1) (by exact xa_cons (by exact xe_int) xa_nil))))) (by intro wording; exact (by exact xs_par_vv 4 5 (by exact B.calm) (by exact sc_law.nd) (by rfl) (by rfl) (by decide) (by rfl) (by rfl) (by exact xe_join (by exact xe_str) (by exact xe_var 3)) (by exact xe_make "Rule" (ps := ["self", "words"]) (gf := (l1 f_Rule_init)) (dds := []) (by exact T.mk_Rule) (by exact O_Rule_init.fn) (by exact O_Rule_init.mkc) (by exact B.room.mono (by decide)) (by exact B.gd) (by exact B.tk) (by rfl) (by exact T.g_Rule) (by exact mb_Rule_2) (by exact mv_Rule_2) (by exact md_Rule_2) (by exact xa_cons (by exact xe_var 3) xa_nil)) (by intro said made; exact (by exact xs_if1 (by exact xt_ne (by exact B.room.units) (by exact xe_repr (by exact B.gd) (by exact units66 B.room) (by rfl) (by exact T.n_repr) (by exact xa_cons (by exact xe_lst (by exact xa_cons (by exact xe_call (x := "rule_text") (ps := ["rule"]) (gf := (l1 f_rule_text)) (dds := []) (by exact O_rule_text.fn) (by exact B.room.mono (by decide)) (by exact B.gd) (by exact B.tk) (by rfl) (by exact T.g_rule_text) (by exact O_rule_text.kp) (by exact b_rule_text) (by exact .nil) (by exact fun _ _ => DenL.nil) (by exact xa_cons (by exact xe_var 5) xa_nil)) (by exact xa_cons (by exact xe_callK0 (x := "rule_text") (ps := ["rule"]) (ks := ["rule"]) (gf := (l1 f_rule_text)) (dds := []) (ar := arK) (by exact O_rule_text.fn) (by exact B.room.mono (by decide)) (by exact B.gd) (by exact B.tk) (by rfl) (by exact T.g_rule_text) (by exact O_rule_text.kp) (by exact k_rule_text) (by exact fun _ _ => DenL.nil) (by exact xk_cons (by exact xe_make "Rule" (ps := ["self", "words"]) (gf := (l1 f_Rule_init)) (dds := []) (by exact T.mk_Rule) (by exact O_Rule_init.fn) (by exact O_Rule_init.mkc) (by exact B.room.mono (by decide)) (by exact B.gd) (by exact B.tk) (by rfl) (by exact T.g_Rule) (by exact mb_Rule_2) (by exact mv_Rule_2) (by exact md_Rule_2) (by exact xa_cons (by exact xe_tuple_ (by rfl) (by exact T.n_tuple) (by exact xa_cons (by exact xe_var 3) xa_nil)) xa_nil)) xk_nil)) xa_nil))) xa_nil)) (by exact xe_repr (by exact B.gd) (by exact units66 B.room) (by rfl) (by exact T.n_repr) (by exact xa_cons (by exact xe_lst (by exact xa_cons (by exact xe_var 4) (by exact xa_cons (by exact xe_var 4) xa_nil))) xa_nil))) (by exact xs_ret (r := Sum.inl) (by exact xe_bl) (by exact fun d => ⟨rfl, .inl ⟨d, rfl⟩⟩)) (by exact xs_if1 (by exact XW.xt (by exact xw_or (by exact xt_not (by exact xt_cmpD (V := E) (by exact op_eqY (by exact B.room.units) T.cls T.nf (k := 1) (by exact ⟨⟨_, _, _, ⟨O_Rule_eq.fn.up (by decide), T.cls.cl "Rule" (by decide), T.m_Rule_eq⟩, rfl, b_Rule_eq⟩, trivial⟩) (by exact B.room.mono (by decide)) (by exact B.gd) (by exact B.tk)) (by exact xe_call (x := "read_rule") (ps := ["text"]) (gf := (l1 f_read_rule)) (dds := []) (by exact O_read_rule.fn) (by exact B.room.mono (by decide)) (by exact B.gd) (by exact B.tk) (by rfl) (by exact T.g_read_rule) (by exact O_read_rule.kp) (by exact b_read_rule) (by exact .nil) (by exact fun _ _ => DenL.nil) (by exact xa_cons (by exact xe_var 4) xa_nil)) (by exact xe_var 5) (by rfl))) (by exact xw_or1 (by exact xt_ne (by exact B.room.units) (by exact xe_repr (by exact B.gd) (by exact units66 B.room) (by rfl) (by exact T.n_repr) (by exact xa_cons (by exact xe_prop "Rule" "words" (gf := (l1 f_Rule_words)) (by exact P_Rule_words) (by exact T.cls.cl "Rule" (by decide)) (by exact O_Rule_words.fn) (by exact B.room.mono (by decide)) (by exact B.gd) (by exact b_Rule_words) (by exact xe_call (x := "read_rule") (ps := ["text"]) (gf := (l1 f_read_rule)) (dds := []) (by exact O_read_rule.fn) (by exact B.room.mono (by decide)) (by exact B.gd) (by exact B.tk) (by rfl) (by exact T.g_read_rule) (by exact O_read_rule.kp) (by exact b_read_rule) (by exact .nil) (by exact fun _ _ => DenL.nil) (by exact xa_cons (by exact xe_var 4) xa_nil))) xa_nil)) (by exact xe_repr (by exact B.gd) (by exact units66 B.room) (by rfl) (by exact T.n_repr) (by exact xa_cons (by exact xe_tuple_ (by rfl) (by exact T.n_tuple) (by exact xa_cons (by exact xe_var 3) xa_nil)) xa_nil)))))) (by exact xs_ret (r := Sum.inl) (by exact xe_bl) (by exact fun d => ⟨rfl, .inl ⟨d, rfl⟩⟩)) (by exact xs_set 6 (by exact sc_law.nd) (by rfl) (by first | exact .inl rfl | exact .inr rfl) (by exact xe_call (x := "_law_spoilt") (ps := ["_law_state", "_law_said"]) (gf := (l2 f_law_spoilt)) (dds := []) (by exact O_law_spoilt.fn) (by exact B.room.mono (by decide)) (by exact B.gd) (by exact B.tk) (by rfl) (by exact T.g_law_spoilt) (by exact O_law_spoilt.kp) (by exact b_law_spoilt) (by exact .nil) (by exact fun _ _ => DenL.nil) (by exact xa_cons (by exact xe_var 1) (by exact xa_cons (by exact xe_var 4) xa_nil))) (by intro near; exact (by exact xs_thenS (e := (fun yy : Unit => ([some (.val script), some (.val state), none, some (.val wording), none, some (.val made), none, none, none, none, none] : DSt))) (by exact xs_forS (T := (.nm 7)) (f := f_law_b1) (fun yy : Unit => ([some (.val script), some (.val state), none, some (.val wording), none, some (.val made), none, none, none, none, none] : DSt)) () (by exact B.po) (by exact B.calm) (by exact xi_any (by exact xe_tup (by exact xa_cons (by exact xe_var 6) (by exact xa_cons (by exact xe_add (by exact xe_add (by exact xe_var 4) (by exact xe_str)) (by exact xe_call (x := "_law_pick") (ps := ["_law_state", "_law_several"]) (gf := (l2 f_law_pick)) (dds := []) (by exact O_law_pick.fn) (by exact B.room.mono (by decide)) (by exact B.gd) (by exact B.tk) (by rfl) (by exact T.g_law_pick) (by exact O_law_pick.kp) (by exact b_law_pick) (by exact .nil) (by exact fun _ _ => DenL.nil) (by exact xa_cons (by exact xe_var 1) (by exact xa_cons (by exact xe_call0 (x := "_law_every") (ps := []) (gf := (l0 f_law_every)) (dds := []) (by exact O_law_every.fn) (by exact B.room.mono (by decide)) (by exact B.gd) (by exact B.tk) (by rfl) (by exact T.g_law_every) (by exact O_law_every.kp) (by exact b_law_every) (by exact .nil) (by exact fun _ _ => DenL.nil)) xa_nil)))) (by exact xa_cons (by exact xe_call (x := "_law_spoilt") (ps := ["_law_state", "_law_said"]) (gf := (l2 f_law_spoilt)) (dds := []) (by exact O_law_spoilt.fn) (by exact B.room.mono (by decide)) (by exact B.gd) (by exact B.tk) (by rfl) (by exact T.g_law_spoilt) (by exact O_law_spoilt.kp) (by exact b_law_spoilt) (by exact .nil) (by exact fun _ _ => DenL.nil) (by exact xa_cons (by exact xe_var 1) (by exact xa_cons (by exact xe_var 6) xa_nil))) (by exact xa_cons (by exact xe_add (by exact xe_var 4) (by exact xe_str)) xa_nil)))))) (by exact pg_name (by exact sc_law.nd) (by rfl) (by first | exact .inl rfl | exact .inr rfl)) (by exact ⟨.inr rfl, .inr rfl, .inl rfl, .inr rfl, .inl rfl, .inr rfl, .inl rfl, .inl rfl, .inl rfl, .inl rfl, .inl rfl, trivial⟩) (by intro y_1; exact none1 (by rfl)) (by intro y_1; exact tgt1 (by intro one; exact (by exact xs_set 8 (by exact sc_law.nd) (by rfl) (by first | exact .inl rfl | exact .inr rfl) (by exact xe_call (x := "_law_read_wording") (ps := ["_law_said"]) (gf := (l1 f_law_read_wording)) (dds := []) (by exact O_law_read_wording.fn) (by exact B.room.mono (by decide)) (by exact B.gd) (by exact B.tk) (by rfl) (by exact T.g_law_read_wording) (by exact O_law_read_wording.kp) (by exact b_law_read_wording) (by exact .nil) (by exact fun _ _ => DenL.nil) (by exact xa_cons (by exact xe_var 7) xa_nil)) (by intro due; exact (by exact xs_set 8 (by exact sc_law.nd) (by rfl) (by first | exact .inl rfl | exact .inr rfl) (by exact xe_if (by exact xt_is (by exact xe_var 8) (by exact xe_non)) (by exact xe_tup (by exact xa_cons (by exact xe_str) (by exact xa_cons (by exact xe_int) xa_nil))) (by exact xe_tuple_ (by rfl) (by exact T.n_tuple) (by exact xa_cons (by exact xe_var 8) xa_nil))) (by intro due_1; exact (by exact xs_setO 9 (by exact sc_law.nd) (by rfl) (by first | exact .inl rfl | exact .inr rfl) (by exact xf_lst (by exact xa_cons (by exact xe_heard (x := "_law_text_heard") (k := 5) (j := 0) (fnm := "law") (q := "law.<locals>.<lambda>") (by rfl) (by exact T.g_law_text_heard) (by exact F_law_text_heard.kp) (by exact F_law_text_heard) (by exact b_law_text_heard) (by exact sc_law_text_heard) (by rfl) (by exact .inl rfl) (by exact TB.tb ("law", "law.<locals>.<lambda>") (List.mem_of_getElem? (i := 0) rfl)) (by rfl) (by show ("law.<locals>.<lambda>" : Str) = ("law" : Str) ++ ".<locals>." ++ "<lambda>"; decide +kernel) (by exact B.room.mono (by decide)) (by exact B.gd) (by exact LamX.lamS_by (sc := defScope s_law) (by decide +kernel)) (by rfl) (by intros; rfl) (by intro A outer s H E f c0 B; exact (by exact xe_prop "Rule" "words" (gf := (l1 f_Rule_words)) (by exact P_Rule_words) (by exact T.cls.cl "Rule" (by decide)) (by exact O_Rule_words.fn) (by exact B.room.mono (by decide)) (by exact B.gd) (by exact b_Rule_words) (by exact xe_call (x := "read_rule") (ps := ["text"]) (gf := (l1 f_read_rule)) (dds := []) (by exact O_read_rule.fn) (by exact B.room.mono (by decide)) (by exact B.gd) (by exact B.tk) (by rfl) (by exact T.g_read_rule) (by exact O_read_rule.kp) (by exact b_read_rule) (by exact .nil) (by exact fun _ _ => DenL.nil) (by exact xa_cons (by exact xe_var 7) xa_nil)))) (by intro cdv s H f c0 sm B act; exact cat_law_text_heard T TB (by exact BodyX.mono B (by decide)) act)) xa_nil)) (by intro heard; exact (by exact xs_append 9 (by rfl) (by rfl) (by exact xe_heard (x := "_law_text_heard") (k := 5) (j := 0) (fnm := "law") (q := "law.<locals>.<lambda>") (by rfl) (by exact T.g_law_text_heard) (by exact F_law_text_heard.kp) (by exact F_law_text_heard) (by exact b_law_text_heard) (by exact sc_law_text_heard) (by rfl) (by exact .inl rfl) (by exact TB.tb ("law", "law.<locals>.<lambda>") (List.mem_of_getElem? (i := 0) rfl)) (by rfl) (by show ("law.<locals>.<lambda>" : Str) = ("law" : Str) ++ ".<locals>." ++ "<lambda>"; decide +kernel) (by exact B.room.mono (by decide)) (by exact B.gd) (by exact LamX.lamS_by (sc := defScope s_law) (by decide +kernel)) (by rfl) (by intros; rfl) (by intro A outer s H E f c0 B; exact (by exact xe_prop "Rule" "words" (gf := (l1 f_Rule_words)) (by exact P_Rule_words) (by exact T.cls.cl "Rule" (by decide)) (by exact O_Rule_words.fn) (by exact B.room.mono (by decide)) (by exact B.gd) (by exact b_Rule_words) (by exact xe_callK0 (x := "read_rule") (ps := ["text"]) (ks := ["text"]) (gf := (l1 f_read_rule)) (dds := []) (ar := arK) (by exact O_read_rule.fn) (by exact B.room.mono (by decide)) (by exact B.gd) (by exact B.tk) (by rfl) (by exact T.g_read_rule) (by exact O_read_rule.kp) (by exact k_read_rule) (by exact fun _ _ => DenL.nil) (by exact xk_cons (by exact xe_var 7) xk_nil)))) (by intro cdv s H f c0 sm B act; exact cat_law_text_heard T TB (by exact BodyX.mono B (by decide)) act)) (by intro heard_1; exact (by exact xs_freeze 9 (by rfl) (by exact xs_last (by exact xs_if (by exact xt_ne (by exact B.room.units) (by exact xe_repr (by exact B.gd) (by exact units66 B.room) (by rfl) (by exact T.n_repr) (by exact xa_cons (by exact xe_var 9) xa_nil)) (by exact xe_repr (by exact B.gd) (by exact units66 B.room) (by rfl) (by exact T.n_repr) (by exact xa_cons (by exact xe_lst (by exact xa_cons (by exact xe_var 8) (by exact xa_cons (by exact xe_var 8) xa_nil))) xa_nil))) (by exact xs_ret (r := Sum.inl) (by exact xe_bl) (by exact fun _ => rfl)) (by exact xs_nil (a := Sum.inr ()) (by exact ⟨_, rfl, ⟨.inr rfl, .inr rfl, .inl rfl, .inr rfl, .inl rfl, .inr rfl, .inl rfl, .inl rfl, .inl rfl, .inl rfl, .inl rfl, trivial⟩⟩)))))))))))))))) (by exact fun _ => rfl) (by intro y_2; exact (by exact xs_thenS (e := (fun yy : Unit => ([some (.val script), some (.val state), none, none, none, none, none, none, none, none, none] : DSt))) (by exact xs_forS (T := (.nm 10)) (f := f_law_b2) (fun yy : Unit => ([some (.val script), some (.val state), none, none, none, none, none, none, none, none, none] : DSt)) () (by exact B.po) (by exact B.calm) (by exact xi_any (by exact xe_tup (by exact xa_cons (by exact xe_non) (by exact xa_cons (by exact xe_int) (by exact xa_cons (by exact xe_bl) (by exact xa_cons (by exact xe_var 3) (by exact xa_cons (by exact xe_tuple_ (by rfl) (by exact T.n_tuple) (by exact xa_cons (by exact xe_var 3) xa_nil)) (by exact xa_cons (by exact xe_var 5) (by exact xa_cons (by exact xe_dict0) xa_nil))))))))) (by exact pg_name (by exact sc_law.nd) (by rfl) (by first | exact .inl rfl | exact .inr rfl)) (by exact ⟨.inr rfl, .inr rfl, .inl rfl, .inl rfl, .inl rfl, .inl rfl, .inl rfl, .inl rfl, .inl rfl, .inl rfl, .inl rfl, trivial⟩) (by intro y_3; exact none1 (by rfl)) (by intro y_3; exact tgt1 (by intro thing; exact (by exact xs_last (by exact xs_if (by exact xt_ne (by exact B.room.units) (by exact xe_repr (by exact B.gd) (by exact units66 B.room) (by rfl) (by exact T.n_repr) (by exact xa_cons (by exact xe_heard (x := "_law_text_heard") (k := 5) (j := 0) (fnm := "law") (q := "law.<locals>.<lambda>") (by rfl) (by exact T.g_law_text_heard) (by exact F_law_text_heard.kp) (by exact F_law_text_heard) (by exact b_law_text_heard) (by exact sc_law_text_heard) (by rfl) (by exact .inl rfl) (by exact TB.tb ("law", "law.<locals>.<lambda>") (List.mem_of_getElem? (i := 0) rfl)) (by rfl) (by show ("law.<locals>.<lambda>" : Str) = ("law" : Str) ++ ".<locals>." ++ "<lambda>"; decide +kernel) (by exact B.room.mono (by decide)) (by exact B.gd) (by exact LamX.lamS_by (sc := defScope s_law) (by decide +kernel)) (by rfl) (by intros; rfl) (by intro A outer s H E f c0 B; exact (by exact xe_prop "Rule" "words" (gf := (l1 f_Rule_words)) (by exact P_Rule_words) (by exact T.cls.cl "Rule" (by decide)) (by exact O_Rule_words.fn) (by exact B.room.mono (by decide)) (by exact B.gd) (by exact b_Rule_words) (by exact xe_call (x := "read_rule") (ps := ["text"]) (gf := (l1 f_read_rule)) (dds := []) (by exact O_read_rule.fn) (by exact B.room.mono (by decide)) (by exact B.gd) (by exact B.tk) (by rfl) (by exact T.g_read_rule) (by exact O_read_rule.kp) (by exact b_read_rule) (by exact .nil) (by exact fun _ _ => DenL.nil) (by exact xa_cons (by exact xe_var 10) xa_nil)))) (by intro cdv s H f c0 sm B act; exact cat_law_text_heard T TB (by exact BodyX.mono B (by decide)) act)) xa_nil)) (by exact xe_repr (by exact B.gd) (by exact units66 B.room) (by rfl) (by exact T.n_repr) (by exact xa_cons (by exact xe_tup (by exact xa_cons (by exact xe_str) (by exact xa_cons (by exact xe_int) xa_nil))) xa_nil))) (by exact xs_ret (r := Sum.inl) (by exact xe_bl) (by exact fun _ => rfl)) (by exact xs_nil (a := Sum.inr ()) (by exact ⟨_, rfl, ⟨.inr rfl, .inr rfl, .inl rfl, .inl rfl, .inl rfl, .inl rfl, .inl rfl, .inl rfl, .inl rfl, .inl rfl, .inl rfl, trivial⟩⟩))))))) (by exact fun _ => rfl) (by intro y_4; exact (by exact xs_nil (a := Sum.inr ()) (by exact ⟨_, rfl, ⟨.inr rfl, .inr rfl, .inl rfl, .inl rfl, .inl rfl, .inl rfl, .inl rfl, .inl rfl, .inl rfl, .inl rfl, .inl rfl, trivial⟩⟩))))))))))))))))) (by exact fun _ => .inl rfl) (by intro y_5; exact (by exact xs_retB (by exact xe_bl))))))
instance : Pre := ⟨[.tab "law" "law.<locals>.<lambda>"], 1, rfl⟩
def lawIx : Nat := 20
def lawLevel : Nat := 8
end LW

namespace LW
open PySem PySem.Spec PyProof.Rows L2 RM
/-! ### data that are passed about -/
mutual
def fineD : D → Bool
  | .non => true
  | .bl _ => true
  | .int _ => true
  | .str x => decide (x.length ≤ 1000) && x.cps.toList.all fun c => decide (c < 128)
  | .tup xs => fineL xs
  | .lst xs => fineL xs
  | .dic _ _ => true
  | .ins c _ _ => decide (c ∈ clsL)
  | .mref _ => false
  | .scr _ => false
  | .xcp _ _ _ => false
def fineL : List D → Bool
  | [] => true
  | d :: ds => fineD d && fineL ds
end
theorem fineL_iff : ∀ {ds : List D}, fineL ds = true ↔ ∀ d ∈ ds, fineD d = true
  | [] => by simp [fineL]
  | d :: ds => by simp [fineL, fineL_iff (ds := ds)]
abbrev abc : Str := "abcdefghijklmnopqrstuvwxyz"
def nameS (x : Str) : Bool := decide (1 ≤ x.length) && decide (x.length ≤ 8) && x.cps.toList.all fun c => decide (c ∈ abc.cps.toList)
def nameB : D → Bool
  | .str x => nameS x
  | _ => false
def intB : D → Bool
  | .int _ => true
  | _ => false
def countB : D → Bool
  | .int i => decide (0 ≤ i)
  | _ => false
def saleB : D → Bool
  | .tup [a, b, c, d] => nameB a && nameB b && countB c && countB d
  | _ => false
def stretchB : D → Bool
  | .tup [a, .non] => countB a
  | .tup [.int a, .int b] => decide (0 ≤ a) && decide (a ≤ b)
  | _ => false
theorem fine_str {x : Str} : fineD (.str x) = true ↔ x.length ≤ 1000 ∧ ∀ c ∈ x.cps.toList, c < 128 := by
  unfold fineD
  rw [Bool.and_eq_true, decide_eq_true_eq, List.all_eq_true]
  simp only [decide_eq_true_eq]
@[simp] theorem fine_int (i : Int) : fineD (.int i) = true := Eq.trans rfl rfl
@[simp] theorem fine_non : fineD .non = true := Eq.trans rfl rfl
@[simp] theorem fine_bl (b : Bool) : fineD (.bl b) = true := Eq.trans rfl rfl
theorem fine_ins {c : Str} {ns : List Str} {fs : List D} (h : fineD (.ins c ns fs) = true) : c ∈ clsL := of_decide_eq_true h
def signB : D → Bool
  | .str z => match z.cps.toList with
    | [c] => decide (c ∈ abc.cps.toList)
    | _ => false
  | _ => false
theorem in_abc (neg : Bool) (c : Nat) : inD neg (.str ⟨#[c]⟩) (.str abc) = pure (.bl (if neg then !signB (.str ⟨#[c]⟩) else signB (.str ⟨#[c]⟩))) := rfl
theorem signs_len (x : Str) : (RM.signs x).length = x.length := by unfold RM.signs; rw [List.length_map]; rfl
theorem toBools_map (f : D → Bool) : ∀ ds : List D, toBools (ds.map fun d => D.bl (f d)) = some (ds.map f)
  | [] => rfl
  | d :: ds => by
    show (toBools (ds.map fun d => D.bl (f d))).map (f d :: ·) = _
    rw [toBools_map f ds]; rfl
theorem signs_all (x : Str) : ((RM.signs x).map signB).all id = x.cps.toList.all fun c => decide (c ∈ abc.cps.toList) := by
  unfold RM.signs
  rw [List.map_map, List.all_map]
  rfl
theorem allD_map (f : D → Bool) (ds : List D) : allD [.lst (ds.map fun d => D.bl (f d))] = pure (.bl ((ds.map f).all id)) := by
  unfold allD
  dsimp only
  rw [toBools_map]
/-! ### picks, names -/
theorem pick_lst {xs : List D} (h0 : 0 < xs.length) (h1 : xs.length < 1000000) : HT 1 (f_law_pick (.mref Pre.ix) (.lst xs)) fun d => d ∈ xs := by
  unfold f_law_pick
  simp
  refine HT.draw (k := 0) (by omega) fun i i0 i1 => ?_
  obtain ⟨d, hm, _, e, _⟩ := idx_at i0 i1
  rw [e]
  exact HT.p0 hm
theorem pick_str {x : Str} (h0 : 0 < x.length) (h1 : x.length < 1000000) : HT 1 (f_law_pick (.mref Pre.ix) (.str x)) fun d => ∃ c ∈ x.cps.toList, d = .str ⟨#[c]⟩ := by
  have hs : x.length ≤ sizeLine := size_big _ (by omega)
  unfold f_law_pick
  simp [show x.length ≤ 16777216 by omega]
  refine HT.draw (k := 0) (by omega) fun i i0 i1 => ?_
  obtain ⟨c, hm, _, ha⟩ := atI_in (xs := x.cps.toList) i0 (by rw [show x.cps.toList.length = x.length from rfl]; exact i1)
  have e : idxD (.str x) (.int i) = pure (.str ⟨#[c]⟩) := by
    unfold idxD
    dsimp only
    rw [if_pos hs, ha]
  rw [e]
  exact HT.p0 ⟨c, by simpa using hm, rfl⟩
def sg (c : Nat) : Str := ⟨#[c]⟩
theorem join_signs : ∀ cs : List Nat, (Txt.join "" (cs.map sg)).cps.toList = cs
  | [] => by decide +kernel
  | [c] => by
    rw [TL.join_eq]
    exact TL.tl_join "" [sg c]
  | c :: d :: cs => by
    have ih := join_signs (d :: cs)
    rw [TL.join_eq] at ih ⊢
    have h1 := TL.tl_join "" (sg c :: sg d :: cs.map sg)
    have h2 := TL.tl_join "" (sg d :: cs.map sg)
    have e : (Str.join "" (sg c :: sg d :: cs.map sg)).cps.toList = (sg c).cps.toList ++ (Str.join "" (sg d :: cs.map sg)).cps.toList := h1.trans (congrArg ((sg c).cps.toList ++ ·) h2.symm)
    exact e.trans (congrArg ([c] ++ ·) ih)
theorem toStrs_signs : ∀ {ys : List D}, (∀ y ∈ ys, ∃ c ∈ abc.cps.toList, y = .str ⟨#[c]⟩) → ∃ cs : List Nat, toStrs ys = some (cs.map sg) ∧ cs.length = ys.length ∧ ∀ c ∈ cs, c ∈ abc.cps.toList
  | [], _ => ⟨[], rfl, rfl, fun _ h => by cases h⟩
  | y :: ys, h => by
    obtain ⟨c, hc, rfl⟩ := h y (by simp)
    obtain ⟨cs, e, l, k⟩ := toStrs_signs (ys := ys) fun z hz => h z (List.mem_cons_of_mem _ hz)
    refine ⟨c :: cs, by show (toStrs ys).map (_ :: ·) = _; rw [e]; rfl, by simp [l], fun z hz => ?_⟩
    rcases List.mem_cons.mp hz with rfl | q
    · exact hc
    · exact k z q
theorem join_empty {ys : List D} (n : Nat) (hn : ys.length = n) (h1 : 1 ≤ n) (h8 : n ≤ 8) (h : ∀ y ∈ ys, ∃ c ∈ abc.cps.toList, y = .str ⟨#[c]⟩) : ∃ x, joinD (.str "") (.lst ys) = pure (.str x) ∧ nameS x = true := by
  obtain ⟨cs, e, l, k⟩ := toStrs_signs h
  have jl := join_signs cs
  have len : (Txt.join "" (cs.map sg)).length = cs.length := by
    show (Txt.join "" (cs.map sg)).cps.size = cs.length
    rw [← Array.length_toList, jl]
  refine ⟨Txt.join "" (cs.map sg), ?_, ?_⟩
  · unfold joinD
    dsimp only
    rw [e]
    refine if_pos ?_
    have e1 : ("" : Str).length = 0 := rfl
    have e2 : ((cs.map sg).map (·.length)).sum = cs.length := by
      rw [List.map_map]
      have : ∀ l : List Nat, (l.map ((·.length) ∘ sg)).sum = l.length := fun l => by
        induction l with
        | nil => rfl
        | cons a r ih => rw [List.map_cons, List.sum_cons, ih, List.length_cons]; show 1 + r.length = _; omega
      exact this cs
    rw [e1, e2]; omega
  · unfold nameS
    rw [len, jl, Bool.and_eq_true, Bool.and_eq_true, decide_eq_true_eq, decide_eq_true_eq, List.all_eq_true]
    exact ⟨⟨by omega, by omega⟩, fun c hc => decide_eq_true (k c hc)⟩
/-! ### stretches, frames -/
structure Span where
  a : Int
  b : Option Int
def optI : Option Int → D
  | none => .non
  | some i => .int i
def optS : Option Str → D
  | none => .non
  | some x => .str x
@[simp] theorem optI_none : optI none = .non := rfl
@[simp] theorem optI_some (i : Int) : optI (some i) = .int i := rfl
@[simp] theorem optS_none : optS none = .non := rfl
@[simp] theorem optS_some (x : Str) : optS (some x) = .str x := rfl
@[reducible] def Span.d (s : Span) : D := .tup [.int s.a, optI s.b]
@[simp] theorem Span.d_mk (a : Int) (b : Option Int) : Span.d ⟨a, b⟩ = .tup [.int a, optI b] := Eq.trans rfl rfl
structure Span.ok (s : Span) (m : Int) : Prop where
  lo : 0 ≤ s.a
  hi : s.a ≤ m
  up : ∀ b, s.b = some b → s.a ≤ b ∧ b ≤ m
theorem Span.ok.le {s : Span} {m k : Int} (h : s.ok m) (hk : m ≤ k) : s.ok k := ⟨h.lo, by have := h.hi; omega, fun b e => by have := h.up b e; omega⟩
def Nm (o : Option Str) : Prop := ∀ x, o = some x → nameS x = true
structure Frame where
  who : Option Str
  what : Option Str
  days : Span
  amts : Span
@[reducible] def Frame.l (f : Frame) : List D := [optS f.who, optS f.what, f.days.d, f.amts.d]
@[reducible] def Frame.d (f : Frame) : D := .tup f.l
structure Frame.ok (f : Frame) (m : Int) : Prop where
  w1 : Nm f.who
  w2 : Nm f.what
  d : f.days.ok m
  a : f.amts.ok m
theorem Frame.ok.le {f : Frame} {m k : Int} (h : f.ok m) (hk : m ≤ k) : f.ok k := ⟨h.w1, h.w2, h.d.le hk, h.a.le hk⟩
def PoolP (xs : List D) : Prop := 0 < xs.length ∧ xs.length < 1000 ∧ ∀ d ∈ xs, ∃ o, d = optS o ∧ Nm o
theorem pick_pool {xs : List D} (h : PoolP xs) : HT 1 (f_law_pick (.mref Pre.ix) (.lst xs)) fun d => ∃ o, d = optS o ∧ Nm o := HT.imp (pick_lst h.1 (by have := h.2.1; omega)) h.2.2
/-! ### frames near to one another -/
def frs (fs : List Frame) : List D := fs.map Frame.d
theorem name_lay {x : Str} (h : nameS x = true) : PyData.canLay0 (.str x) = true := by
  unfold nameS at h
  rw [Bool.and_eq_true, List.all_eq_true] at h
  show x.cps.all _ = true
  rw [← Array.all_toList, List.all_eq_true]
  intro c hc
  have : ∀ z ∈ abc.cps.toList, z < 1114112 := by decide +kernel
  exact decide_eq_true (this c (of_decide_eq_true (h.2 c hc)))
theorem optS_flat {o : Option Str} {n : Nat} (h : Nm o) : flatN n (optS o) = true := by
  cases o with
  | none => cases n <;> rfl
  | some x =>
    have := name_lay (h x rfl)
    cases n <;> exact this
theorem span_flat (s : Span) (n : Nat) : flatN (n + 1) s.d = true := by
  obtain ⟨a, b⟩ := s
  show ([D.int a, optI b].all (flatN n)) = true
  cases b <;> cases n <;> rfl
theorem frame_flat {f : Frame} {m : Int} (h : f.ok m) (n : Nat) : flatN (n + 2) f.d = true := by
  show (f.l.all (flatN (n + 1))) = true
  simp only [List.all_cons, List.all_nil, Bool.and_true, optS_flat h.w1, optS_flat h.w2, span_flat]
theorem frame_noLst (f : Frame) : noLst f.d = true := by
  obtain ⟨w, x, ⟨a, b⟩, ⟨c, d⟩⟩ := f
  cases w <;> cases x <;> cases b <;> cases d <;> rfl
theorem reprD_of {d : D} {x : PyData} (h : toPy d = some x) (c : x.showable = true ∧ x.depth ≤ 64 ∧ x.shown.length ≤ sizeLine) : reprD [d] = pure (.str x.shown) := by
  unfold reprD
  dsimp only
  rw [h]
  exact if_pos c
theorem repr2 (a b : Bool) : ∃ s, reprD [.lst [.bl a, .bl b]] = pure (.str s) := by
  cases a <;> cases b <;> exact ⟨_, reprD_of rfl ⟨by decide +kernel, by decide +kernel, by decide +kernel⟩⟩
theorem repr3 (a b c : Bool) : ∃ s, reprD [.lst [.bl a, .bl b, .bl c]] = pure (.str s) := by
  cases a <;> cases b <;> cases c <;> exact ⟨_, reprD_of rfl ⟨by decide +kernel, by decide +kernel, by decide +kernel⟩⟩
theorem keysD_ints : ∀ ns : List Int, keysD (ns.map D.int) = some (ns.map Sum.inl)
  | [] => rfl
  | n :: ns => by
    show (match keyD (.int n), keysD (ns.map D.int) with | some k, some ks => some (k :: ks) | _, _ => none) = _
    rw [keysD_ints ns]; rfl
theorem keysD_strs : ∀ ns : List Str, keysD (ns.map D.str) = some (ns.map Sum.inr)
  | [] => rfl
  | n :: ns => by
    show (match keyD (.str n), keysD (ns.map D.str) with | some k, some ks => some (k :: ks) | _, _ => none) = _
    rw [keysD_strs ns]; rfl
theorem hom_ints : ∀ ns : List Int, homK (ns.map Sum.inl) = true
  | [] => rfl
  | n :: ns => by
    show (ns.map (Sum.inl : Int → Key)).all Sum.isLeft = true
    rw [List.all_map, List.all_eq_true]
    intro x _; rfl
theorem hom_strs : ∀ ns : List Str, homK (ns.map Sum.inr) = true
  | [] => rfl
  | n :: ns => by
    show (ns.map (Sum.inr : Str → Key)).all Sum.isRight = true
    rw [List.all_map, List.all_eq_true]
    intro x _; rfl
theorem keys_left {ks : List Key} (h : ∀ k ∈ ks, ∃ i, k = Sum.inl i) : ∃ ns : List Int, ks.map kD = ns.map D.int ∧ ks = ns.map Sum.inl := by
  induction ks with
  | nil => exact ⟨[], rfl, rfl⟩
  | cons k ks ih =>
    obtain ⟨i, rfl⟩ := h k (by simp)
    obtain ⟨ns, e1, e2⟩ := ih fun z hz => h z (List.mem_cons_of_mem _ hz)
    exact ⟨i :: ns, by rw [List.map_cons, e1]; rfl, by rw [e2]; rfl⟩
theorem keys_right {ks : List Key} (h : ∀ k ∈ ks, ∃ i, k = Sum.inr i) : ∃ ns : List Str, ks.map kD = ns.map D.str ∧ ks = ns.map Sum.inr := by
  induction ks with
  | nil => exact ⟨[], rfl, rfl⟩
  | cons k ks ih =>
    obtain ⟨i, rfl⟩ := h k (by simp)
    obtain ⟨ns, e1, e2⟩ := ih fun z hz => h z (List.mem_cons_of_mem _ hz)
    exact ⟨i :: ns, by rw [List.map_cons, e1]; rfl, by rw [e2]; rfl⟩
theorem ne_self {d : D} {x : PyData} (h : toPy d = some x) (hs : SeqAt.shaped x = true) : eqDeep true d d = pure (.bl false) := by
  unfold eqDeep
  rw [h]
  show (if SeqAt.shaped x = true ∧ SeqAt.shaped x = true then _ else _) = _
  rw [if_pos ⟨hs, hs⟩]
  have : PyData.canLay0 x = true := by
    unfold SeqAt.shaped at hs
    simp only [Bool.and_eq_true] at hs
    exact hs.1
  rw [SeqAt.eqv_refl x this]
  rfl
/-! ### words -/
def every : List Str := ["narrowest", "widest", "newest", "oldest", "cheapest", "dearest", "highest", "lowest"]
theorem every_or {w : Str} (h : w ∈ every) : w = "narrowest" ∨ w = "widest" ∨ w = "newest" ∨ w = "oldest" ∨ w = "cheapest" ∨ w = "dearest" ∨ w = "highest" ∨ w = "lowest" := by
  unfold every at h
  simpa only [List.mem_cons, List.not_mem_nil, or_false] using h
structure Ws (ws : List Str) : Prop where
  nd : ws.Nodup
  mem : ∀ w ∈ ws, w ∈ every
theorem Ws.sub {ws vs : List Str} (h : Ws ws) (s : vs.Sublist ws) : Ws vs := ⟨s.nodup h.nd, fun w hw => h.mem w (s.subset hw)⟩
theorem every_nd : every.Nodup := by decide +kernel
theorem nodup_sub {α : Type} [DecidableEq α] : ∀ {xs ys : List α}, xs.Nodup → (∀ x ∈ xs, x ∈ ys) → xs.length ≤ ys.length
  | [], _, _, _ => Nat.zero_le _
  | x :: xs, ys, nd, h => by
    have nd := List.nodup_cons.mp nd
    have hx := h x (by simp)
    have := nodup_sub (xs := xs) (ys := ys.erase x) nd.2 fun z hz => by
      refine (List.mem_erase_of_ne ?_).mpr (h z (List.mem_cons_of_mem _ hz))
      rintro rfl
      exact nd.1 hz
    rw [List.length_erase_of_mem hx] at this
    have := List.length_pos_of_mem hx
    rw [List.length_cons]
    omega
theorem nodup_len {ws : List Str} (h : Ws ws) : ws.length ≤ 8 := nodup_sub (ys := every) h.nd h.mem
def wds (ws : List Str) : List D := ws.map D.str
theorem wds_len (ws : List Str) : (wds ws).length = ws.length := by unfold wds; simp
theorem flat_str (x : Str) (hx : PyData.canLay0 (.str x) = true) (n : Nat) : flatN n (.str x) = true := by cases n <;> exact hx
theorem every_lay : ∀ w ∈ every, PyData.canLay0 (.str w) = true := by decide +kernel
/-! ### mixed -/
theorem pop_at {xs : List D} {i : Int} (h0 : 0 ≤ i) (h1 : i < xs.length) (hl : xs.length ≤ 1000000) : ∃ d, xs[i.toNat]? = some d ∧ popX xs (.int i) = pure (d, xs.eraseIdx i.toNat) := by
  have hi : i.toNat < xs.length := by omega
  refine ⟨xs[i.toNat], by simp [hi], ?_⟩
  unfold popX popO
  have e : seqIndex? i xs.length = some i.toNat := by
    unfold seqIndex?
    simp [show ¬ i < 0 by omega, h0, h1]
  dsimp only
  rw [if_pos (by constructor <;> omega), e]
  simp [hi]
theorem erase_perm {α : Type} : ∀ (xs : List α) (i : Nat) (h : i < xs.length), (xs[i] :: xs.eraseIdx i).Perm xs
  | [], _, h => absurd h (by simp)
  | x :: xs, 0, _ => List.Perm.refl _
  | x :: xs, i + 1, h => by
    have ih := erase_perm xs i (by simpa using h)
    exact (List.Perm.swap _ _ _).trans (ih.cons x)
theorem mixed_go {n : Nat} : ∀ (k fuel : Nat) (left found : List D), left.length = k → k < fuel → left.length + found.length ≤ 1000 → left.all (flatN n) = true → n < 64 →
    HT k (whileN f_law_mixed_w1c (f_law_mixed_w2b (.mref Pre.ix)) fuel (left, found)) fun r => r.2.Perm (found ++ left)
  | k, 0, _, _, _, h, _, _, _ => by omega
  | 0, fuel + 1, left, found, hk, _, _, hf, hn => by
    have : left = [] := List.length_eq_zero_iff.mp hk
    subst this
    have c : f_law_mixed_w1c ([], found) = pure false := by
      unfold f_law_mixed_w1c
      simp
    unfold whileN
    rw [c]
    exact HT.p0 (by simp)
  | k + 1, fuel + 1, left, found, hk, hf1, hl, hf, hn => by
    have c : f_law_mixed_w1c (left, found) = pure true := by
      have : left ≠ [] := fun e => by rw [e] at hk; cases hk
      unfold f_law_mixed_w1c
      simp [(nil_eq hf hn).2, show left.isEmpty = false by cases left with | nil => exact absurd rfl this | cons _ _ => rfl]
    unfold whileN
    rw [c]
    show HT (k + 1) (B (f_law_mixed_w2b (.mref Pre.ix) (left, found)) fun y => whileN _ _ fuel y) _
    have b : f_law_mixed_w2b (.mref Pre.ix) (left, found) = B (drawM [.mref Pre.ix, .int left.length]) fun x => B (appPop found left x) fun both => pure (both.2, both.1) := by
      unfold f_law_mixed_w2b
      simp
    rw [b]
    simp only [B_Bs]
    refine HT.draw (k := k) (by omega) fun i i0 i1 => ?_
    obtain ⟨d, e1, e2⟩ := pop_at i0 i1 (by omega)
    unfold appPop
    simp [e2, show found.length < 16777216 by omega]
    have hi : i.toNat < left.length := by omega
    refine HT.imp (mixed_go k fuel (left.eraseIdx i.toNat) (found ++ [d]) ?_ (by omega) ?_ ?_ hn) fun r hr => ?_
    · rw [List.length_eraseIdx, if_pos hi]; omega
    · rw [List.length_eraseIdx, if_pos hi, List.length_append, List.length_singleton]; omega
    · rw [List.all_eq_true] at hf ⊢
      exact fun x hx => hf x (List.mem_of_mem_eraseIdx hx)
    · refine hr.trans ?_
      rw [List.append_assoc]
      refine List.Perm.append_left _ ?_
      have hd : d = left[i.toNat] := by
        rw [List.getElem?_eq_getElem hi] at e1
        exact (Option.some.inj e1).symm
      rw [hd]
      exact erase_perm left i.toNat hi
theorem mixed_ok {n : Nat} {xs : List D} (hl : xs.length ≤ 500) (hf : xs.all (flatN n) = true) (hn : n < 64) : HT xs.length (f_law_mixed (.mref Pre.ix) (.lst xs)) fun d => ∃ ys, d = .lst ys ∧ ys.Perm xs := by
  unfold f_law_mixed
  simp
  refine HT.le (HT.C (k := 0) (mixed_go xs.length 1100 xs [] rfl (by omega) (by simp; omega) hf hn) ?_) (by omega)
  intro r hr
  exact HT.p0 ⟨r.2, rfl, by simpa using hr⟩
theorem perm_strs {ys : List D} {ws : List Str} (h : ys.Perm (ws.map D.str)) : ∃ vs : List Str, ys = vs.map D.str ∧ vs.Perm ws := by
  refine ⟨ys.map fun d => match d with | .str x => x | _ => "", ?_, ?_⟩
  · rw [List.map_map]
    have : ∀ y ∈ ys, (D.str ∘ fun d => match d with | .str x => x | _ => "") y = y := fun y hy => by
      obtain ⟨w, _, rfl⟩ := List.mem_map.mp (h.mem_iff.mp hy)
      rfl
    conv => lhs; rw [← List.map_id ys]
    exact List.map_congr_left fun y hy => (this y hy).symm
  · refine (h.map _).trans ?_
    rw [List.map_map]
    have : ∀ w ∈ ws, ((fun d => match d with | .str x => x | _ => "") ∘ D.str) w = w := fun w _ => rfl
    conv => rhs; rw [← List.map_id ws]
    exact List.Perm.of_eq (List.map_congr_left fun y hy => this y hy)
theorem cut_take {α : Type} (xs : List α) {k : Int} (h : 0 ≤ k) : cutL xs none (some k) = xs.take k.toNat := by
  unfold cutL _root_.HT.sIx
  simp [show ¬ k < 0 by omega]
theorem memD_strs (x : Str) (ws : List Str) : memD (.str x) (wds ws) = decide (x ∈ ws) := by
  unfold memD wds
  rw [List.any_map]
  induction ws with
  | nil => rfl
  | cons w ws ih =>
    rw [List.any_cons, ih]
    show ((w == x) || decide (x ∈ ws)) = decide (x ∈ w :: ws)
    by_cases q : w = x
    · subst q; simp
    · have q' : ¬ x = w := fun e => q e.symm
      simp [q, q']
theorem flat_wds (ws : List Str) : (wds ws).all flatD = true := by
  unfold wds
  rw [List.all_map, List.all_eq_true]
  intro x _; rfl
theorem in_lst (neg : Bool) (x : Str) (ws : List Str) : inD neg (.str x) (.lst (wds ws)) = pure (.bl (if neg then !decide (x ∈ ws) else decide (x ∈ ws))) := by
  show (if flatD (.str x) = true ∧ (wds ws).all flatD = true then pure (D.bl (if neg then !memD (.str x) (wds ws) else memD (.str x) (wds ws))) else stuck) = _
  rw [if_pos ⟨rfl, flat_wds ws⟩, memD_strs]
theorem in_tup (neg : Bool) (x : Str) (ws : List Str) : inD neg (.str x) (.tup (wds ws)) = pure (.bl (if neg then !decide (x ∈ ws) else decide (x ∈ ws))) := by
  show (if flatD (.str x) = true ∧ (wds ws).all flatD = true then pure (D.bl (if neg then !memD (.str x) (wds ws) else memD (.str x) (wds ws))) else stuck) = _
  rw [if_pos ⟨rfl, flat_wds ws⟩, memD_strs]
theorem every_flat : (wds every).all (flatN 0) = true := by decide +kernel
theorem pick_two {a b : Str} : HT 1 (f_law_pick (.mref Pre.ix) (.lst [.str a, .str b])) fun d => d = .str a ∨ d = .str b := HT.imp (pick_lst (by simp) (by simp)) fun d hd => by
  simpa only [List.mem_cons, List.not_mem_nil, or_false] using hd
/-! ### rules -/
def kindW (w : Str) : Str := (tt_KINDS.lookup w).getD ""
abbrev ent : Str := "entry"
def liveGo : List Str → List Str → List Str → List Str × List Str
  | [], f, u => (f, u)
  | w :: ws, f, u => if kindW w ∉ u ∧ ent ∉ u then liveGo ws (f ++ [w]) (u ++ [kindW w]) else liveGo ws f u
def live (ws : List Str) : List Str := (liveGo ws [] []).1
theorem kind_ix {w : Str} (h : w ∈ every) : ixTab tt_KINDS (.str w) = pure (.str (kindW w)) := by
  rcases every_or h with rfl | rfl | rfl | rfl | rfl | rfl | rfl | rfl <;> kernel_rfl
theorem kind_in {w : Str} (h : w ∈ every) : inTab false tt_KINDS (.str w) = pure (.bl true) := by
  rcases every_or h with rfl | rfl | rfl | rfl | rfl | rfl | rfl | rfl <;> kernel_rfl
theorem live_step {w : Str} {f u : List Str} (h : w ∈ every) (hf : f.length ≤ 1000) (hu : u.length ≤ 1000) : f_live_of_b1 (.str w) (wds f, wds u) = pure (if kindW w ∉ u ∧ ent ∉ u then (wds (f ++ [w]), wds (u ++ [kindW w])) else (wds f, wds u)) := by
  have lf := wds_len f
  have lu := wds_len u
  have i2 : inD true (.str (Str.ofString "entry")) (.lst (wds u)) = pure (.bl (!decide (ent ∈ u))) := in_lst true ent u
  unfold f_live_of_b1
  simp [kind_ix h, in_lst, i2]
  by_cases q1 : kindW w ∈ u
  · simp [q1]
  · by_cases q2 : ent ∈ u
    · simp [q1, q2]
    · simp [q1, q2, show (wds f).length < 16777216 by omega, show (wds u).length < 16777216 by omega, kind_ix h]
      unfold wds; simp
theorem live_loop : ∀ (ws f u : List Str), (∀ w ∈ ws, w ∈ every) → f.length + ws.length ≤ 900 → u.length + ws.length ≤ 900 → loopN f_live_of_b1 (wds ws) (wds f, wds u) = pure (wds (liveGo ws f u).1, wds (liveGo ws f u).2)
  | [], f, u, _, _, _ => rfl
  | w :: ws, f, u, h, hf, hu => by
    rw [List.length_cons] at hf hu
    show B (f_live_of_b1 (.str w) (wds f, wds u)) (fun y => loopN f_live_of_b1 (wds ws) y) = _
    rw [live_step (h w (by simp)) (by omega) (by omega), B_pure]
    unfold liveGo
    have h' := fun z hz => h z (List.mem_cons_of_mem w hz)
    by_cases q : kindW w ∉ u ∧ ent ∉ u
    · rw [if_pos q, if_pos q]
      exact live_loop ws _ _ h' (by simp; omega) (by simp; omega)
    · rw [if_neg q, if_neg q]
      exact live_loop ws _ _ h' (by omega) (by omega)
theorem once_nodup : ∀ (n : Nat) (ks : List Key), ks.length = n → ks.Nodup → once ks = ks
  | 0, ks, h, _ => by
    have : ks = [] := List.length_eq_zero_iff.mp h
    subst this; rfl
  | n + 1, ks, h, nd => by
    have hn : ks ≠ [] := fun e => by rw [e] at h; cases h
    have e := List.dropLast_concat_getLast hn
    rw [← e] at nd ⊢
    have nd2 := List.nodup_append.mp nd
    rw [once_snoc, once_nodup n ks.dropLast (by rw [List.length_dropLast]; omega) nd2.1]
    unfold RM.stepK
    rw [if_neg]
    intro z
    obtain ⟨x, hx, e⟩ := List.any_eq_true.mp z
    exact nd2.2.2 x hx _ (List.mem_singleton.mpr rfl) (of_decide_eq_true e)
theorem lenSet_ws {ws : List Str} (h : Ws ws) : lenSetD (.lst (wds ws)) = pure (.int ws.length) ∧ lenSetD (.tup (wds ws)) = pure (.int ws.length) := by
  have l8 := nodup_len h
  have e1 : keysD (wds ws) = some (ws.map Sum.inr) := keysD_strs ws
  have e2 : once (ws.map Sum.inr) = ws.map Sum.inr := once_nodup _ _ rfl (List.pairwise_map.mpr (h.nd.imp fun hne e => hne (Sum.inr.inj e)))
  constructor
  · unfold lenSetD
    dsimp only
    rw [e1]
    show (if (ws.map (Sum.inr : Str → Key)).length ≤ 4000 then (pure (.int (once (ws.map Sum.inr)).length) : M D) else stuck) = _
    rw [if_pos (by rw [List.length_map]; omega), e2, List.length_map]
  · unfold lenSetD
    dsimp only
    rw [e1]
    show (if (ws.map (Sum.inr : Str → Key)).length ≤ 4000 then (pure (.int (once (ws.map Sum.inr)).length) : M D) else stuck) = _
    rw [if_pos (by rw [List.length_map]; omega), e2, List.length_map]
theorem is_word_eq {w : Str} (h : w ∈ every) : f_is_word (.str w) = pure (.bl true) := by
  unfold f_is_word
  simp [kind_in h]
theorem lc_words {ws : List Str} (h : Ws ws) : lc (fun word => pure true) (fun word => f_is_word word) (wds ws) = pure ((wds ws).map fun _ => D.bl true) := by
  refine lc_map _ (fun d hd => ?_) (by rw [wds_len]; exact size_big _ (by have := nodup_len h; omega))
  obtain ⟨w, hw, rfl⟩ := List.mem_map.mp hd
  exact is_word_eq (h.mem w hw)
theorem all_words (ws : List Str) : allD [.lst ((wds ws).map fun _ => D.bl true)] = pure (.bl true) := by
  rw [allD_map (fun _ => true) (wds ws)]
  congr 2
  rw [List.all_map, List.all_eq_true]
  intro x _; rfl
@[reducible] def ruleD (ws : List Str) : D := .ins "Rule" ["rule_words", "rule_live"] [.tup (wds ws), .tup (wds (live ws))]
theorem live_eq {ws : List Str} (h : Ws ws) : f_live_of (.lst (wds ws)) = pure (.tup (wds (live ws))) ∧ f_live_of (.tup (wds ws)) = pure (.tup (wds (live ws))) := by
  have l := live_loop ws [] [] h.mem (by have := nodup_len h; simp; omega) (by have := nodup_len h; simp; omega)
  have l' : loopN f_live_of_b1 (wds ws) ([], []) = pure (wds (liveGo ws [] []).1, wds (liveGo ws [] []).2) := l
  constructor <;> (unfold f_live_of; simp [l']; rfl)
theorem rule_eq {ws : List Str} (h : Ws ws) : f_Rule_init (.lst (wds ws)) = pure (ruleD ws) ∧ f_Rule_init (.tup (wds ws)) = pure (ruleD ws) := by
  have l1 := lc_words h
  have l2 := all_words ws
  have l3 := lenSet_ws h
  have l4 := live_eq h
  have len := wds_len ws
  have sz : (wds ws).length ≤ 16777216 := by have := nodup_len h; omega
  constructor
  · unfold f_Rule_init f_are_words f_is_list
    simp [l1, l2, l3.1, l4.1, len, -List.map_const_fun]
  · unfold f_Rule_init f_are_words f_is_list
    simp [l1, l2, l3.2, l4.2, len, -List.map_const_fun]
/-! ### which word puts which row ahead -/
@[simp] theorem ne_narrowest_widest : (("narrowest" : Str) == "widest") = false := by decide +kernel
@[simp] theorem ne_narrowest_newest : (("narrowest" : Str) == "newest") = false := by decide +kernel
@[simp] theorem ne_narrowest_oldest : (("narrowest" : Str) == "oldest") = false := by decide +kernel
@[simp] theorem ne_narrowest_cheapest : (("narrowest" : Str) == "cheapest") = false := by decide +kernel
@[simp] theorem ne_narrowest_dearest : (("narrowest" : Str) == "dearest") = false := by decide +kernel
@[simp] theorem ne_narrowest_highest : (("narrowest" : Str) == "highest") = false := by decide +kernel
@[simp] theorem ne_narrowest_lowest : (("narrowest" : Str) == "lowest") = false := by decide +kernel
@[simp] theorem ne_widest_narrowest : (("widest" : Str) == "narrowest") = false := by decide +kernel
@[simp] theorem ne_widest_newest : (("widest" : Str) == "newest") = false := by decide +kernel
@[simp] theorem ne_widest_oldest : (("widest" : Str) == "oldest") = false := by decide +kernel
@[simp] theorem ne_widest_cheapest : (("widest" : Str) == "cheapest") = false := by decide +kernel
@[simp] theorem ne_widest_dearest : (("widest" : Str) == "dearest") = false := by decide +kernel
@[simp] theorem ne_widest_highest : (("widest" : Str) == "highest") = false := by decide +kernel
@[simp] theorem ne_widest_lowest : (("widest" : Str) == "lowest") = false := by decide +kernel
@[simp] theorem ne_newest_narrowest : (("newest" : Str) == "narrowest") = false := by decide +kernel
@[simp] theorem ne_newest_widest : (("newest" : Str) == "widest") = false := by decide +kernel
@[simp] theorem ne_newest_oldest : (("newest" : Str) == "oldest") = false := by decide +kernel
@[simp] theorem ne_newest_cheapest : (("newest" : Str) == "cheapest") = false := by decide +kernel
@[simp] theorem ne_newest_dearest : (("newest" : Str) == "dearest") = false := by decide +kernel
@[simp] theorem ne_newest_highest : (("newest" : Str) == "highest") = false := by decide +kernel
@[simp] theorem ne_newest_lowest : (("newest" : Str) == "lowest") = false := by decide +kernel
@[simp] theorem ne_oldest_narrowest : (("oldest" : Str) == "narrowest") = false := by decide +kernel
@[simp] theorem ne_oldest_widest : (("oldest" : Str) == "widest") = false := by decide +kernel
@[simp] theorem ne_oldest_newest : (("oldest" : Str) == "newest") = false := by decide +kernel
@[simp] theorem ne_oldest_cheapest : (("oldest" : Str) == "cheapest") = false := by decide +kernel
@[simp] theorem ne_oldest_dearest : (("oldest" : Str) == "dearest") = false := by decide +kernel
@[simp] theorem ne_oldest_highest : (("oldest" : Str) == "highest") = false := by decide +kernel
@[simp] theorem ne_oldest_lowest : (("oldest" : Str) == "lowest") = false := by decide +kernel
@[simp] theorem ne_cheapest_narrowest : (("cheapest" : Str) == "narrowest") = false := by decide +kernel
@[simp] theorem ne_cheapest_widest : (("cheapest" : Str) == "widest") = false := by decide +kernel
@[simp] theorem ne_cheapest_newest : (("cheapest" : Str) == "newest") = false := by decide +kernel
@[simp] theorem ne_cheapest_oldest : (("cheapest" : Str) == "oldest") = false := by decide +kernel
@[simp] theorem ne_cheapest_dearest : (("cheapest" : Str) == "dearest") = false := by decide +kernel
@[simp] theorem ne_cheapest_highest : (("cheapest" : Str) == "highest") = false := by decide +kernel
@[simp] theorem ne_cheapest_lowest : (("cheapest" : Str) == "lowest") = false := by decide +kernel
@[simp] theorem ne_dearest_narrowest : (("dearest" : Str) == "narrowest") = false := by decide +kernel
@[simp] theorem ne_dearest_widest : (("dearest" : Str) == "widest") = false := by decide +kernel
@[simp] theorem ne_dearest_newest : (("dearest" : Str) == "newest") = false := by decide +kernel
@[simp] theorem ne_dearest_oldest : (("dearest" : Str) == "oldest") = false := by decide +kernel
@[simp] theorem ne_dearest_cheapest : (("dearest" : Str) == "cheapest") = false := by decide +kernel
@[simp] theorem ne_dearest_highest : (("dearest" : Str) == "highest") = false := by decide +kernel
@[simp] theorem ne_dearest_lowest : (("dearest" : Str) == "lowest") = false := by decide +kernel
@[simp] theorem ne_highest_narrowest : (("highest" : Str) == "narrowest") = false := by decide +kernel
@[simp] theorem ne_highest_widest : (("highest" : Str) == "widest") = false := by decide +kernel
@[simp] theorem ne_highest_newest : (("highest" : Str) == "newest") = false := by decide +kernel
@[simp] theorem ne_highest_oldest : (("highest" : Str) == "oldest") = false := by decide +kernel
@[simp] theorem ne_highest_cheapest : (("highest" : Str) == "cheapest") = false := by decide +kernel
@[simp] theorem ne_highest_dearest : (("highest" : Str) == "dearest") = false := by decide +kernel
@[simp] theorem ne_highest_lowest : (("highest" : Str) == "lowest") = false := by decide +kernel
@[simp] theorem ne_lowest_narrowest : (("lowest" : Str) == "narrowest") = false := by decide +kernel
@[simp] theorem ne_lowest_widest : (("lowest" : Str) == "widest") = false := by decide +kernel
@[simp] theorem ne_lowest_newest : (("lowest" : Str) == "newest") = false := by decide +kernel
@[simp] theorem ne_lowest_oldest : (("lowest" : Str) == "oldest") = false := by decide +kernel
@[simp] theorem ne_lowest_cheapest : (("lowest" : Str) == "cheapest") = false := by decide +kernel
@[simp] theorem ne_lowest_dearest : (("lowest" : Str) == "dearest") = false := by decide +kernel
@[simp] theorem ne_lowest_highest : (("lowest" : Str) == "highest") = false := by decide +kernel
def nmU (o p : Option Str) : Bool := match p with
  | none => true
  | some y => decide (o = some y)
def spU (s t : Span) : Bool := decide (t.a ≤ s.a) && (match t.b with
  | none => true
  | some tb => match s.b with
    | none => false
    | some sb => decide (sb ≤ tb))
def frU (f g : Frame) : Bool := (nmU f.who g.who && nmU f.what g.what) && (spU f.days g.days && spU f.amts g.amts)
def spE (s t : Span) : Bool := decide (s.a = t.a) && decide (s.b = t.b)
def frE (f g : Frame) : Bool := (decide (f.who = g.who) && decide (f.what = g.what)) && (spE f.days g.days && spE f.amts g.amts)
theorem dec_comm {α : Type} [DecidableEq α] (a b : α) : decide (a = b) = decide (b = a) := by
  by_cases h : a = b
  · subst h; rfl
  · have h' : ¬ b = a := fun e => h e.symm
    simp [h, h']
theorem frE_comm (f g : Frame) : frE f g = frE g f := by
  unfold frE spE
  rw [dec_comm f.who, dec_comm f.what, dec_comm f.days.a, dec_comm f.days.b, dec_comm f.amts.a, dec_comm f.amts.b]
theorem notin2 (o p : Option Str) : inD true (optS p) (.tup [.non, optS o]) = pure (.bl (!nmU o p)) := by
  cases p with
  | none => cases o <;> rfl
  | some y =>
    cases o with
    | none => rfl
    | some x =>
      show pure (D.bl (!(false || ((x == y) || false)))) = pure (.bl (!decide (some x = some y)))
      by_cases h : x = y
      · subst h; simp
      · have hb : (x == y) = false := by simpa using h
        simp [h, hb]
theorem ne_opt {o p : Option Str} (ho : Nm o) (hp : Nm p) : neD (optS o) (optS p) = pure (.bl (!decide (o = p))) := by
  cases o with
  | none =>
    cases p with
    | none => rfl
    | some y =>
      have := name_lay (hp y rfl)
      show eqDeep true .non (.str y) = _
      unfold eqDeep
      show (if SeqAt.shaped .none = true ∧ SeqAt.shaped (.str y) = true then pure (D.bl true) else stuck) = _
      rw [if_pos ⟨rfl, shaped_of (n := 1) this (by show 0 ≤ 1; omega) (by omega)⟩]
      rfl
  | some x =>
    cases p with
    | none =>
      have := name_lay (ho x rfl)
      show eqDeep true (.str x) .non = _
      unfold eqDeep
      show (if SeqAt.shaped (.str x) = true ∧ SeqAt.shaped .none = true then pure (D.bl true) else stuck) = _
      rw [if_pos ⟨shaped_of (n := 1) this (by show 0 ≤ 1; omega) (by omega), rfl⟩]
      rfl
    | some y =>
      show pure (D.bl (!(x == y))) = _
      by_cases h : x = y
      · subst h; simp
      · have hb : (x == y) = false := by simpa using h
        simp [h, hb]
theorem eqv_optI (b e : Option Int) : PyData.eqv (match b with | none => .none | some i => .int i) (match e with | none => .none | some i => .int i) = decide (b = e) := by
  cases b <;> cases e
  · rfl
  · rfl
  · rfl
  · rename_i i j
    show (i == j) = decide (some i = some j)
    by_cases h : i = j
    · subst h; simp
    · simp [h]
def pyI : Option Int → PyData
  | none => .none
  | some i => .int i
def pyS : Option Str → PyData
  | none => .none
  | some i => .str i
def Span.py (s : Span) : PyData := .tuple [.int s.a, pyI s.b]
def Frame.py (f : Frame) : PyData := .tuple [pyS f.who, pyS f.what, f.days.py, f.amts.py]
theorem span_py (s : Span) : toPy s.d = some s.py := by
  obtain ⟨a, b⟩ := s
  cases b <;> rfl
theorem frame_py (f : Frame) : toPy f.d = some f.py := by
  obtain ⟨w, x, ⟨a, b⟩, ⟨c, e⟩⟩ := f
  cases w <;> cases x <;> cases b <;> cases e <;> rfl
theorem span_eqv (s t : Span) : PyData.eqv s.py t.py = spE s t := by
  obtain ⟨a, b⟩ := s
  obtain ⟨c, e⟩ := t
  show PyData.eqvAll [.int a, pyI b] [.int c, pyI e] = _
  have h : PyData.eqv (pyI b) (pyI e) = decide (b = e) := by
    cases b <;> cases e
    · rfl
    · rfl
    · rfl
    · rename_i i j
      show (i == j) = decide (some i = some j)
      by_cases h : i = j
      · subst h; simp
      · simp [h]
  show (PyData.eqv (.int a) (.int c) && (PyData.eqv (pyI b) (pyI e) && true)) = _
  rw [h]
  show ((a == c) && (decide (b = e) && true)) = _
  unfold spE
  by_cases h1 : a = c
  · subst h1; simp
  · simp [h1]
theorem opt_eqv (o p : Option Str) : PyData.eqv (pyS o) (pyS p) = decide (o = p) := by
  cases o <;> cases p
  · rfl
  · rfl
  · rfl
  · rename_i i j
    show (i == j) = decide (some i = some j)
    by_cases h : i = j
    · subst h; simp
    · simp [h]
theorem frame_eqv (f g : Frame) : PyData.eqv f.py g.py = frE f g := by
  show (PyData.eqv (pyS f.who) (pyS g.who) && (PyData.eqv (pyS f.what) (pyS g.what) && (PyData.eqv f.days.py g.days.py && (PyData.eqv f.amts.py g.amts.py && true)))) = _
  rw [opt_eqv, opt_eqv, span_eqv, span_eqv]
  unfold frE
  cases decide (f.who = g.who) <;> simp
theorem span_shaped (s : Span) : SeqAt.shaped s.py = true := by
  obtain ⟨a, b⟩ := s
  cases b <;> rfl
theorem frame_shaped {f : Frame} {m : Int} (h : f.ok m) : SeqAt.shaped f.py = true := by
  obtain ⟨x, h1, h2, h3⟩ := flatN_py 2 f.d (frame_flat h 0)
  rw [frame_py] at h1
  cases h1
  exact shaped_of h2 h3 (by omega)
theorem eq_span (s t : Span) : eqD s.d t.d = pure (.bl (spE s t)) := by
  show eqDeep false s.d t.d = _
  unfold eqDeep
  rw [span_py, span_py]
  show (if SeqAt.shaped s.py = true ∧ SeqAt.shaped t.py = true then pure (D.bl (PyData.eqv s.py t.py)) else stuck) = _
  rw [if_pos ⟨span_shaped s, span_shaped t⟩, span_eqv]
theorem ne_frame {f g : Frame} {m : Int} (hf : f.ok m) (hg : g.ok m) : neD f.d g.d = pure (.bl (!frE f g)) := by
  show eqDeep true f.d g.d = _
  unfold eqDeep
  rw [frame_py, frame_py]
  show (if SeqAt.shaped f.py = true ∧ SeqAt.shaped g.py = true then pure (D.bl (!PyData.eqv f.py g.py)) else stuck) = _
  rw [if_pos ⟨frame_shaped hf, frame_shaped hg⟩, frame_eqv]
theorem isi_rule (ws : List Str) : isiD clsL [.o "Rule"] (ruleD ws) = pure (.bl true) := isi_o_ins (o := "Rule") (c := "Rule") (by decide +kernel) (by decide +kernel) _ _
theorem isC_rule (ws : List Str) : isC "Rule" (ruleD ws) = pure () := by funext S; rfl
theorem fld_words (ws : List Str) : fldD tab "rule_words" (ruleD ws) = pure (.tup (wds ws)) := by funext S; rfl
theorem fld_live (ws : List Str) : fldD tab "rule_live" (ruleD ws) = pure (.tup (wds (live ws))) := by funext S; rfl
theorem two_rp {d : D} {n w : Nat} (h : Rp n w d) (hn : n ≤ 60) (hw : w ≤ 100000) : ∃ s, reprD [.lst [d, d]] = pure (.str s) := (Rp.lst (RpL.cons h (RpL.cons h RpL.nil))).repr (by omega) (by omega)
theorem ne_str (s : Str) : neD (.str s) (.str s) = pure (.bl false) := by show pure (D.bl (!(s == s))) = _; simp

def isW : D → Bool
  | .str x => decide (x ∈ every)
  | _ => false
def strOf : D → Str
  | .str x => x
  | _ => ""
def wdB (ds : List D) : Bool := ds.all isW && decide (ds.map strOf).Nodup
theorem strOf_wds (ws : List Str) : (wds ws).map strOf = ws := by
  induction ws with
  | nil => rfl
  | cons w ws ih =>
    show w :: (wds ws).map strOf = _
    rw [ih]
theorem isW_wds {ws : List Str} : (wds ws).all isW = true ↔ ∀ w ∈ ws, w ∈ every := by
  unfold wds
  rw [List.all_map, List.all_eq_true]
  constructor
  · intro h w hw
    exact of_decide_eq_true (h w hw)
  · intro h w hw
    exact decide_eq_true (h w hw)
theorem wds_of : ∀ {ds : List D}, ds.all isW = true → ∃ ws, ds = wds ws ∧ ∀ w ∈ ws, w ∈ every
  | [], _ => ⟨[], rfl, fun w hw => by cases hw⟩
  | d :: ds, h => by
    rw [List.all_cons, Bool.and_eq_true] at h
    obtain ⟨ws, rfl, hw⟩ := wds_of h.2
    cases d with
    | str x =>
      refine ⟨x :: ws, rfl, fun w hz => ?_⟩
      rcases List.mem_cons.mp hz with rfl | hz
      · exact of_decide_eq_true h.1
      · exact hw w hz
    | _ => cases h.1
theorem wdB_wds {ws : List Str} (h : ∀ w ∈ ws, w ∈ every) : wdB (wds ws) = decide ws.Nodup := by
  unfold wdB
  rw [isW_wds.mpr h, strOf_wds]; rfl
theorem wdB_ws {ds : List D} (h : wdB ds = true) : ∃ ws, ds = wds ws ∧ Ws ws := by
  unfold wdB at h
  rw [Bool.and_eq_true] at h
  obtain ⟨ws, rfl, hw⟩ := wds_of h.1
  rw [strOf_wds] at h
  exact ⟨ws, rfl, of_decide_eq_true h.2, hw⟩
theorem ws_wdB {ws : List Str} (h : Ws ws) : wdB (wds ws) = true := by
  rw [wdB_wds h.mem]
  exact decide_eq_true h.nd
theorem once_len : ∀ (n : Nat) (ks : List Key), ks.length = n → (once ks).length = n → ks.Nodup
  | 0, ks, h, _ => by
    have : ks = [] := List.length_eq_zero_iff.mp h
    subst this; exact List.Pairwise.nil
  | n + 1, ks, h, g => by
    have hn : ks ≠ [] := fun e => by rw [e] at h; cases h
    have e := List.dropLast_concat_getLast hn
    have dl : ks.dropLast.length = n := by rw [List.length_dropLast]; omega
    rw [← e, once_snoc] at g
    have le := once_le n ks.dropLast dl
    have nd : ks.dropLast.Nodup := by
      refine once_len n _ dl ?_
      unfold RM.stepK at g
      split at g
      · omega
      · rw [List.length_append] at g
        simp at g
        omega
    have on := once_nodup n _ dl nd
    rw [on] at g
    rw [← e, List.nodup_append]
    refine ⟨nd, by simp, fun a ha b hb => ?_⟩
    rw [List.mem_singleton.mp hb]
    rintro rfl
    unfold RM.stepK at g
    rw [if_pos (List.any_eq_true.mpr ⟨_, ha, decide_eq_true rfl⟩)] at g
    omega
theorem lenSet_any {ws : List Str} (hl : ws.length ≤ 100) : ∃ n : Nat, (lenSetD (.lst (wds ws)) = pure (.int n) ∧ lenSetD (.tup (wds ws)) = pure (.int n)) ∧ (n = ws.length ↔ ws.Nodup) := by
  have e1 : keysD (wds ws) = some (ws.map Sum.inr) := keysD_strs ws
  have sz : (ws.map (Sum.inr : Str → Key)).length ≤ 4000 := by rw [List.length_map]; omega
  refine ⟨(once (ws.map Sum.inr)).length, ⟨?_, ?_⟩, ?_⟩
  · unfold lenSetD
    dsimp only
    rw [e1]
    exact if_pos sz
  · unfold lenSetD
    dsimp only
    rw [e1]
    exact if_pos sz
  · constructor
    · intro h
      have := once_len ws.length (ws.map Sum.inr) (by rw [List.length_map]) h
      exact (List.pairwise_map.mp this).imp fun hne e => hne (by rw [e])
    · intro h
      rw [once_nodup _ _ rfl (List.pairwise_map.mpr (h.imp fun hne e => hne (Sum.inr.inj e))), List.length_map]
theorem every_eq : f_law_every = pure (.lst (wds every)) := by unfold f_law_every; simp; rfl
theorem wds_py (ws : List Str) : toPyL (wds ws) = some (ws.map PyData.str) := by
  induction ws with
  | nil => rfl
  | cons w ws ih =>
    show (match toPy (.str w), toPyL (wds ws) with | some y, some ys => some (y :: ys) | _, _ => none) = _
    rw [ih]; rfl
theorem wds_eqv : ∀ (ws vs : List Str), PyData.eqvAll (ws.map PyData.str) (vs.map PyData.str) = decide (ws = vs)
  | [], [] => rfl
  | [], _ :: _ => rfl
  | _ :: _, [] => rfl
  | w :: ws, v :: vs => by
    show ((w == v) && PyData.eqvAll (ws.map PyData.str) (vs.map PyData.str)) = _
    rw [wds_eqv ws vs]
    by_cases h : w = v
    · subst h; simp
    · simp [h]
theorem wds_shaped {ws : List Str} (h : ∀ w ∈ ws, w ∈ every) : SeqAt.shaped (.tuple (ws.map PyData.str)) = true := by
  refine shaped_of (n := 1) ?_ ?_ (by omega)
  · show PyData.canLayAll0 _ = true
    induction ws with
    | nil => rfl
    | cons w ws ih =>
      show (PyData.canLay0 (.str w) && PyData.canLayAll0 (ws.map PyData.str)) = true
      rw [every_lay w (h w (by simp)), ih fun z hz => h z (List.mem_cons_of_mem _ hz)]; rfl
  · show PyData.depthAll _ + 1 ≤ 1
    have : PyData.depthAll (ws.map PyData.str) = 0 := by
      clear h
      induction ws with
      | nil => rfl
      | cons w ws ih =>
        show max 0 (PyData.depthAll (ws.map PyData.str)) = 0
        rw [ih]; rfl
    omega
theorem eq_wds {ws vs : List Str} (h : ∀ w ∈ ws, w ∈ every) (g : ∀ w ∈ vs, w ∈ every) : eqD (.tup (wds ws)) (.tup (wds vs)) = pure (.bl (decide (ws = vs))) := by
  show eqDeep false _ _ = _
  have e : ∀ zs, toPy (.tup (wds zs)) = some (.tuple (zs.map PyData.str)) := fun zs => by
    show (toPyL (wds zs)).map _ = _
    rw [wds_py]; rfl
  unfold eqDeep
  rw [e, e]
  show (if SeqAt.shaped _ = true ∧ SeqAt.shaped _ = true then pure (D.bl (PyData.eqvAll _ _)) else stuck) = _
  rw [if_pos ⟨wds_shaped h, wds_shaped g⟩, wds_eqv]
theorem Rule_eq_ws {ws vs : List Str} (h : Ws ws) (g : Ws vs) : f_Rule_eq (ruleD ws) (ruleD vs) = pure (.bl (decide (ws = vs))) := by
  unfold f_Rule_eq
  simp only [B_pure, isi_rule, fld_words, eq_wds h.mem g.mem]
  simp
theorem eqY_rule {ws vs : List Str} (h : Ws ws) (g : Ws vs) : eqY clsL eqL [("Rule", f_Rule_eq)] (ruleD ws) (ruleD vs) = pure (.bl (decide (ws = vs))) := by
  show (if kindOk clsL (.o "Rule") = true ∧ ("Rule" : Str) ∈ eqL then B (f_Rule_eq (ruleD ws) (ruleD vs)) fun r => B (asB r) fun b => pure (D.bl b) else stuck) = _
  rw [if_pos ⟨by decide +kernel, by decide +kernel⟩, Rule_eq_ws h g]
  rfl
theorem ws_rp {ws : List Str} (h : ∀ w ∈ ws, w ∈ every) (hl : ws.length ≤ 8) : Rp 1 200 (.tup (wds ws)) := by
  have sz : ∀ w ∈ every, w.cps.size ≤ 10 := by decide +kernel
  refine (Rp.tup (RpL.all (n := 0) (w := 10) fun d hd => ?_)).le (by omega) (by rw [wds_len]; omega)
  obtain ⟨w, hw, rfl⟩ := List.mem_map.mp hd
  exact Rp.str (every_lay w (h w hw)) (sz w (h w hw))
theorem liveGo_pre : ∀ (ws f u : List Str), ∃ g, g.Sublist ws ∧ (liveGo ws f u).1 = f ++ g
  | [], f, u => ⟨[], List.Sublist.refl _, by simp [liveGo]⟩
  | w :: ws, f, u => by
    unfold liveGo
    split
    · obtain ⟨g, h1, h2⟩ := liveGo_pre ws (f ++ [w]) (u ++ [kindW w])
      exact ⟨w :: g, h1.cons₂ w, by rw [h2]; simp⟩
    · obtain ⟨g, h1, h2⟩ := liveGo_pre ws f u
      exact ⟨g, h1.cons w, h2⟩
theorem live_sub (ws : List Str) : (live ws).Sublist ws := by
  obtain ⟨g, h1, h2⟩ := liveGo_pre ws [] []
  unfold live
  rw [h2]; simpa using h1
theorem mixed_ws : HT 8 (f_law_mixed (.mref Pre.ix) (.lst (wds every))) fun d => ∃ ws, d = .lst (wds ws) ∧ Ws ws := by
  refine HT.imp (HT.le (mixed_ok (by decide) every_flat (by omega)) (by decide : (wds every).length ≤ 8)) ?_
  rintro _ ⟨ys, rfl, hp⟩
  obtain ⟨vs, rfl, pv⟩ := perm_strs (ws := every) hp
  exact ⟨vs, rfl, pv.nodup_iff.mpr every_nd, fun w hw => pv.mem_iff.mp hw⟩
theorem rule_noLst (ws : List Str) : noLst (ruleD ws) = true := by
  have : ∀ vs : List Str, noLst (.tup (wds vs)) = true := fun vs => by
    show noLstL (wds vs) = true
    induction vs with
    | nil => rfl
    | cons v vs ih => exact ih
  show (noLst _ && (noLst _ && true)) = true
  rw [this, this]; rfl
theorem words_eq (ws : List Str) : f_Rule_words (ruleD ws) = pure (.tup (wds ws)) := by
  unfold f_Rule_words
  rw [B_pure, fld_words]

end LW

namespace LW
open PySem PySem.Spec PyProof.Rows L2 RM TL
/-! ### words of a text -/
theorem kinds_no : ∀ {x : Str}, x ∉ every → tt_KINDS.lookup x = none := fun {x} h => by
  have e : tt_KINDS.map (·.1) = every := by kernel_rfl
  have key : ∀ (l : List (Str × Str)), x ∉ l.map (·.1) → l.lookup x = none := fun l => by
    induction l with
    | nil => intro _; rfl
    | cons p l ih =>
      intro hn
      rw [List.map_cons, List.mem_cons, not_or] at hn
      obtain ⟨k, v⟩ := p
      rw [List.lookup_cons]
      have : (x == k) = false := by simpa using hn.1
      rw [this]
      exact ih hn.2
  exact key _ (by rw [e]; exact h)
theorem is_word_str (x : Str) : f_is_word (.str x) = pure (.bl (decide (x ∈ every))) := by
  by_cases h : x ∈ every
  · rw [is_word_eq h, decide_eq_true h]
  · have : inTab false tt_KINDS (.str x) = pure (.bl false) := by
      show pure (D.bl (tt_KINDS.lookup x).isSome) = _
      rw [kinds_no h]; rfl
    unfold f_is_word
    simp [this, h]
def goodB (ws : List Str) : Bool := (ws.all fun w => decide (w ∈ every)) && decide ws.Nodup
theorem good_ws {ws : List Str} : goodB ws = true ↔ Ws ws := by
  unfold goodB
  rw [Bool.and_eq_true, List.all_eq_true, decide_eq_true_eq]
  constructor
  · rintro ⟨a, b⟩
    exact ⟨b, fun w hw => of_decide_eq_true (a w hw)⟩
  · rintro ⟨a, b⟩
    exact ⟨fun w hw => decide_eq_true (b w hw), a⟩
theorem are_words_str {ws : List Str} (hl : ws.length ≤ 100) : f_are_words (.lst (wds ws)) = pure (.bl (goodB ws)) := by
  have l1 : lc (fun word => pure true) (fun word => f_is_word word) (wds ws) = pure ((wds ws).map fun d => D.bl (isW d)) := by
    refine lc_map _ (fun d hd => ?_) (by rw [wds_len]; unfold sizeLine; omega)
    obtain ⟨w, _, rfl⟩ := List.mem_map.mp hd
    exact is_word_str w
  have l2 := allD_map isW (wds ws)
  have l3 : ((wds ws).map isW).all id = ws.all fun w => decide (w ∈ every) := by
    rw [List.all_map]
    unfold wds
    rw [List.all_map]; rfl
  rw [l3] at l2
  obtain ⟨n, ⟨a, b⟩, c⟩ := lenSet_any (ws := ws) hl
  have e : ((n : Int) == (ws.length : Int)) = decide ws.Nodup := by
    by_cases h : n = ws.length
    · rw [decide_eq_true (c.mp h)]; simp [h]
    · rw [decide_eq_false (fun z => h (c.mpr z))]; simp [show ¬ (n : Int) = (ws.length : Int) by omega]
  have g : goodB ws = ((ws.all fun w => decide (w ∈ every)) && decide ws.Nodup) := rfl
  generalize (ws.all fun w => decide (w ∈ every)) = A at *
  unfold f_are_words f_is_list
  simp [l1, l2, a, wds_len, show ws.length ≤ 16777216 by omega]
  rw [g, e]
  cases A <;> simp
/-- the words of a text -/
def cutW (x : Str) : List Str := if x = "" then [] else Txt.split x " "
theorem sp_len : ((" " : Str).length == 0) = false := by decide +kernel
theorem cutW_len {n : Nat} {x : Str} (h : Tx n x) : (cutW x).length ≤ n + 2 := by
  unfold cutW
  split
  · simp
  · have := PyProof.Rows.split_le x " "
    have := h.len
    omega
theorem cutW_tx {n : Nat} {x : Str} (h : Tx n x) : ∀ z ∈ cutW x, Tx n z := by
  unfold cutW
  split
  · simp
  · exact h.pieces
theorem cutW_nil : cutW "" = [] := if_pos rfl
theorem cutW_ne {x : Str} (h : ¬ x = "") : cutW x = Txt.split x " " := if_neg h
theorem split_at {n : Nat} {x : Str} (h : Tx n x) (hn : n ≤ 1000) : splitF (.str x) (.str " ") = pure (wds (Txt.split x " ")) := splitF_str (s := x) (t := " ") ⟨sp_len, by have := h.len; unfold sizeLine; omega⟩
theorem read_rule_eq {n : Nat} {x : Str} (h : Tx n x) (hn : n ≤ 98) : f_read_rule (.str x) = if goodB (cutW x) then pure (ruleD (cutW x)) else raise ⟨"BadText", ["line"], [.int 0]⟩ := by
  have e1 : f_need_text (.str x) = pure .non := by
    unfold f_need_text
    simp
  have e2 := split_at h (by omega)
  have e3 := are_words_str (ws := cutW x) (by have := cutW_len h; omega)
  have fin : (ifM (RM.tNot (tst (f_are_words (.lst (wds (cutW x)))))) (raise ⟨"BadText", ["line"], [.int 0]⟩) (f_Rule_init (.lst (wds (cutW x))))) = if goodB (cutW x) then pure (ruleD (cutW x)) else raise ⟨"BadText", ["line"], [.int 0]⟩ := by
    rw [e3]
    cases q : goodB (cutW x) with
    | true =>
      rw [(rule_eq (good_ws.mp q)).1]
      simp
    | false => simp
  unfold f_read_rule
  by_cases q : x = ""
  · subst q
    rw [cutW_nil] at fin ⊢
    have fin : (ifM (RM.tNot (tst (f_are_words (.lst [])))) (raise ⟨"BadText", ["line"], [.int 0]⟩) (f_Rule_init (.lst []))) = _ := fin
    simp [e1]
    exact fin
  · rw [cutW_ne q] at fin ⊢
    simp [e1, q, e2]
    exact fin
theorem read_rule_bad {d : D} (h : isiD clsL [.b "str"] d = pure (.bl false)) : f_read_rule d = raise ⟨"BadText", ["line"], [.int 0]⟩ := by
  unfold f_read_rule f_need_text
  simp [h]
theorem law_words_eq {n : Nat} {x : Str} (h : Tx n x) (hn : n ≤ 98) : f_law_read_wording (.str x) = pure (if goodB (cutW x) then .lst (wds (cutW x)) else .non) := by
  have ll : (cutW x).length ≤ 100 := by have := cutW_len h; omega
  have l1 : lc (fun one => tst (inD true one (.lst (wds every)))) (fun one => pure one) (wds (cutW x)) = pure (wds ((cutW x).filter fun w => !decide (w ∈ every))) := by
    rw [lc_pureF (fun d => match d with | .str w => !decide (w ∈ every) | _ => false) (fun d => d) (fun d hd => ?_) (by rw [wds_len]; unfold sizeLine; omega)]
    · unfold wds
      rw [List.map_id', List.filter_map]
      rfl
    · obtain ⟨w, _, rfl⟩ := List.mem_map.mp hd
      refine ⟨?_, fun _ => rfl⟩
      simp [in_lst]
  have fl : (wds ((cutW x).filter fun w => !decide (w ∈ every))).all (flatN 0) = true := by
    unfold wds
    rw [List.all_map, List.all_eq_true]
    intro w hw
    exact (cutW_tx h w (List.mem_filter.mp hw).1).lay
  have l2 := (nil_eq (n := 0) fl (by omega)).2
  have l3 : (wds ((cutW x).filter fun w => !decide (w ∈ every))).isEmpty = (cutW x).all fun w => decide (w ∈ every) := by
    unfold wds
    rw [List.isEmpty_map]
    cases q : (cutW x).all fun w => decide (w ∈ every) with
    | true =>
      rw [List.isEmpty_iff, List.filter_eq_nil_iff]
      intro w hw
      have := List.all_eq_true.mp q w hw
      simpa using this
    | false =>
      rw [Bool.eq_false_iff]
      intro z
      rw [List.isEmpty_iff, List.filter_eq_nil_iff] at z
      rw [Bool.eq_false_iff] at q
      apply q
      rw [List.all_eq_true]
      intro w hw
      have := z w hw
      simpa using this
  obtain ⟨m, ⟨a, b⟩, c⟩ := lenSet_any (ws := cutW x) ll
  have e : ((m : Int) == ((cutW x).length : Int)) = decide (cutW x).Nodup := by
    by_cases h : m = (cutW x).length
    · rw [decide_eq_true (c.mp h)]; simp [h]
    · rw [decide_eq_false (fun z => h (c.mpr z))]; simp [show ¬ (m : Int) = ((cutW x).length : Int) by omega]
  have ne : neD (.int m) (.int ((cutW x).length : Nat)) = pure (.bl (!decide (cutW x).Nodup)) := by
    show pure (D.bl (!((m : Int) == ((cutW x).length : Int)))) = _
    rw [e]
  have e5 := split_at h (by omega)
  have gd : goodB (cutW x) = (((cutW x).all fun w => decide (w ∈ every)) && decide (cutW x).Nodup) := rfl
  rw [l3] at l2
  clear l3 fl e b c
  generalize (wds ((cutW x).filter fun w => !decide (w ∈ every))) = L at *
  generalize ((cutW x).all fun w => decide (w ∈ every)) = A at *
  generalize decide (cutW x).Nodup = N at *
  unfold f_law_read_wording
  by_cases q : x = ""
  · subst q
    have z : lenSetD (.lst []) = pure (.int 0) := rfl
    rw [cutW_nil]
    simp [z]
    rfl
  · have sz : (Txt.split x " ").length ≤ 16777216 := by rw [← cutW_ne q]; omega
    rw [cutW_ne q] at l1 a ne gd ⊢
    simp [every_eq, q, e5, l1, l2, a, sz, wds_len, ne, gd]
    cases A <;> cases N <;> simp
end LW

namespace LW
open PySem PySem.Spec PyProof.Rows L2 RM TL
/-! ### a text spoilt -/
theorem add_len (x y : Str) : (x ++ y).length = x.length + y.length := by
  rw [← tl_len, tl_append, List.length_append]; rfl
abbrev allS : Str := (("\n !#$&'()*+,-./0123456789:;<=>?@ABCDEFGHIJKLMNOPQRSTUVWXYZ[]^_`" : Str) ++ ("abcdefghijklmnopqrstuvwxyz" : Str)) ++ ("{|}~" : Str)
theorem signs_eq : f_law_signs = pure (.str allS) := by kernel_rfl
theorem tx_sign {c : Nat} (h : c < 128) : Tx 1 ⟨#[c]⟩ := ⟨Nat.le_refl 1, fun z hz => by
  have hz : z ∈ [c] := hz
  rw [List.mem_singleton.mp hz]; exact h⟩
theorem pick_sign : HT 1 (f_law_pick (.mref Pre.ix) (.str allS)) fun d => ∃ y, d = .str y ∧ Tx 1 y := by
  refine HT.imp (pick_str (by decide +kernel) (by decide +kernel)) ?_
  rintro _ ⟨c, hc, rfl⟩
  have : ∀ c ∈ allS.cps.toList, c < 128 := by decide +kernel
  exact ⟨_, rfl, tx_sign (this c hc)⟩
theorem tx_lit {y : Str} {n : Nat} (h : (decide (y.length ≤ n) && (tl y).all fun c => decide (c < 128)) = true) : Tx n y := by
  rw [Bool.and_eq_true, List.all_eq_true] at h
  exact ⟨of_decide_eq_true h.1, fun c hc => of_decide_eq_true (h.2 c hc)⟩
theorem map_set_str (zs : List Str) (i : Nat) (w : Str) : (wds zs).set i (.str w) = wds (zs.set i w) := by
  unfold wds
  rw [List.map_set]
theorem idx_wds {zs : List Str} {i : Int} (h0 : 0 ≤ i) (h1 : i < zs.length) : idxD (.lst (wds zs)) (.int i) = pure (.str (zs[i.toNat]'(by omega))) := by
  obtain ⟨d, _, hg, e, _⟩ := idx_at (xs := wds zs) h0 (by rw [wds_len]; exact h1)
  rw [e]
  unfold wds at hg
  rw [List.getElem?_map, List.getElem?_eq_getElem (by omega)] at hg
  cases hg
  rfl
theorem add_str {x y : Str} {n m : Nat} (hx : Tx n x) (hy : Tx m y) (h : n + m ≤ 10000) : addD (.str x) (.str y) = pure (.str (x ++ y)) := by
  have := hx.len
  have := hy.len
  rw [addD_str_eq, if_pos (by rw [sizeLine_v]; omega)]
theorem spoilt_ok {n : Nat} {x : Str} (h : Tx n x) (hn : n ≤ 1000) : HT 5 (f_law_spoilt (.mref Pre.ix) (.str x)) fun d => ∃ y, d = D.str y ∧ Tx (n + 2) y := by
  have hl := h.len
  have e5 := split_at h (by omega)
  have p1 := h.pieces (y := " ")
  have p2 := PyProof.Rows.split_pos x " "
  have p3 := PyProof.Rows.split_weight x " " (by decide +kernel)
  unfold f_law_spoilt
  simp
  refine HT.draw (k := 4) (by decide) fun w w0 w1 => ?_
  simp [show x.length ≤ 16777216 by omega]
  refine HT.draw (k := 3) (by omega) fun s s0 s1 => ?_
  simp [signs_eq]
  refine HT.C (k := 2) pick_sign ?_
  rintro _ ⟨c, rfl, hc⟩
  have sl := slice_str h (by omega)
  have ha := h.cut none (some s)
  have hb := h.cut (some s) none
  have hd := h.cut (some (s + 1)) none
  have ho := h.cut (some s) (some (s + 1))
  have l1 := tx_halves h s0
  have l2 := tx_tail h s0
  have l3 := tx_one h s0
  have chars : ∀ {y z : Str}, (∀ c ∈ tl y, c < 128) → (∀ c ∈ tl z, c < 128) → ∀ c ∈ tl (y ++ z), c < 128 := fun {y z} p q c hc => by
    rw [tl_append] at hc
    exact (List.mem_append.mp hc).elim (p c) (q c)
  have fine : ∀ {P : D → Prop} {y : Str}, y.length ≤ n + 2 → (∀ c ∈ tl y, c < 128) → HT 2 (pure (D.str y)) fun d => ∃ y, d = D.str y ∧ Tx (n + 2) y := fun {P y} a b => HT.p0 (P := fun d => ∃ y, d = D.str y ∧ Tx (n + 2) y) ⟨_, rfl, a, b⟩ _
  simp [e5]
  have hcl := hc.len
  generalize Txt.split x " " = zs at *
  generalize ea : cutS x none (some s) = a at *
  generalize eb : cutS x (some s) none = b at *
  generalize ed : cutS x (some (s + 1)) none = d at *
  generalize eo : cutS x (some s) (some (s + 1)) = o at *
  obtain rfl | rfl | rfl | rfl | rfl | rfl | rfl | rfl : w = 0 ∨ w = 1 ∨ w = 2 ∨ w = 3 ∨ w = 4 ∨ w = 5 ∨ w = 6 ∨ w = 7 := by omega
  · simp [sl, ea, eb, add_len, show a.length + c.length ≤ 16777216 by omega, show a.length + c.length + b.length ≤ 16777216 by omega]
    exact fine (P := fun _ => True) (by rw [add_len, add_len]; omega) (chars (chars ha.lo hc.lo) hb.lo)
  · simp [sl, ea, ed, add_len, show a.length + d.length ≤ 16777216 by omega]
    exact fine (P := fun _ => True) (by rw [add_len]; omega) (chars ha.lo hd.lo)
  · simp [sl, ea, ed, add_len, show a.length + c.length ≤ 16777216 by omega, show a.length + c.length + d.length ≤ 16777216 by omega]
    exact fine (P := fun _ => True) (by rw [add_len, add_len]; omega) (chars (chars ha.lo hc.lo) hd.lo)
  · simp [sl, ea, eb, eo, add_len, show a.length + o.length ≤ 16777216 by omega, show a.length + o.length + b.length ≤ 16777216 by omega]
    exact fine (P := fun _ => True) (by rw [add_len, add_len]; omega) (chars (chars ha.lo ho.lo) hb.lo)
  · simp [sl, ea, eb]
    refine HT.C (k := 1) (pick_lst (by simp) (by simp)) ?_
    intro q hq
    obtain ⟨q, rfl, tq⟩ : ∃ y, q = .str y ∧ Tx 1 y := by
      simp only [List.mem_cons, List.not_mem_nil, or_false] at hq
      rcases hq with rfl | rfl | rfl | rfl | rfl | rfl <;> exact ⟨_, rfl, tx_lit (by decide +kernel)⟩
    have := tq.len
    simp [sl, eb, add_len, show a.length + q.length ≤ 16777216 by omega, show a.length + q.length + b.length ≤ 16777216 by omega]
    exact HT.p0 (P := fun d => ∃ y, d = D.str y ∧ Tx (n + 2) y) ⟨_, rfl, by rw [add_len, add_len]; omega, chars (chars ha.lo tq.lo) hb.lo⟩ _
  · simp
    refine HT.C (k := 1) (pick_lst (by simp) (by simp)) ?_
    intro q hq
    obtain ⟨q, rfl, tq⟩ : ∃ y, q = .str y ∧ Tx 2 y := by
      simp only [List.mem_cons, List.not_mem_nil, or_false] at hq
      rcases hq with rfl | rfl | rfl | rfl | rfl | rfl <;> exact ⟨_, rfl, tx_lit (by decide +kernel)⟩
    have := tq.len
    simp [show x.length + q.length ≤ 16777216 by omega]
    exact HT.p0 ⟨_, rfl, by rw [add_len]; omega, chars h.lo tq.lo⟩ _
  · have sz : (wds zs).length = zs.length := wds_len zs
    have zl : zs.length ≤ n + 2 := by omega
    simp [sz]
    refine HT.draw (k := 1) (by omega) fun i i0 i1 => ?_
    simp [sz]
    refine HT.draw (k := 0) (by omega) fun j j0 j1 => ?_
    have hi : i.toNat < zs.length := by omega
    have hj : j.toNat < zs.length := by omega
    have q1 := idx_wds i0 i1
    have q2 := idx_wds j0 j1
    have q3 : putX (wds zs) (.str zs[j.toNat]) (.int i) = pure (wds (zs.set i.toNat zs[j.toNat])) := by rw [putX_at i0 (by rw [wds_len]; exact i1), map_set_str]
    have q4 : putX (wds (zs.set i.toNat zs[j.toNat])) (.str zs[i.toNat]) (.int j) = pure (wds ((zs.set i.toNat zs[j.toNat]).set j.toNat zs[i.toNat])) := by rw [putX_at j0 (by rw [wds_len, List.length_set]; exact j1), map_set_str]
    have pm := swap_perm hi hj
    simp [q1, q2, q3, q4]
    generalize (zs.set i.toNat zs[j.toNat]).set j.toNat zs[i.toNat] = us at *
    have su : (us.map (·.length)).sum = (zs.map (·.length)).sum := sum_perm (pm.map _)
    have lu : us.length = zs.length := pm.length_eq
    have jo := (joinD_lst (y := " ") (zs := us) (by rw [su, lu, show (" " : Str).length = 1 from rfl]; omega)).1
    unfold wds
    rw [jo]
    have tj : Tx (n + 2) (Txt.join " " us) := Tx.join (tx_lit (by decide +kernel)) (fun z hz => (p1 z (pm.mem_iff.mp hz)).lo) (by rw [su, lu]; omega)
    exact HT.p0 ⟨_, rfl, tj⟩ _
  · simp
    exact fine (P := fun _ => True) (by omega) h.lo
/-! ### what is heard -/
theorem heard_bad : f_law_text_heard (raise ⟨"BadText", ["line"], [.int 0]⟩) = pure (.tup [.str "BadText", .int 0]) := by
  unfold f_law_text_heard
  simp
  rw [tryM_exc (by decide)]
  simp
  rw [fldE_xcp (d := .int 0) (by decide) rfl]
  simp
theorem heard_ok (d : D) : f_law_text_heard (pure d) = pure d := by
  unfold f_law_text_heard
  simp
def dueW (x : Str) : D := if goodB (cutW x) then .tup (wds (cutW x)) else .tup [.str "BadText", .int 0]
theorem hear_words {n : Nat} {x : Str} (h : Tx n x) (hn : n ≤ 98) : f_law_text_heard (B (f_read_rule (.str x)) fun t => B (isC "Rule" t) fun _ => noE (l1 f_Rule_words [t])) = pure (dueW x) := by
  rw [read_rule_eq h hn]
  unfold dueW
  cases goodB (cutW x) with
  | true => simp [isC_rule, words_eq, heard_ok]
  | false =>
    simp
    exact heard_bad
theorem due_rp (x : Str) : Rp 1 200 (dueW x) := by
  unfold dueW
  cases q : goodB (cutW x) with
  | true =>
    have w := good_ws.mp q
    exact ws_rp w.mem (nodup_len w)
  | false => exact (Rp.tup (RpL.cons (Rp.str (w := 10) (by decide +kernel) (by decide +kernel)) (RpL.cons (Rp.int (by decide)) RpL.nil))).le (by omega) (by omega)
theorem two_due (x : Str) : ∃ s, reprD [.lst [dueW x, dueW x]] = pure (.str s) := (Rp.lst (RpL.cons (due_rp x) (RpL.cons (due_rp x) RpL.nil))).repr (by omega) (by omega)
theorem text_b1 {n : Nat} {x : Str} (h : Tx n x) (hn : n ≤ 98) : HT 0 (f_law_b1 (.str x) ()) fun r => r = .inr () := by
  have e1 := law_words_eq h hn
  have e2 := hear_words h hn
  obtain ⟨s, es⟩ := two_due x
  have e3 : (ifM (tst (isNonD (if goodB (cutW x) then .lst (wds (cutW x)) else .non) .non)) (argsB [pure (.str "BadText"), pure (.int 0)] tupD) (argsB [pure (if goodB (cutW x) then D.lst (wds (cutW x)) else D.non)] tupleD)) = pure (dueW x) := by
    unfold dueW
    cases goodB (cutW x) <;> simp
  unfold f_law_b1
  simp only [callB, argsB_cons, argsB_nil, B_pure, List.append_nil, l1_at, List.cons_append, List.nil_append]
  rw [e1]
  simp only [B_pure]
  rw [e3]
  simp [e2]
  refine HT.C (k := 0) (n := 0) (HT.tab (HT.e0 (x := dueW x))) ?_
  rintro _ rfl
  simp [e2]
  refine HT.C (k := 0) (n := 0) (HT.tab (HT.e0 (x := dueW x))) ?_
  rintro _ rfl
  simp [es, ne_str]
  exact HT.e0
theorem bad_b2 {d : D} (h : isiD clsL [.b "str"] d = pure (.bl false)) : HT 0 (f_law_b2 d ()) fun r => r = .inr () := by
  have h2 : ∃ s, reprD [.tup [.str "BadText", .int 0]] = pure (.str s) := ⟨_, reprD_of rfl ⟨by decide +kernel, by decide +kernel, by decide +kernel⟩⟩
  obtain ⟨s, es⟩ := h2
  unfold f_law_b2
  simp [read_rule_bad h, heard_bad]
  refine HT.C (k := 0) (n := 0) (HT.tab (HT.e0 (x := D.tup [.str "BadText", .int 0]))) ?_
  rintro _ rfl
  simp [es, ne_str]
  exact HT.e0
end LW

namespace LW
open PySem PySem.Spec PyProof.Rows L2 RM TL
/-! ### the text of a rule -/
theorem every_tx : ∀ w ∈ every, Tx 9 w := fun w hw => by
  have : ∀ w ∈ every, (decide (w.length ≤ 9) && (tl w).all fun c => decide (c < 128)) = true := by decide +kernel
  exact tx_lit (this w hw)
theorem every_sp : ∀ w ∈ every, 32 ∉ tl w := by decide +kernel
theorem every_ne : ∀ w ∈ every, w ≠ "" := by decide +kernel
def ruleT (ws : List Str) : Str := Txt.join " " ws
theorem sum_le {ws : List Str} {n : Nat} (h : ∀ w ∈ ws, w.length ≤ n) : (ws.map (·.length)).sum ≤ ws.length * n := by
  induction ws with
  | nil => simp
  | cons w ws ih =>
    rw [List.map_cons, List.sum_cons, List.length_cons, Nat.add_mul, Nat.one_mul]
    have := h w (by simp)
    have := ih fun z hz => h z (List.mem_cons_of_mem _ hz)
    omega
theorem rule_tx {ws : List Str} (h : Ws ws) : Tx 80 (ruleT ws) := by
  have l8 := nodup_len h
  have := sum_le (ws := ws) (n := 9) fun w hw => (every_tx w (h.mem w hw)).len
  exact Tx.join (tx_lit (by decide +kernel)) (fun z hz => (every_tx z (h.mem z hz)).lo) (by omega)
theorem rule_join {ws : List Str} (h : Ws ws) : joinD (.str " ") (.lst (wds ws)) = pure (.str (ruleT ws)) ∧ joinD (.str " ") (.tup (wds ws)) = pure (.str (ruleT ws)) := by
  have l8 := nodup_len h
  have := sum_le (ws := ws) (n := 9) fun w hw => (every_tx w (h.mem w hw)).len
  exact joinD_lst (by rw [show (" " : Str).length = 1 from rfl]; omega)
theorem split_rule {ws : List Str} (h : Ws ws) (hn : ws ≠ []) : Txt.split (ruleT ws) " " = ws := split_join (y := " ") (s := 32) (S := []) rfl (by decide +kernel) hn fun p hp => every_sp p (h.mem p hp)
theorem cut_rule {ws : List Str} (h : Ws ws) : cutW (ruleT ws) = ws := by
  by_cases hn : ws = []
  · subst hn; rfl
  · have e := split_rule h hn
    have : ¬ ruleT ws = "" := fun z => by
      rw [z] at e
      have e2 : Txt.split ("" : Str) " " = [("" : Str)] := by kernel_rfl
      rw [e2] at e
      have : ("" : Str) ∈ ws := by rw [← e]; simp
      exact every_ne _ (h.mem _ this) rfl
    rw [cutW_ne this, e]
theorem rule_text_eq {ws : List Str} (h : Ws ws) : f_rule_text (ruleD ws) = pure (.str (ruleT ws)) := by
  have e1 : f_need_rule (ruleD ws) = pure .non := by
    unfold f_need_rule
    simp [isi_rule]
  have e2 := (rule_join h).2
  unfold f_rule_text
  simp [e1, isC_rule, words_eq, e2]
theorem read_own {ws : List Str} (h : Ws ws) : f_read_rule (.str (ruleT ws)) = pure (ruleD ws) := by
  rw [read_rule_eq (rule_tx h) (by omega), cut_rule h, if_pos (good_ws.mpr h)]
theorem round_ok {d : D} : HT 60 (f_law_b3 (.mref Pre.ix) d ()) fun r => r = .inr () := by
  unfold f_law_b3
  simp [every_eq]
  refine HT.le (HT.C (k := 20) mixed_ws ?_) (by omega)
  rintro _ ⟨vs, rfl, wv⟩
  simp
  refine HT.draw (k := 19) (by decide) fun k k0 k1 => ?_
  have w2 : Ws (vs.take k.toNat) := wv.sub (List.take_sublist _ _)
  have et : cutL (wds vs) none (some k) = wds (vs.take k.toNat) := by
    rw [cut_take _ k0]
    unfold wds
    rw [List.map_take]
  simp [et]
  generalize vs.take k.toNat = ws at *
  have j1 := (rule_join w2).1
  have j2 := (rule_join w2).2
  have r1 := (rule_eq w2).1
  have r2 := (rule_eq w2).2
  have rt := rule_text_eq w2
  have ro := read_own w2
  have tx := rule_tx w2
  have q := eqY_rule w2 w2
  have rp := Rp.str (w := 100) tx.lay (by have := tx.len; have e : (ruleT ws).cps.size = (ruleT ws).length := rfl; omega)
  obtain ⟨s, es⟩ := two_rp rp (by omega) (by omega)
  obtain ⟨z, ez⟩ := (ws_rp w2.mem (nodup_len w2)).repr (by omega) (by omega)
  generalize hs : ruleT ws = x at *
  have xl := tx.len
  simp [j1, r1, r2, rt, es, ne_str, ro, q, isC_rule, words_eq, ez]
  refine HT.C (k := 14) (spoilt_ok tx (by omega)) ?_
  rintro _ ⟨near, rfl, tn⟩
  have sp1 : Tx 1 (" " : Str) := tx_lit (by decide +kernel)
  have nl1 : Tx 1 ("\n" : Str) := tx_lit (by decide +kernel)
  simp [show x.length + (" " : Str).length ≤ 16777216 by have := sp1.len; omega, every_eq]
  refine HT.C (k := 13) (pick_lst (by rw [wds_len]; decide) (by rw [wds_len]; decide)) ?_
  intro w hw
  obtain ⟨w, hv, rfl⟩ := List.mem_map.mp hw
  have tw := every_tx w hv
  have txs := tx.add sp1
  have txw := txs.add tw
  have txn := tx.add nl1
  simp [show (x ++ (" " : Str)).length + w.length ≤ 16777216 by have := txs.len; have := tw.len; omega]
  refine HT.C (k := 8) (spoilt_ok tn (by omega)) ?_
  rintro _ ⟨far, rfl, tf⟩
  simp [show x.length + ("\n" : Str).length ≤ 16777216 by have := nl1.len; omega]
  refine HT.C (k := 0) (n := 8) (HT.le (ht_loopU (n := 0) fun d hd => ?_) (by simp)) ?_
  · simp only [List.mem_cons, List.not_mem_nil, or_false] at hd
    rcases hd with rfl | rfl | rfl | rfl
    · exact text_b1 tn (by omega)
    · exact text_b1 txw (by omega)
    · exact text_b1 tf (by omega)
    · exact text_b1 txn (by omega)
  · rintro _ rfl
    simp
    refine HT.C (k := 0) (n := 0) (HT.le (ht_loopU (n := 0) fun d hd => ?_) (by simp)) ?_
    · simp only [List.mem_cons, List.not_mem_nil, or_false] at hd
      rcases hd with rfl | rfl | rfl | rfl | rfl | rfl | rfl
      · exact bad_b2 rfl
      · exact bad_b2 rfl
      · exact bad_b2 rfl
      · exact bad_b2 rfl
      · exact bad_b2 rfl
      · exact bad_b2 (isi_str_ins (by decide +kernel) _ _)
      · exact bad_b2 rfl
    · rintro _ rfl
      simp
      exact HT.e0
theorem law_ok (ns : List Int) (h : ns.length ≤ 63) : ∃ S', l1 f_law [.scr ns] (tabS tfL) = .ok (.bl true) S' := by
  rw [l1_at]
  unfold f_law
  simp only [callB, argsB_cons, argsB_nil, B_pure, List.append_nil, List.cons_append, List.nil_append]
  refine law_run h (n := 40000) (by omega) ?_
  simp
  obtain ⟨w, ew, w0, w1⟩ : ∃ w : Int, (if (40 : Int) < ns.length then 40 else (ns.length : Int)) = w ∧ 0 ≤ w ∧ w ≤ 40 := by
    refine ⟨_, rfl, ?_, ?_⟩ <;> split <;> omega
  rw [ew, rangeD_one (show 0 ≤ 8 + w by omega) (by omega)]
  simp
  refine HT.le (HT.C (k := 0) (ht_loopU (n := 60) fun d _ => round_ok) ?_) (by rw [rangeL_length]; omega)
  rintro _ rfl
  simp
  exact HT.e0
end LW

open PySem PySem.W PySem.Calls PyProof.Rows
theorem PySem.Challenge.cw_rowsmeet_k80_texts_of_rules_holds : PySem.Challenge.rw_rowsmeet_k80_texts_of_rules.Holds := by
  w_on; o_law
  refine HandSHeadRun.head_any (r := LW.R) (q := view LW.R.prog [28]) (H := LW.hk) (ob := LW.ob) (M := 12000) (loose := LW.loose) (d := HandSHeadRun.topDef LW.R.prog 28) (kwd := []) LW.ob_eq (by kernel_rfl) (fun s => by kernel_rfl) LW.run
    (by kernel_rfl) (by kernel_rfl) (by kernel_rfl) (by rfl) (by first | assumption | decide +kernel) (by decide +kernel) ⟨rfl, rfl, rfl, rfl, rfl, by decide +kernel⟩ ?hw ?hc
  case hw => w_witness2
  case hc =>
    refine RM.walk_GT (l := PySem.Challenge.rw_rowsmeet_k80_texts_of_rules) (n := 63) (k := 8) (x := "_law_script") (g := RM.l1 LW.f_law) (tf := LW.tfL) rfl (by decide) (by kernel_rfl) ⟨rfl, by decide, by decide⟩ ?_ (fun ns h _ => LW.law_ok ns h)
    intro w mg fa h Y G hmg0
    obtain ⟨K, KX, c⟩ := Y
    have nm : (HandSHeadRun.topDef LW.R.prog 28).name = ("law" : PySem.Str) := by kernel_rfl
    have hmg : mg ("law" : PySem.Str) = some (.ref fa) := by rw [← nm]; exact hmg0
    have T : LW.TextF (PySem.Challenge.rw_rowsmeet_k80_texts_of_rules).prog w K mg := LW.txt KX G c rfl (by kernel_rfl)
    have ef : fa = He.ga K "law" := by
      have e := hmg.symm.trans T.g_law
      cases e
      rfl
    subst ef
    have F0 : ∃ fd, LW.FP_law K fd := T.says.d.def_ LW.lawIx rfl
    obtain ⟨fd, F⟩ := F0
    have b := L2.FunD.bindsA (ps := ["_law_script"]) F fun _ _ _ _ _ _ us hl => match us, hl with | [_], _ => rfl
    refine ⟨K, fd, KX, c.sm, c.empty, c.out, fun t ht => PySem.W.codeHd_of_K KX (c.hd t ht), c.nd, fun s u => b s [u] rfl, fun base _ _ TB => ?_⟩
    obtain ⟨fd2, F2, O2⟩ := LW.ok_law (P := (PySem.Challenge.rw_rowsmeet_k80_texts_of_rules).prog) (w := w) (base := base) T TB
    have e2 : fd2 = fd := RM.funSame F F2
    rw [← e2]
    exact O2.fn
