import PyProof.Rows.All
import Wide.All
import OpenK.AllK
import Wide.FinOn
import HandS.ForMost
import HandS.Exc
import HandS.Defaults
import HandS.HeadHook1
import HandS.HeadHook2
import HandS.IsInst
import HandS.Wide
import HandS.TupAny
import HandS.WordsExc
import HandS.Style
import KE.KStateDown
import HandS.Ends
import HandS.EndBits
import HandS.HeadEnd
import HandS.Head0
import HandS.Head1
import HandS.Head2
import PySem.Challenge.RW_rowsmeet_k01_names_sales_and_stretches
set_option Elab.async false
set_option linter.all false
set_option autoImplicit false
set_option maxRecDepth 100000
set_option maxHeartbeats 4000000
/-! RM: data, a monad, what a value denotes. -/
namespace RM
open PySem PySem.Spec PyProof.Rows L2

/-- plain data -/
inductive D where
  | non | bl (b : Bool) | int (i : Int) | str (x : Str)
  | tup (xs : List D) | lst (xs : List D)
  | ins (c : Str) (ns : List Str) (fs : List D)
  | mref (i : Nat)
  | dic (ks : List Key) (vs : List D)
  | scr (ns : List Int)

structure Tape where
  large : List Int
  cells : List Int
  rest : Int
  turn : Int

/-- a mutable thing -/
inductive MO where
  | tape (t : Tape)
  | inst (c : Str) (ns : List Str) (fs : List D)
abbrev Sto := List MO
structure Exc where
  cls : Str
  ns : List Str
  fs : List D
inductive Res (a : Type) where
  | ok (x : a) (s : Sto)
  | exc (e : Exc) (s : Sto)
  | stuck
def M (a : Type) := Sto → Res a
@[reducible] def M.pure {a : Type} (x : a) : M a := fun s => .ok x s
def Res.andThen {a b : Type} (r : Res a) (f : a → M b) : Res b := match r with
  | .ok x s => f x s
  | .exc e s => .exc e s
  | .stuck => .stuck
def M.bind {a b : Type} (m : M a) (f : a → M b) : M b := fun s => (m s).andThen f
instance : Monad M where
  pure := M.pure
  bind := M.bind
def stuck {a : Type} : M a := fun _ => .stuck
def raise {a : Type} (e : Exc) : M a := fun s => .exc e s
theorem bind_def {a b : Type} (m : M a) (f : a → M b) (s : Sto) : (m >>= f) s = (m s).andThen f := rfl
theorem pure_def {a : Type} (x : a) (s : Sto) : (pure x : M a) s = .ok x s := rfl
@[simp] theorem andThen_ok {a b : Type} (x : a) (s : Sto) (f : a → M b) : (Res.ok x s).andThen f = f x s := rfl
@[simp] theorem andThen_exc {a b : Type} (e : Exc) (s : Sto) (f : a → M b) : (Res.exc e s : Res a).andThen f = .exc e s := rfl
@[simp] theorem andThen_stuck {a b : Type} (f : a → M b) : (Res.stuck : Res a).andThen f = .stuck := rfl
instance : LawfulMonad M := LawfulMonad.mk'
  (id_map := fun x => by funext s; show (x s).andThen _ = x s; cases x s <;> rfl)
  (pure_bind := fun _ _ => rfl)
  (bind_assoc := fun x f g => by funext s; show ((x s).andThen f).andThen g = (x s).andThen _; cases x s <;> rfl)

/-! ### what a value denotes -/
mutual
def Den (K : PySem.W.Frag) (p : List (List Addr)) (G : Hp) : D → V → Prop
  | .non, v => v = .non
  | .bl b, v => v = .bl b
  | .int i, v => v = .int i
  | .str x, v => v = .str x
  | .tup xs, v => ∃ a vs, v = .ref a ∧ SqT K G a vs ∧ DenL K p G xs vs
  | .lst xs, v => ∃ a vs, v = .ref a ∧ G a = some (.lst vs) ∧ DenL K p G xs vs
  | .ins c ns fs, v => ∃ a dx vs, v = .ref a ∧ G a = some (.ins (He.ga K c) dx (ns.zip vs)) ∧ vs.length = ns.length ∧ DenL K p G fs vs
  | .mref i, v => ∃ a r, p[i]? = some (a :: r) ∧ v = .ref a
  | .dic ks xs, v => ∃ a vs, v = .ref a ∧ G a = some (.dK (ks.zip vs)) ∧ vs.length = ks.length ∧ DenL K p G xs vs
  | .scr ns, v => ∃ a, v = .ref a ∧ SqL K G a (ns.map .int)
def DenL (K : PySem.W.Frag) (p : List (List Addr)) (G : Hp) : List D → List V → Prop
  | [], vs => vs = []
  | d :: ds, vs => ∃ v r, vs = v :: r ∧ Den K p G d v ∧ DenL K p G ds r
end
theorem SqT.mono {K : PySem.W.Frag} {H H' : Hp} {a : Addr} {xs : List V} (e : Same H H') (h : SqT K H a xs) : SqT K H' a xs := by
  rcases h with (h | ⟨o, h⟩) | h
  · exact .inl (.inl (e _ _ h))
  · exact .inl (.inr ⟨o, e _ _ h⟩)
  · exact .inr h
section
variable {K : PySem.W.Frag} {p q : List (List Addr)} {G G' : Hp}
theorem idx_ext (hp : ∃ r, q = p ++ r) {i : Nat} {x : List Addr} (h : p[i]? = some x) : q[i]? = some x := by
  obtain ⟨r, rfl⟩ := hp
  rw [List.getElem?_append_left (List.getElem?_eq_some_iff.mp h).1]
  exact h
mutual
theorem Den.mono (hp : ∃ r, q = p ++ r) (e : Same G G') : ∀ {d : D} {v : V}, Den K p G d v → Den K q G' d v
  | .non, _, h => h
  | .bl _, _, h => h
  | .int _, _, h => h
  | .str _, _, h => h
  | .tup _, _, ⟨a, vs, h1, h2, h3⟩ => ⟨a, vs, h1, SqT.mono e h2, DenL.mono hp e h3⟩
  | .lst _, _, ⟨a, vs, h1, h2, h3⟩ => ⟨a, vs, h1, e _ _ h2, DenL.mono hp e h3⟩
  | .ins _ _ _, _, ⟨a, dx, vs, h1, h2, h4, h3⟩ => ⟨a, dx, vs, h1, e _ _ h2, h4, DenL.mono hp e h3⟩
  | .mref _, _, ⟨a, r, h1, h2⟩ => ⟨a, r, idx_ext hp h1, h2⟩
  | .dic _ _, _, ⟨a, vs, h1, h2, h4, h3⟩ => ⟨a, vs, h1, e _ _ h2, h4, DenL.mono hp e h3⟩
  | .scr _, _, ⟨a, h1, h2⟩ => ⟨a, h1, e.seq h2⟩
theorem DenL.mono (hp : ∃ r, q = p ++ r) (e : Same G G') : ∀ {ds : List D} {vs : List V}, DenL K p G ds vs → DenL K q G' ds vs
  | [], _, h => h
  | _ :: _, _, ⟨v, r, h1, h2, h3⟩ => ⟨v, r, h1, Den.mono hp e h2, DenL.mono hp e h3⟩
end
theorem DenL.length : ∀ {ds : List D} {vs : List V}, DenL K p G ds vs → vs.length = ds.length
  | [], _, h => by
    have e : _ = [] := h
    rw [e]; rfl
  | _ :: _, _, ⟨v, r, h1, _, h3⟩ => by
    rw [h1, List.length_cons, List.length_cons, DenL.length h3]
theorem DenL.get : ∀ {ds : List D} {vs : List V} {i : Nat} {d : D}, DenL K p G ds vs → ds[i]? = some d → ∃ v, vs[i]? = some v ∧ Den K p G d v
  | [], _, _, _, _, e => by simp at e
  | x :: _, _, 0, d, ⟨v, r, h1, h2, _⟩, e => by
    simp at e; subst e
    exact ⟨v, by rw [h1]; rfl, h2⟩
  | _ :: ds, _, i + 1, d, ⟨v, r, h1, _, h3⟩, e => by
    obtain ⟨u, a, b⟩ := DenL.get (i := i) h3 (by simpa using e)
    exact ⟨u, by rw [h1]; simpa using a, b⟩
theorem DenL.append : ∀ {ds es : List D} {vs us : List V}, DenL K p G ds vs → DenL K p G es us → DenL K p G (ds ++ es) (vs ++ us)
  | [], _, _, _, h, h' => by
    have e : _ = [] := h
    rw [e]; exact h'
  | _ :: _, _, _, _, ⟨v, r, h1, h2, h3⟩, h' => ⟨v, r ++ _, by rw [h1]; rfl, h2, DenL.append h3 h'⟩
theorem DenL.one {d : D} {v : V} (h : Den K p G d v) : DenL K p G [d] [v] := ⟨v, [], rfl, h, rfl⟩
theorem DenL.nil : DenL K p G [] [] := rfl
theorem DenL.cons {d : D} {v : V} {ds : List D} {vs : List V} (h : Den K p G d v) (r : DenL K p G ds vs) : DenL K p G (d :: ds) (v :: vs) := ⟨v, vs, rfl, h, r⟩
theorem DenL.take : ∀ {ds : List D} {vs : List V} (n : Nat), DenL K p G ds vs → DenL K p G (ds.take n) (vs.take n)
  | _, _, 0, _ => by simp; exact rfl
  | [], _, n + 1, h => by
    have e : _ = [] := h
    rw [e]; exact rfl
  | _ :: _, _, n + 1, ⟨v, r, h1, h2, h3⟩ => by
    rw [h1]; exact ⟨v, _, rfl, h2, DenL.take n h3⟩
theorem DenL.drop : ∀ {ds : List D} {vs : List V} (n : Nat), DenL K p G ds vs → DenL K p G (ds.drop n) (vs.drop n)
  | _, _, 0, h => by simpa using h
  | [], _, n + 1, h => by
    have e : _ = [] := h
    rw [e]; exact rfl
  | _ :: _, _, n + 1, ⟨v, r, h1, h2, h3⟩ => by
    rw [h1]; exact DenL.drop n h3
theorem DenL.set {e : D} {u : V} (h' : Den K p G e u) : ∀ {ds : List D} {vs : List V} (i : Nat), DenL K p G ds vs → DenL K p G (ds.set i e) (vs.set i u)
  | [], _, _, h => by
    have e : _ = [] := h
    rw [e]; exact rfl
  | _ :: _, _, 0, ⟨v, r, h1, h2, h3⟩ => by
    rw [h1]; exact ⟨u, r, rfl, h', h3⟩
  | _ :: _, _, i + 1, ⟨v, r, h1, h2, h3⟩ => by
    rw [h1]; exact ⟨v, _, rfl, h2, DenL.set h' i h3⟩
end

/-! ### the mutable things in the heap -/
def MoAt (K : PySem.W.Frag) (p : List (List Addr)) (G H : Hp) : List Addr → MO → Prop
  | [a, l, c], .tape t => H a = some (.dK [(.inr "large", .ref l), (.inr "cells", .ref c), (.inr "rest", .int t.rest), (.inr "turn", .int t.turn)]) ∧ H l = some (.lst (t.large.map .int)) ∧ H c = some (.lst (t.cells.map .int))
  | [x], .inst c ns fs => ∃ dx vs, H x = some (.ins (He.ga K c) dx (ns.zip vs)) ∧ vs.length = ns.length ∧ DenL K p G fs vs
  | _, _ => False
theorem MoAt.dom {K : PySem.W.Frag} {p : List (List Addr)} {G H : Hp} : ∀ {as : List Addr} {o : MO}, MoAt K p G H as o → ∀ a ∈ as, H a ≠ none
  | [a, l, c], .tape t, ⟨h1, h2, h3⟩, b, hb => by
    simp only [List.mem_cons, List.not_mem_nil, or_false] at hb
    rcases hb with rfl | rfl | rfl
    · rw [h1]; simp
    · rw [h2]; simp
    · rw [h3]; simp
  | [x], .inst c ns fs, ⟨dx, vs, h1, _⟩, b, hb => by
    simp only [List.mem_cons, List.not_mem_nil, or_false] at hb
    subst hb
    rw [h1]; simp
theorem MoAt.mono {K : PySem.W.Frag} {p p' : List (List Addr)} {G G' H H' : Hp} (hp : ∃ r, p' = p ++ r) (e : Same G G') : ∀ {as : List Addr} {o : MO}, MoAt K p G H as o → (∀ a ∈ as, H' a = H a) → MoAt K p' G' H' as o
  | [a, l, c], .tape t, ⟨h1, h2, h3⟩, k => ⟨(k a (by simp)).trans h1, (k l (by simp)).trans h2, (k c (by simp)).trans h3⟩
  | [x], .inst c ns fs, ⟨dx, vs, h1, h2, h3⟩, k => ⟨dx, vs, (k x (by simp)).trans h1, h2, h3.mono hp e⟩
theorem MoAt.ice {K : PySem.W.Frag} {p : List (List Addr)} {G G' H : Hp} (e : Same G G') {as : List Addr} {o : MO} (h : MoAt K p G H as o) : MoAt K p G' H as o := h.mono ⟨[], by simp⟩ e fun _ _ => rfl

/-- the state stands in the heap; G: what is frozen -/
structure Rel0 (K : PySem.W.Frag) (p : List (List Addr)) (S : Sto) (G H : Hp) : Prop where
  sub : Same G H
  len : p.length = S.length
  mo : ∀ (i : Nat) (as : List Addr) (o : MO), p[i]? = some as → S[i]? = some o → MoAt K p G H as o
  nd : p.flatten.Nodup
  gn : ∀ a ∈ p.flatten, G a = none
/-- from one state to a later one -/
structure Ext (p : List (List Addr)) (G H : Hp) (p' : List (List Addr)) (G' H' : Hp) : Prop where
  g : Same G G'
  gn : ∀ a, G a = none → H a ≠ none → G' a = none
  h : ∀ a o, H a = some o → a ∉ p.flatten → H' a = some o
  d : ∀ a, H a ≠ none → H' a ≠ none
  p : ∃ r, p' = p ++ r ∧ ∀ a ∈ r.flatten, H a = none
theorem Ext.pp {p p' : List (List Addr)} {G H G' H' : Hp} (e : Ext p G H p' G' H') : ∃ r, p' = p ++ r := let ⟨r, h, _⟩ := e.p; ⟨r, h⟩
theorem Ext.refl (p : List (List Addr)) (G H : Hp) : Ext p G H p G H := ⟨Same.refl _, fun _ h _ => h, fun _ _ h _ => h, fun _ h => h, [], by simp, by simp⟩
theorem Ext.trans {p p1 p2 : List (List Addr)} {G H G1 H1 G2 H2 : Hp} (a : Ext p G H p1 G1 H1) (b : Ext p1 G1 H1 p2 G2 H2) : Ext p G H p2 G2 H2 := by
  obtain ⟨r, e1, f1⟩ := a.p
  obtain ⟨r2, e2, f2⟩ := b.p
  refine ⟨a.g.trans b.g, fun x h1 h2 => b.gn x (a.gn x h1 h2) (a.d x h2), fun x o h1 h2 => b.h x o (a.h x o h1 h2) ?_, fun x h => b.d x (a.d x h), r ++ r2, by rw [e2, e1, List.append_assoc], fun x hx => ?_⟩
  · rw [e1, List.flatten_append, List.mem_append]
    rintro (z | z)
    · exact h2 z
    · rw [f1 x z] at h1; cases h1
  · rw [List.flatten_append, List.mem_append] at hx
    rcases hx with z | z
    · exact f1 x z
    · cases q : H x with
      | none => rfl
      | some o => exact absurd (f2 x z) (a.d x (by rw [q]; simp))
theorem Rel0.dom {K : PySem.W.Frag} {p : List (List Addr)} {S : Sto} {G H : Hp} (r : Rel0 K p S G H) {a : Addr} (h : a ∈ p.flatten) : H a ≠ none := by
  obtain ⟨as, h1, h2⟩ := List.mem_flatten.mp h
  obtain ⟨i, hi, e⟩ := List.getElem_of_mem h1
  have e1 : p[i]? = some as := by rw [List.getElem?_eq_getElem hi, e]
  have hs : i < S.length := by rw [← r.len]; exact hi
  exact (r.mo i as _ e1 (List.getElem?_eq_getElem hs)).dom a h2
/-- a new frozen thing -/
theorem Rel0.new {K : PySem.W.Frag} {p : List (List Addr)} {S : Sto} {G H : Hp} (r : Rel0 K p S G H) {a : Addr} (o : HO) (h : H a = none) : Rel0 K p S (upd G a o) (upd H a o) ∧ Ext p G H p (upd G a o) (upd H a o) := by
  have ga : G a = none := Same.free r.sub h
  have np : a ∉ p.flatten := fun z => r.dom z h
  refine ⟨⟨fun b u e => ?_, r.len, fun i as x e1 e2 => (r.mo i as x e1 e2).mono ⟨[], by simp⟩ (fun b u e => by rw [upd_ne (ne_of_none e ga)]; exact e) fun b hb => ?_, r.nd, fun b hb => ?_⟩, ⟨fun b u e => ?_, fun b h1 h2 => ?_, fun b u e _ => ?_, fun b e => ?_, [], by simp, by simp⟩⟩
  · by_cases q : b = a
    · subst q; rw [upd_same] at e ⊢; exact e
    · rw [upd_ne q] at e ⊢; exact r.sub b u e
  · have : b ≠ a := by
      rintro rfl
      exact np (List.mem_flatten.mpr ⟨as, List.mem_of_getElem? e1, hb⟩)
    exact upd_ne this
  · have : b ≠ a := by rintro rfl; exact np hb
    rw [upd_ne this]; exact r.gn b hb
  · rw [upd_ne (ne_of_none e ga)]; exact e
  · have : b ≠ a := by rintro rfl; exact h2 h
    rw [upd_ne this]; exact h1
  · rw [upd_ne (ne_of_none e h)]; exact e
  · by_cases q : b = a
    · subst q; rw [upd_same]; simp
    · rw [upd_ne q]; exact e
/-- a new thing that is not (yet) frozen -/
theorem Rel0.own {K : PySem.W.Frag} {p : List (List Addr)} {S : Sto} {G H : Hp} (r : Rel0 K p S G H) {a : Addr} (o : HO) (ha : a ∉ p.flatten) (hg : G a = none) : Rel0 K p S G (upd H a o) := by
  refine ⟨fun b u e => ?_, r.len, fun i as x e1 e2 => (r.mo i as x e1 e2).mono ⟨[], by simp⟩ (Same.refl _) fun b hb => ?_, r.nd, r.gn⟩
  · rw [upd_ne (ne_of_none e hg)]; exact r.sub b u e
  · have : b ≠ a := by
      rintro rfl
      exact ha (List.mem_flatten.mpr ⟨as, List.mem_of_getElem? e1, hb⟩)
    exact upd_ne this

/-! ### slots -/
inductive DV where
  | val (d : D)
  | own (xs : List D)
  | slf (c : Str) (ns : List Str) (fs : List D)
abbrev DSt := List (Option DV)
def SlotR (K : PySem.W.Frag) (p : List (List Addr)) (G H : Hp) : Option DV → Option V → List Addr → Prop
  | none, _, l => l = []
  | some (.val d), ov, l => l = [] ∧ ∃ v, ov = some v ∧ Den K p G d v
  | some (.own xs), ov, l => ∃ a vs, l = [a] ∧ ov = some (.ref a) ∧ H a = some (.lst vs) ∧ DenL K p G xs vs
  | some (.slf c ns fs), ov, l => ∃ a dx vs, l = [a] ∧ ov = some (.ref a) ∧ H a = some (.ins (He.ga K c) dx (ns.zip vs)) ∧ vs.length = ns.length ∧ DenL K p G fs vs
def SlotsR (K : PySem.W.Frag) (p : List (List Addr)) (G H : Hp) : DSt → L2.St → List Addr → Prop
  | [], vs, ow => vs = [] ∧ ow = []
  | s :: ss, vs, ow => ∃ v r l k, vs = v :: r ∧ ow = l ++ k ∧ SlotR K p G H s v l ∧ SlotsR K p G H ss r k
structure RelS (K : PySem.W.Frag) (p : List (List Addr)) (G : Hp) (S : Sto) (H : Hp) (t : DSt) (σ : L2.St) (ow : List Addr) : Prop where
  rel : Rel0 K p S G H
  sl : SlotsR K p G H t σ ow
  nd : (p.flatten ++ ow).Nodup
  gn : ∀ a ∈ ow, G a = none
section
variable {K : PySem.W.Frag} {p p' : List (List Addr)} {G G' H H' : Hp} {S S' : Sto} {t : DSt} {σ : L2.St} {ow : List Addr}
theorem SlotR.mono (hp : ∃ r, p' = p ++ r) (e : Same G G') : ∀ {s : Option DV} {v : Option V} {l : List Addr}, (∀ a ∈ l, H' a = H a) → SlotR K p G H s v l → SlotR K p' G' H' s v l
  | none, _, _, _, h => h
  | some (.val _), _, _, _, ⟨h1, v, h2, h3⟩ => ⟨h1, v, h2, h3.mono hp e⟩
  | some (.own _), _, _, k, ⟨a, vs, h1, h2, h3, h4⟩ => ⟨a, vs, h1, h2, (k a (by rw [h1]; simp)).trans h3, h4.mono hp e⟩
  | some (.slf _ _ _), _, _, k, ⟨a, dx, vs, h1, h2, h3, h4, h5⟩ => ⟨a, dx, vs, h1, h2, (k a (by rw [h1]; simp)).trans h3, h4, h5.mono hp e⟩
theorem SlotsR.mono (hp : ∃ r, p' = p ++ r) (e : Same G G') : ∀ {t : DSt} {σ : L2.St} {ow : List Addr}, (∀ a ∈ ow, H' a = H a) → SlotsR K p G H t σ ow → SlotsR K p' G' H' t σ ow
  | [], _, _, _, h => h
  | _ :: _, _, _, k, ⟨v, r, l, m, h1, h2, h3, h4⟩ => ⟨v, r, l, m, h1, h2, SlotR.mono hp e (fun a ha => k a (by rw [h2]; exact List.mem_append_left _ ha)) h3,
      SlotsR.mono hp e (fun a ha => k a (by rw [h2]; exact List.mem_append_right _ ha)) h4⟩
theorem SlotR.dom : ∀ {s : Option DV} {v : Option V} {l : List Addr}, SlotR K p G H s v l → ∀ a ∈ l, H a ≠ none
  | none, _, _, h, _, ha => by rw [show _ = [] from h] at ha; cases ha
  | some (.val _), _, _, h, _, ha => by rw [h.1] at ha; cases ha
  | some (.own _), _, _, ⟨a, vs, h1, _, h3, _⟩, b, hb => by
    rw [h1] at hb; simp at hb; subst hb; rw [h3]; simp
  | some (.slf _ _ _), _, _, ⟨a, dx, vs, h1, _, h3, _⟩, b, hb => by
    rw [h1] at hb; simp at hb; subst hb; rw [h3]; simp
theorem SlotsR.dom : ∀ {t : DSt} {σ : L2.St} {ow : List Addr}, SlotsR K p G H t σ ow → ∀ a ∈ ow, H a ≠ none
  | [], _, _, h, _, ha => by rw [h.2] at ha; cases ha
  | _ :: _, _, _, ⟨v, r, l, m, h1, h2, h3, h4⟩, a, ha => by
    rw [h2] at ha
    rcases List.mem_append.mp ha with z | z
    · exact h3.dom a z
    · exact SlotsR.dom h4 a z
theorem RelS.ext (r : RelS K p G S H t σ ow) (e : Ext p G H p' G' H') (r' : Rel0 K p' S' G' H') : RelS K p' G' S' H' t σ ow := by
  obtain ⟨q, e1, f1⟩ := e.p
  have dj : ∀ a ∈ ow, a ∉ p.flatten := fun a ha hp => (List.nodup_append.mp r.nd).2.2 a hp a ha rfl
  refine ⟨r', SlotsR.mono e.pp e.g (fun a ha => ?_) r.sl, ?_, fun a ha => e.gn a (r.gn a ha) (r.sl.dom a ha)⟩
  · cases h : H a with
    | none => exact absurd h (r.sl.dom a ha)
    | some o => exact e.h a o h (dj a ha)
  · rw [List.nodup_append]
    refine ⟨r'.nd, (List.nodup_append.mp r.nd).2.1, fun a ha b hb hab => ?_⟩
    subst hab
    rw [e1, List.flatten_append, List.mem_append] at ha
    rcases ha with z | z
    · exact dj a hb z
    · exact r.sl.dom a hb (f1 a z)
theorem SlotsR.get : ∀ {t : DSt} {σ : L2.St} {ow : List Addr} {i : Nat} {d : D}, SlotsR K p G H t σ ow → t[i]? = some (some (.val d)) → ∃ v, σ[i]? = some (some v) ∧ Den K p G d v
  | [], _, _, _, _, _, e => by simp at e
  | _ :: _, _, _, 0, d, ⟨v, r, l, m, h1, h2, h3, h4⟩, e => by
    simp at e; subst e
    obtain ⟨_, u, e1, e2⟩ := h3
    exact ⟨u, by rw [h1, e1]; rfl, e2⟩
  | _ :: _, _, _, i + 1, d, ⟨v, r, l, m, h1, h2, h3, h4⟩, e => by
    obtain ⟨u, a, b⟩ := SlotsR.get (i := i) h4 (by simpa using e)
    exact ⟨u, by rw [h1]; simpa using a, b⟩
end
end RM

/-! RM: judgements, expressions. -/
namespace RM
open PySem PySem.Spec PyProof.Rows L2

/-- an own exception as it lies in the heap -/
def ExcAt (K : PySem.W.Frag) (p : List (List Addr)) (G : Hp) (e : Exc) (cls : Value) : Option Addr → Prop
  | none => cls = .ref (He.ga K e.cls) ∧ e.ns = []
  | some d => cls = .ref (He.ga K e.cls) ∧ ∃ vs, G d = some (.xd (e.ns.zip vs)) ∧ vs.length = e.ns.length ∧ DenL K p G e.fs vs
/-- what is wanted of a result -/
def okR {α β : Type} (R : List (List Addr) → Hp → α → β → Prop) (K : PySem.W.Frag) (p : List (List Addr)) (G H : Hp) (W : Value → Option Addr → Hp → Prop) (r : Res α) (Q : β → Hp → Prop) : Prop :=
  match r with
  | .ok d S' => ∀ v p' G' H', R p' G' d v → Rel0 K p' S' G' H' → Ext p G H p' G' H' → Q v H'
  | .exc e S' => ∀ cls dd p' G' H', ExcAt K p' G' e cls dd → Rel0 K p' S' G' H' → Ext p G H p' G' H' → W cls dd H'
  | .stuck => False
section
variable {α β γ δ : Type} {R : List (List Addr) → Hp → α → β → Prop} {R1 : List (List Addr) → Hp → γ → δ → Prop} {K : PySem.W.Frag} {p p1 : List (List Addr)} {G H G1 H1 : Hp} {W : Value → Option Addr → Hp → Prop} {r : Res α} {Q : β → Hp → Prop} {S : Sto}
theorem okR.ext (h : okR R K p G H W r Q) (e : Ext p G H p1 G1 H1) : okR R K p1 G1 H1 W r Q := by
  cases r with
  | ok d S' => exact fun v p' G' H' a b c => h v p' G' H' a b (e.trans c)
  | exc x S' => exact fun cls dd p' G' H' a b c => h cls dd p' G' H' a b (e.trans c)
  | stuck => exact h
theorem okR.seq {m : M γ} {f : γ → M α} {Q1 : δ → Hp → Prop} (h : okR R K p G H W ((m >>= f) S) Q)
    (k : ∀ d S1 v p1 G1 H1, m S = .ok d S1 → R1 p1 G1 d v → Rel0 K p1 S1 G1 H1 → Ext p G H p1 G1 H1 → okR R K p1 G1 H1 W (f d S1) Q → Q1 v H1) : okR R1 K p G H W (m S) Q1 := by
  have h' : okR R K p G H W ((m S).andThen f) Q := h
  cases e : m S with
  | ok d S1 =>
    rw [e] at h'
    exact fun v p1 G1 H1 a b c => k d S1 v p1 G1 H1 e a b c (okR.ext h' c)
  | exc x S1 =>
    rw [e] at h'
    exact h'
  | stuck =>
    rw [e] at h'
    exact h'
theorem okR.fin {d : α} {v : β} (h : okR R K p G H W (.ok d S) Q) (a : R p G d v) (b : Rel0 K p S G H) : Q v H := h v p G H a b (Ext.refl _ _ _)
theorem okR.imp {r : Res γ} {Q Q' : δ → Hp → Prop} (h : okR R1 K p G H W r Q) (k : ∀ v H', Q v H' → Q' v H') : okR R1 K p G H W r Q' := by
  cases r with
  | ok d S' => exact fun v p' G' H' a b c => k _ _ (h v p' G' H' a b c)
  | exc x S' => exact h
  | stuck => exact h
end
abbrev rB : List (List Addr) → Hp → Bool → Bool → Prop := fun _ _ a b => a = b
/-- readings -/
def tD (K : PySem.W.Frag) (W : WX) (m : DSt → M D) : TE := fun σ H Q => ∃ t p G S ow, RelS K p G S H t σ ow ∧ okR (Den K) K p G H (fun c d H' => W c d σ H') (m t S) Q
def tDA (K : PySem.W.Frag) (W : WX) (m : DSt → M (List D)) : TA := fun σ H Q => ∃ t p G S ow, RelS K p G S H t σ ow ∧ okR (DenL K) K p G H (fun c d H' => W c d σ H') (m t S) Q
def tDT (K : PySem.W.Frag) (W : WX) (m : DSt → M Bool) : TT := fun σ H Q => ∃ t p G S ow, RelS K p G S H t σ ow ∧ okR rB K p G H (fun c d H' => W c d σ H') (m t S) Q
abbrev DE (X : Cx) (W : WX) (e : Expr) (m : DSt → M D) : Prop := PE X e (tD X.K W m)
abbrev DA (X : Cx) (W : WX) (es : List Expr) (m : DSt → M (List D)) : Prop := PA X es (tDA X.K W m)
abbrev DT (X : Cx) (W : WX) (e : Expr) (m : DSt → M Bool) : Prop := PT X e (tDT X.K W m)
theorem PE.imp {X : Cx} {e : Expr} {t t' : TE} (h : PE X e t) (k : ∀ σ H Q, t' σ H Q → t σ H Q) : PE X e t' := ⟨fun pins s σ H Q I q => h.run pins s σ H Q I (k _ _ _ q)⟩
theorem PT.imp {X : Cx} {e : Expr} {t t' : TT} (h : PT X e t) (k : ∀ σ H Q, t' σ H Q → t σ H Q) : PT X e t' := ⟨fun pins s σ H Q I q => h.run pins s σ H Q I (k _ _ _ q)⟩
theorem PW.imp {X : Cx} {e : Expr} {t t' : TT} (h : PW X e t) (k : ∀ σ H Q, t' σ H Q → t σ H Q) : PW X e t' := ⟨fun wh pins s σ H Q I q => h.run wh pins s σ H Q I (k _ _ _ q)⟩
theorem PA.imp {X : Cx} {es : List Expr} {t t' : TA} (h : PA X es t) (k : ∀ σ H Q, t' σ H Q → t σ H Q) : PA X es t' := ⟨fun pos pins s σ H Q I q => h.run pos pins s σ H Q I (k _ _ _ q)⟩

/-- the next part's reading, behind a first one -/
theorem tD.next {K : PySem.W.Frag} {W : WX} {m : DSt → M D} {σ : L2.St} {t : DSt} {p p1 : List (List Addr)} {G H G1 H1 : Hp} {S S1 : Sto} {ow : List Addr} {Q : VK} (r : RelS K p G S H t σ ow) (e : Ext p G H p1 G1 H1) (r1 : Rel0 K p1 S1 G1 H1)
    (h : okR (Den K) K p1 G1 H1 (fun c d H' => W c d σ H') (m t S1) Q) : tD K W m σ H1 Q := ⟨t, p1, G1, S1, ow, r.ext e r1, h⟩
theorem tDT.next {K : PySem.W.Frag} {W : WX} {m : DSt → M Bool} {σ : L2.St} {t : DSt} {p p1 : List (List Addr)} {G H G1 H1 : Hp} {S S1 : Sto} {ow : List Addr} {Q : Bool → Hp → Prop} (r : RelS K p G S H t σ ow) (e : Ext p G H p1 G1 H1) (r1 : Rel0 K p1 S1 G1 H1)
    (h : okR rB K p1 G1 H1 (fun c d H' => W c d σ H') (m t S1) Q) : tDT K W m σ H1 Q := ⟨t, p1, G1, S1, ow, r.ext e r1, h⟩
theorem tDA.next {K : PySem.W.Frag} {W : WX} {m : DSt → M (List D)} {σ : L2.St} {t : DSt} {p p1 : List (List Addr)} {G H G1 H1 : Hp} {S S1 : Sto} {ow : List Addr} {Q : List V → Hp → Prop} (r : RelS K p G S H t σ ow) (e : Ext p G H p1 G1 H1) (r1 : Rel0 K p1 S1 G1 H1)
    (h : okR (DenL K) K p1 G1 H1 (fun c d H' => W c d σ H') (m t S1) Q) : tDA K W m σ H1 Q := ⟨t, p1, G1, S1, ow, r.ext e r1, h⟩

/-! ### names, constants -/
def getV (t : DSt) (i : Nat) : M D := match t[i]? with
  | some (some (.val d)) => pure d
  | _ => stuck
theorem getV_of (t : DSt) (i : Nat) : (∃ d, t[i]? = some (some (.val d)) ∧ getV t i = pure d) ∨ getV t i = stuck := by
  unfold getV
  split
  · rename_i d e
    exact .inl ⟨d, e, rfl⟩
  · exact .inr rfl
section
variable {X : Cx} {W : WX} {a b c : Expr} {es : List Expr} {ma mb mc : DSt → M D} {mt mu : DSt → M Bool} {pos : Pos}
theorem de_var (i : Nat) {x : Str} (hN : X.N[i]? = some x := by rfl) (hv : Vis X.env.scope x := by first | exact Or.inl rfl | exact Or.inr (Or.inl rfl) | exact Or.inr (Or.inr rfl)) (hd : (x == ("__debug__" : Str)) = false := by decide)
    (hcd : (x == ("__classdict__" : Str)) = false := by decide) : DE X W (.Name x pos) (fun t => getV t i) := by
  refine PE.imp (pe_var hN hv hd hcd) fun σ H Q ⟨t, p, G, S, ow, r, h⟩ => ?_
  have h : okR (Den X.K) X.K p G H (fun c d H' => W c d σ H') (getV t i S) Q := h
  rcases getV_of t i with ⟨d, e, q⟩ | q
  · rw [q] at h
    obtain ⟨v, e1, dn⟩ := r.sl.get e
    exact ⟨v, e1, okR.fin h dn r.rel⟩
  · rw [q] at h
    exact h.elim
theorem de_c {e : Expr} {v : V} (d : D) (h : PE X e (tC v)) (hd : ∀ p G, Den X.K p G d v) : DE X W e (fun _ => pure d) :=
  PE.imp h fun σ H Q ⟨t, p, G, S, ow, r, h⟩ => okR.fin h (hd p G) r.rel
theorem de_int {i j} : DE X W (.Constant (.int i) j pos) (fun _ => pure (.int i)) := de_c _ pe_int fun _ _ => rfl
theorem de_bl {i j} : DE X W (.Constant (.bool i) j pos) (fun _ => pure (.bl i)) := de_c _ pe_bl fun _ _ => rfl
theorem de_non {j} : DE X W (.Constant .none j pos) (fun _ => pure .non) := de_c _ pe_non fun _ _ => rfl
theorem de_str {x j} : DE X W (.Constant (.str x) j pos) (fun _ => pure (.str x)) := de_c _ pe_str fun _ _ => rfl
/-- a module's name that holds plain data -/
theorem de_glob {x : Str} {v : V} {u : Value} (d : D) (hg : Gl X x) (hm : X.mg x = some u) (r : RelV v u) (hd : ∀ p G, Den X.K p G d v) (hdb : (x == ("__debug__" : Str)) = false := by decide) : DE X W (.Name x pos) (fun _ => pure d) :=
  de_c d (pe_glob hg hm r hdb) hd

/-! ### operators by data -/
/-- a value-level reading r2 is served by the data-level f -/
def By2 (K : PySem.W.Frag) (r2 : R2) (f : D → D → M D) : Prop := ∀ (d e : D) (v u : V) (p : List (List Addr)) (G H : Hp) (S : Sto) (W : Value → Option Addr → Hp → Prop) (Q : VK), Den K p G d v → Den K p G e u → Rel0 K p S G H → okR (Den K) K p G H W (f d e S) Q → r2 v u H Q
def By1 (K : PySem.W.Frag) (r1 : V → Hp → VK → Prop) (f : D → M D) : Prop := ∀ (d : D) (v : V) (p : List (List Addr)) (G H : Hp) (S : Sto) (W : Value → Option Addr → Hp → Prop) (Q : VK), Den K p G d v → Rel0 K p S G H → okR (Den K) K p G H W (f d S) Q → r1 v H Q
def ByA (K : PySem.W.Frag) (r1 : List V → Hp → VK → Prop) (f : List D → M D) : Prop := ∀ (d : List D) (v : List V) (p : List (List Addr)) (G H : Hp) (S : Sto) (W : Value → Option Addr → Hp → Prop) (Q : VK), DenL K p G d v → Rel0 K p S G H → okR (Den K) K p G H W (f d S) Q → r1 v H Q
theorem tD2 {K : PySem.W.Frag} {r2 : R2} {f : D → D → M D} (hb : By2 K r2 f) {σ : L2.St} {H : Hp} {Q : VK} (h : tD K W (fun t => do let x ← ma t; let y ← mb t; f x y) σ H Q) : tOp r2 (tD K W ma) (tD K W mb) σ H Q := by
  obtain ⟨t, p, G, S, ow, r, h⟩ := h
  refine ⟨t, p, G, S, ow, r, okR.seq h fun d S1 v p1 G1 H1 e1 dn r1 x1 h1 => ?_⟩
  refine tD.next r x1 r1 (okR.seq h1 fun d2 S2 v2 p2 G2 H2 e2 dn2 r2 x2 h2 => ?_)
  exact hb d d2 v v2 p2 G2 H2 S2 _ Q (dn.mono x2.pp x2.g) dn2 r2 h2
theorem de_op {op : Operator} {r2 : R2} {f : D → D → M D} (ho : OpR X (binaryOp op) r2) (hb : By2 X.K r2 f) (ha : DE X W a ma) (hb' : DE X W b mb) : DE X W (.BinOp a op b pos) (fun t => do let x ← ma t; let y ← mb t; f x y) :=
  PE.imp (pe_op ho ha hb') fun _ _ _ h => tD2 hb h
theorem de_cmp {op : CmpOp} {r2 : R2} {f : D → D → M D} (ho : OpR X (compareOp op) r2) (hb : By2 X.K r2 f) (ha : DE X W a ma) (hb' : DE X W b mb) (hm : behindInMarks op b = false) : DE X W (.Compare a [op] [b] pos) (fun t => do let x ← ma t; let y ← mb t; f x y) :=
  PE.imp (pe_cmpR ho ha hb' hm) fun _ _ _ h => tD2 hb h
theorem de_un {op : UnaryOp} {r1 : V → Hp → VK → Prop} {f : D → M D} (ho : UnR X (unaryOp op) r1) (hb : By1 X.K r1 f) (ha : DE X W a ma) : DE X W (.UnaryOp op a pos) (fun t => do let x ← ma t; f x) := by
  refine PE.imp (pe_un ho ha) fun σ H Q ⟨t, p, G, S, ow, r, h⟩ => ?_
  exact ⟨t, p, G, S, ow, r, okR.seq h fun d S1 v p1 G1 H1 e1 dn r1 x1 h1 => hb d v p1 G1 H1 S1 _ Q dn r1 h1⟩

/-! ### tests -/
def asB : D → M Bool
  | .bl b => pure b
  | _ => stuck
theorem dt_val (ha : DE X W a ma) (he : ∀ whole, isTrue a X.env whole = (do let v ← whole; standAt a.pos; holding [v] (truthy v)) := by intro _; rfl) : DT X W a (fun t => do let x ← ma t; asB x) := by
  refine PT.imp (pt_val ha he) fun σ H Q ⟨t, p, G, S, ow, r, h⟩ => ?_
  refine ⟨t, p, G, S, ow, r, okR.seq h fun d S1 v p1 G1 H1 e1 dn r1 x1 h1 => ?_⟩
  cases d with
  | bl b => exact ⟨b, dn, okR.fin (d := b) h1 rfl r1⟩
  | _ => exact h1.elim
theorem dt_cmp {op : CmpOp} {r2 : R2} {f : D → D → M D} (ho : OpR X (compareOp op) r2) (hb : By2 X.K r2 f) (ha : DE X W a ma) (hb' : DE X W b mb) (hm : behindInMarks op b = false) : DT X W (.Compare a [op] [b] pos) (fun t => do let x ← (do let x ← ma t; let y ← mb t; f x y); asB x) := by
  refine PT.imp (pt_cmpR ho ha hb' hm) fun σ H Q ⟨t, p, G, S, ow, r, h⟩ => ?_
  refine tD2 (ma := ma) (mb := mb) hb ⟨t, p, G, S, ow, r, okR.seq h fun d S1 v p1 G1 H1 e1 dn r1 x1 h1 => ?_⟩
  cases d with
  | bl b => exact ⟨b, dn, okR.fin (d := b) h1 rfl r1⟩
  | _ => exact h1.elim
theorem dt_not (ha : DT X W a mt) : DT X W (.UnaryOp .Not a pos) (fun t => do let x ← mt t; pure (!x)) := by
  refine PT.imp (pt_not ha) fun σ H Q ⟨t, p, G, S, ow, r, h⟩ => ?_
  refine ⟨t, p, G, S, ow, r, okR.seq h fun d S1 v p1 G1 H1 e1 dn r1 x1 h1 => ?_⟩
  cases dn
  exact okR.fin (d := !d) h1 rfl r1
abbrev DW (X : Cx) (W : WX) (e : Expr) (m : DSt → M Bool) : Prop := PW X e (tDT X.K W m)
theorem dw_and1 (ha : DT X W a mt) : DW X W (.BoolOp .And [a] pos) mt := pw_and1 ha
theorem dw_or1 (ha : DT X W a mt) : DW X W (.BoolOp .Or [a] pos) mt := pw_or1 ha
theorem dw_and {rest : List Expr} (ha : DT X W a mt) (hb : DW X W (.BoolOp .And (b :: rest) pos) mu) : DW X W (.BoolOp .And (a :: b :: rest) pos) (fun t => do if ← mt t then mu t else pure false) := by
  refine PW.imp (pw_and ha hb) fun σ H Q ⟨t, p, G, S, ow, r, h⟩ => ?_
  refine ⟨t, p, G, S, ow, r, okR.seq h fun d S1 v p1 G1 H1 e1 dn r1 x1 h1 => ?_⟩
  cases dn
  cases d with
  | true => exact iteT (tDT.next r x1 r1 h1)
  | false => exact iteF (okR.fin (d := false) h1 rfl r1)
theorem dw_or {rest : List Expr} (ha : DT X W a mt) (hb : DW X W (.BoolOp .Or (b :: rest) pos) mu) : DW X W (.BoolOp .Or (a :: b :: rest) pos) (fun t => do if ← mt t then pure true else mu t) := by
  refine PW.imp (pw_or ha hb) fun σ H Q ⟨t, p, G, S, ow, r, h⟩ => ?_
  refine ⟨t, p, G, S, ow, r, okR.seq h fun d S1 v p1 G1 H1 e1 dn r1 x1 h1 => ?_⟩
  cases dn
  cases d with
  | false => exact iteF (tDT.next r x1 r1 h1)
  | true => exact iteT (okR.fin (d := true) h1 rfl r1)
theorem DW.dt (h : DW X W a mt) : DT X W a mt := h.pt
/-! ### and, or, not as values (bools but the last) -/
theorem de_one {op} (h : DE X W a ma) : DE X W (.BoolOp op [a] pos) ma := pe_one h
theorem de_and {rest : List Expr} (ha : DE X W a ma) (hb : DE X W (.BoolOp .And (b :: rest) pos) mb) : DE X W (.BoolOp .And (a :: b :: rest) pos) (fun t => do let x ← ma t; if ← asB x then mb t else pure (.bl false)) := by
  refine PE.imp (pe_and ha hb) fun σ H Q ⟨t, p, G, S, ow, r, h⟩ => ?_
  refine ⟨t, p, G, S, ow, r, okR.seq h fun d S1 v p1 G1 H1 e1 dn r1 x1 h1 => ?_⟩
  cases d with
  | bl b =>
    refine ⟨b, dn, ?_⟩
    cases b with
    | true => exact iteT (tD.next r x1 r1 h1)
    | false => exact iteF (okR.fin (d := D.bl false) h1 rfl r1)
  | _ => exact h1.elim
theorem de_or {rest : List Expr} (ha : DE X W a ma) (hb : DE X W (.BoolOp .Or (b :: rest) pos) mb) : DE X W (.BoolOp .Or (a :: b :: rest) pos) (fun t => do let x ← ma t; if ← asB x then pure (.bl true) else mb t) := by
  refine PE.imp (pe_or ha hb) fun σ H Q ⟨t, p, G, S, ow, r, h⟩ => ?_
  refine ⟨t, p, G, S, ow, r, okR.seq h fun d S1 v p1 G1 H1 e1 dn r1 x1 h1 => ?_⟩
  cases d with
  | bl b =>
    refine ⟨b, dn, ?_⟩
    cases b with
    | false => exact iteF (tD.next r x1 r1 h1)
    | true => exact iteT (okR.fin (d := D.bl true) h1 rfl r1)
  | _ => exact h1.elim
theorem de_not (ha : DE X W a ma) : DE X W (.UnaryOp .Not a pos) (fun t => do let x ← ma t; let b ← asB x; pure (.bl (!b))) := by
  refine PE.imp (pe_not ha) fun σ H Q ⟨t, p, G, S, ow, r, h⟩ => ?_
  refine ⟨t, p, G, S, ow, r, okR.seq h fun d S1 v p1 G1 H1 e1 dn r1 x1 h1 => ?_⟩
  cases d with
  | bl b => exact ⟨b, dn, okR.fin (d := D.bl (!b)) h1 rfl r1⟩
  | _ => exact h1.elim
theorem de_if (hc : DT X W c mt) (ha : DE X W a ma) (hb : DE X W b mb) : DE X W (.IfExp c a b pos) (fun t => do if ← mt t then ma t else mb t) := by
  refine PE.imp (pe_ifExp hc ha hb) fun σ H Q ⟨t, p, G, S, ow, r, h⟩ => ?_
  refine ⟨t, p, G, S, ow, r, okR.seq h fun d S1 v p1 G1 H1 e1 dn r1 x1 h1 => ?_⟩
  cases dn
  cases d with
  | true => exact iteT (tD.next r x1 r1 h1)
  | false => exact iteF (tD.next r x1 r1 h1)

/-! ### arguments, displays -/
variable {ms : DSt → M (List D)}
theorem da_nil : DA X W [] (fun _ => pure []) := PA.imp pa_nil fun σ H Q ⟨t, p, G, S, ow, r, h⟩ => okR.fin (d := []) h DenL.nil r.rel
theorem da_cons (ha : DE X W a ma) (hr : DA X W es ms) (hs : starEach (a :: es) X.env = (false, eval a X.env) :: starEach es X.env := by rfl) : DA X W (a :: es) (fun t => do let x ← ma t; let xs ← ms t; pure (x :: xs)) := by
  refine PA.imp (pa_cons ha hr hs) fun σ H Q ⟨t, p, G, S, ow, r, h⟩ => ?_
  refine ⟨t, p, G, S, ow, r, okR.seq h fun d S1 v p1 G1 H1 e1 dn r1 x1 h1 => ?_⟩
  refine tDA.next r x1 r1 (okR.seq h1 fun d2 S2 v2 p2 G2 H2 e2 dn2 r2 x2 h2 => ?_)
  exact okR.fin (d := d :: d2) h2 (DenL.cons (dn.mono x2.pp x2.g) dn2) r2
/-- a new frozen object as the end -/
theorem okR.new {K : PySem.W.Frag} {p : List (List Addr)} {G H : Hp} {W : Value → Option Addr → Hp → Prop} {d : D} {S : Sto} {Q : VK} {l : Addr} {o : HO} (h : okR (Den K) K p G H W (.ok d S) Q) (r : Rel0 K p S G H) (hl : H l = none) (dn : Den K p (upd G l o) d (.ref l)) : Q (.ref l) (upd H l o) :=
  h _ p _ _ dn (r.new o hl).1 (r.new o hl).2
theorem Same.upd_of {G : Hp} {l : Addr} {o : HO} (h : G l = none) : Same G (upd G l o) := fun b u e => by rw [upd_ne (ne_of_none e h)]; exact e
theorem Rel0.gfree {K : PySem.W.Frag} {p : List (List Addr)} {S : Sto} {G H : Hp} (r : Rel0 K p S G H) {a : Addr} (h : H a = none) : G a = none := Same.free r.sub h
theorem DenL.upd {K : PySem.W.Frag} {p : List (List Addr)} {G : Hp} {l : Addr} {o : HO} {ds : List D} {vs : List V} (h : DenL K p G ds vs) (hl : G l = none) : DenL K p (L2.upd G l o) ds vs := h.mono ⟨[], by simp⟩ (Same.upd_of hl)
theorem Den.upd {K : PySem.W.Frag} {p : List (List Addr)} {G : Hp} {l : Addr} {o : HO} {d : D} {v : V} (h : Den K p G d v) (hl : G l = none) : Den K p (L2.upd G l o) d v := h.mono ⟨[], by simp⟩ (Same.upd_of hl)
def tupD (ds : List D) : M D := if ds.length ≤ sizeLine then pure (.tup ds) else stuck
def lstD (ds : List D) : M D := if ds.length ≤ sizeLine then pure (.lst ds) else stuck
theorem okR.tup {K : PySem.W.Frag} {p : List (List Addr)} {G H : Hp} {W : Value → Option Addr → Hp → Prop} {ds : List D} {vs : List V} {S : Sto} {Q : VK} {l : Addr} (h : okR (Den K) K p G H W (.ok (.tup ds) S) Q) (r : Rel0 K p S G H) (hl : H l = none) (dn : DenL K p G ds vs) : Q (.ref l) (L2.upd H l (.tup vs)) :=
  okR.new h r hl ⟨l, vs, rfl, SqT.of upd_same, dn.upd (r.gfree hl)⟩
theorem okR.lst {K : PySem.W.Frag} {p : List (List Addr)} {G H : Hp} {W : Value → Option Addr → Hp → Prop} {ds : List D} {vs : List V} {S : Sto} {Q : VK} {l : Addr} (h : okR (Den K) K p G H W (.ok (.lst ds) S) Q) (r : Rel0 K p S G H) (hl : H l = none) (dn : DenL K p G ds vs) : Q (.ref l) (L2.upd H l (.lst vs)) :=
  okR.new h r hl ⟨l, vs, rfl, upd_same, dn.upd (r.gfree hl)⟩
theorem de_tup {x1} (h : DA X W es ms) : DE X W (.Tuple es x1 pos) (fun t => do let xs ← ms t; tupD xs) := by
  refine PE.imp (pe_tup h) fun σ H Q ⟨t, p, G, S, ow, r, h⟩ => ?_
  refine ⟨t, p, G, S, ow, r, okR.seq h fun d S1 v p1 G1 H1 e1 dn r1 x1 h1 => ?_⟩
  unfold tupD at h1
  split at h1
  · exact ⟨by rw [dn.length]; assumption, fun l hl => okR.tup h1 r1 hl dn⟩
  · exact h1.elim
theorem de_lst (h : DA X W es ms) : DE X W (.List es pos) (fun t => do let xs ← ms t; lstD xs) := by
  refine PE.imp (pe_lst h) fun σ H Q ⟨t, p, G, S, ow, r, h⟩ => ?_
  refine ⟨t, p, G, S, ow, r, okR.seq h fun d S1 v p1 G1 H1 e1 dn r1 x1 h1 => ?_⟩
  unfold lstD at h1
  split at h1
  · exact ⟨by rw [dn.length]; assumption, fun l hl => okR.lst h1 r1 hl dn⟩
  · exact h1.elim
/-! ### calls of built-ins -/
theorem de_callB {x : Str} {id : String} {r1 : List V → Hp → VK → Prop} {f : List D → M D} {p : Pos} (hc : CallR X (.builtin id) r1) (hb : ByA X.K r1 f) (hg : Gl X x) (hm : X.mg x = none) (hv : bootBuiltins x = some (.builtin id)) (ha : DA X W (a :: es) ms) (hn : x ≠ "__name__" := by decide) (hdb : (x == ("__debug__" : Str)) = false := by decide)
    (he : starEach (a :: es) X.env = (false, eval a X.env) :: starEach es X.env := by rfl) (hpl : (backTo pos (starEach es X.env)).any (·.1) = false := by rfl) : DE X W (.Call (.Name x p) (a :: es) [] pos) (fun t => do let xs ← ms t; f xs) := by
  refine PE.imp (pe_callB hc hg hm hv ha hn hdb he hpl) fun σ H Q ⟨t, p, G, S, ow, r, h⟩ => ?_
  exact ⟨t, p, G, S, ow, r, okR.seq h fun d S1 v p1 G1 H1 e1 dn r1 x1 h1 => hb d v p1 G1 H1 S1 _ Q dn r1 h1⟩
theorem de_callTy {x : Str} {T : String} {r1 : List V → Hp → VK → Prop} {f : List D → M D} {p : Pos} (hc : CallR X (.type T) r1) (hb : ByA X.K r1 f) (hg : Gl X x) (hm : X.mg x = none) (hv : bootBuiltins x = some (.type T)) (ha : DA X W (a :: es) ms) (hn : x ≠ "__name__" := by decide) (hdb : (x == ("__debug__" : Str)) = false := by decide)
    (he : starEach (a :: es) X.env = (false, eval a X.env) :: starEach es X.env := by rfl) (hpl : (backTo pos (starEach es X.env)).any (·.1) = false := by rfl) : DE X W (.Call (.Name x p) (a :: es) [] pos) (fun t => do let xs ← ms t; f xs) := by
  refine PE.imp (pe_callTy hc hg hm hv ha hn hdb he hpl) fun σ H Q ⟨t, p, G, S, ow, r, h⟩ => ?_
  exact ⟨t, p, G, S, ow, r, okR.seq h fun d S1 v p1 G1 H1 e1 dn r1 x1 h1 => hb d v p1 G1 H1 S1 _ Q dn r1 h1⟩
end
end RM

/-! RM: operators by data. -/
namespace RM
open PySem PySem.Spec PyProof.Rows L2

/-! ### arithmetic -/
def addD : D → D → M D
  | .int i, .int j => pure (.int (i + j))
  | .str x, .str y => if x.length + y.length ≤ sizeLine then pure (.str (x ++ y)) else stuck
  | .lst xs, .lst ys => if xs.length + ys.length ≤ sizeLine then pure (.lst (xs ++ ys)) else stuck
  | .tup xs, .tup ys => if xs.length + ys.length ≤ sizeLine then pure (.tup (xs ++ ys)) else stuck
  | _, _ => stuck
def subD : D → D → M D
  | .int i, .int j => pure (.int (i - j))
  | _, _ => stuck
def mulD : D → D → M D
  | .int i, .int j => if (-(2 ^ 64) < i ∧ i < 2 ^ 64) ∨ (-(2 ^ 64) < j ∧ j < 2 ^ 64) then pure (.int (i * j)) else stuck
  | .lst xs, .int k => if -(2 ^ 63) ≤ k ∧ k < 2 ^ 63 ∧ xs.length * k.toNat ≤ sizeLine then pure (.lst (List.replicate k.toNat xs).flatten) else stuck
  | _, _ => stuck
def modD : D → D → M D
  | .int i, .int j => if 0 < j then pure (.int (i % j)) else stuck
  | _, _ => stuck
def fdivD : D → D → M D
  | .int i, .int j => if 0 < j ∧ j.natAbs.log2 < 9000 then pure (.int (i / j)) else stuck
  | _, _ => stuck
def powD : D → D → M D
  | .int i, .int j => if 0 ≤ j ∧ j ≤ 1000000 ∧ i.natAbs < 2 ^ 64 then pure (.int (i ^ j.toNat)) else stuck
  | _, _ => stuck
def negD : D → M D
  | .int i => pure (.int (-i))
  | _ => stuck
section
variable {K : PySem.W.Frag}
theorem DenL.nil_iff {p : List (List Addr)} {G : Hp} {ds : List D} {vs : List V} (h : DenL K p G ds vs) : vs = [] ↔ ds = [] := by
  have e := h.length
  constructor
  · intro z
    rw [z] at e
    exact List.length_eq_zero_iff.mp e.symm
  · intro z
    rw [z] at e
    exact List.length_eq_zero_iff.mp e
theorem by_add : By2 K (fun x y H Q => rI0 (fun i j => .int (i + j)) x y H Q ∨ (∃ i j, x = .str i ∧ y = .str j ∧ i.length + j.length ≤ sizeLine ∧ Q (.str (i ++ j)) H) ∨ rCat x y H Q ∨ rCatA K x y H Q) addD := by
  intro d e v u p G H S W Q hd he r h
  cases d <;> cases e <;> try exact h.elim
  · exact .inl ⟨_, _, hd, he, okR.fin (v := V.int _) h rfl r⟩
  · unfold addD at h
    dsimp only at h
    split at h
    · rename_i hz
      exact .inr (.inl ⟨_, _, hd, he, hz, okR.fin (v := V.str _) h rfl r⟩)
    · exact h.elim
  · unfold addD at h
    dsimp only at h
    split at h
    · rename_i hz
      obtain ⟨a, vs, rfl, ha, hv⟩ := hd
      obtain ⟨b, us, rfl, hb, hu⟩ := he
      refine .inr (.inr (.inr ⟨a, b, vs, us, rfl, rfl, SqT.mono r.sub ha, SqT.mono r.sub hb, by rw [hv.length, hu.length]; exact hz, fun z => ?_, fun _ z => ?_, fun _ z l hl => okR.tup h r hl (hv.append hu)⟩))
      · subst z
        rw [(hv.nil_iff.mp rfl), List.nil_append] at h
        exact okR.fin h ⟨b, us, rfl, hb, hu⟩ r
      · subst z
        rw [(hu.nil_iff.mp rfl), List.append_nil] at h
        exact okR.fin h ⟨a, vs, rfl, ha, hv⟩ r
    · exact h.elim
  · unfold addD at h
    dsimp only at h
    split at h
    · rename_i hz
      obtain ⟨a, vs, rfl, ha, hv⟩ := hd
      obtain ⟨b, us, rfl, hb, hu⟩ := he
      exact .inr (.inr (.inl ⟨a, b, vs, us, rfl, rfl, r.sub _ _ ha, r.sub _ _ hb, by rw [hv.length, hu.length]; exact hz, fun l hl => okR.lst h r hl (hv.append hu)⟩))
    · exact h.elim
theorem by_sub : By2 K (rI0 fun i j => .int (i - j)) subD := by
  intro d e v u p G H S W Q hd he r h
  cases d <;> cases e <;> try exact h.elim
  exact ⟨_, _, hd, he, okR.fin (v := V.int _) h rfl r⟩
theorem DenL.replicate {p : List (List Addr)} {G : Hp} {ds : List D} {vs : List V} (h : DenL K p G ds vs) : ∀ k : Nat, DenL K p G (List.replicate k ds).flatten (List.replicate k vs).flatten
  | 0 => rfl
  | k + 1 => by
    rw [List.replicate_succ, List.replicate_succ, List.flatten_cons, List.flatten_cons]
    exact h.append (DenL.replicate h k)
theorem by_mul : By2 K (fun x y H Q => rI CMul (fun i j => .int (i * j)) x y H Q ∨ rRep x y H Q) mulD := by
  intro d e v u p G H S W Q hd he r h
  cases d <;> cases e <;> try exact h.elim
  · unfold mulD at h
    dsimp only at h
    split at h
    · rename_i hz
      exact .inl ⟨_, _, hd, he, hz, okR.fin (v := V.int _) h rfl r⟩
    · exact h.elim
  · unfold mulD at h
    dsimp only at h
    split at h
    · rename_i hz
      obtain ⟨a, vs, rfl, ha, hv⟩ := hd
      exact .inr ⟨a, _, vs, rfl, he, r.sub _ _ ha, hz.1, hz.2.1, by rw [hv.length]; exact hz.2.2, fun l hl => okR.lst h r hl (hv.replicate _)⟩
    · exact h.elim
theorem by_mod : By2 K (rI (fun _ j => 0 < j) fun i j => .int (i % j)) modD := by
  intro d e v u p G H S W Q hd he r h
  cases d <;> cases e <;> try exact h.elim
  unfold modD at h
  dsimp only at h
  split at h
  · rename_i hz
    exact ⟨_, _, hd, he, hz, okR.fin (v := V.int _) h rfl r⟩
  · exact h.elim
theorem by_fdiv : By2 K (rI CDivW fun i j => .int (i / j)) fdivD := by
  intro d e v u p G H S W Q hd he r h
  cases d <;> cases e <;> try exact h.elim
  unfold fdivD at h
  dsimp only at h
  split at h
  · rename_i hz
    exact ⟨_, _, hd, he, hz, okR.fin (v := V.int _) h rfl r⟩
  · exact h.elim
theorem by_pow : By2 K (rI CPow fun i j => .int (i ^ j.toNat)) powD := by
  intro d e v u p G H S W Q hd he r h
  cases d <;> cases e <;> try exact h.elim
  unfold powD at h
  dsimp only at h
  split at h
  · rename_i hz
    exact ⟨_, _, hd, he, hz, okR.fin (v := V.int _) h rfl r⟩
  · exact h.elim
theorem by_neg : By1 K (rU fun i => .int (-i)) negD := by
  intro d v p G H S W Q hd r h
  cases d <;> try exact h.elim
  exact ⟨_, hd, okR.fin (v := V.int _) h rfl r⟩
end
section
variable {X : Cx} {W : WX} {a b c : Expr} {es : List Expr} {ma mb mc : DSt → M D} {pos : Pos}
theorem de_add (ha : DE X W a ma) (hb : DE X W b mb) : DE X W (.BinOp a .Add b pos) (fun t => do let x ← ma t; let y ← mb t; addD x y) := de_op (op_add.or (op_add_str.or (op_cat.or op_catA))) by_add ha hb
theorem de_sub (ha : DE X W a ma) (hb : DE X W b mb) : DE X W (.BinOp a .Sub b pos) (fun t => do let x ← ma t; let y ← mb t; subD x y) := de_op op_sub by_sub ha hb
theorem de_mul (ha : DE X W a ma) (hb : DE X W b mb) : DE X W (.BinOp a .Mult b pos) (fun t => do let x ← ma t; let y ← mb t; mulD x y) := de_op (op_mul.or op_rep) by_mul ha hb
theorem de_mod (ha : DE X W a ma) (hb : DE X W b mb) : DE X W (.BinOp a .Mod b pos) (fun t => do let x ← ma t; let y ← mb t; modD x y) := de_op op_mod by_mod ha hb
theorem de_fdiv (ha : DE X W a ma) (hb : DE X W b mb) : DE X W (.BinOp a .FloorDiv b pos) (fun t => do let x ← ma t; let y ← mb t; fdivD x y) := de_op op_fdivW by_fdiv ha hb
theorem de_pow (ha : DE X W a ma) (hb : DE X W b mb) : DE X W (.BinOp a .Pow b pos) (fun t => do let x ← ma t; let y ← mb t; powD x y) := de_op op_pow by_pow ha hb
theorem de_neg (ha : DE X W a ma) : DE X W (.UnaryOp .USub a pos) (fun t => do let x ← ma t; negD x) := de_un un_neg by_neg ha
end
/-! ### comparisons -/
def isNonD : D → D → M D
  | d, .non => pure (.bl (match d with | .non => true | _ => false))
  | _, _ => stuck
def notNonD : D → D → M D
  | d, .non => pure (.bl (match d with | .non => false | _ => true))
  | _, _ => stuck
def strLt (x y : Str) : Bool := decide (x.cps.toList < y.cps.toList)
def ltD : D → D → M D
  | .int i, .int j => pure (.bl (decide (i < j)))
  | .str i, .str j => pure (.bl (strLt i j))
  | _, _ => stuck
def leD : D → D → M D
  | .int i, .int j => pure (.bl (decide (i ≤ j)))
  | _, _ => stuck
def gtD : D → D → M D
  | .int i, .int j => pure (.bl (decide (j < i)))
  | _, _ => stuck
def geD : D → D → M D
  | .int i, .int j => pure (.bl (decide (j ≤ i)))
  | _, _ => stuck
mutual
def toPy : D → Option PyData
  | .non => some .none
  | .bl b => some (.bool b)
  | .int i => some (.int i)
  | .str x => some (.str x)
  | .tup xs => (toPyL xs).map .tuple
  | .lst xs => (toPyL xs).map .list
  | .ins _ _ _ => none
  | .mref _ => none
  | .dic _ _ => none
  | .scr _ => none
def toPyL : List D → Option (List PyData)
  | [] => some []
  | x :: xs => match toPy x, toPyL xs with
    | some y, some ys => some (y :: ys)
    | _, _ => none
end
def eqDeep (neg : Bool) (d e : D) : M D := match toPy d, toPy e with
  | some x, some y => if SeqAt.shaped x = true ∧ SeqAt.shaped y = true then pure (.bl (if neg then !PyData.eqv x y else PyData.eqv x y)) else stuck
  | _, _ => stuck
def eqD : D → D → M D
  | .int i, .int j => pure (.bl (i == j))
  | .str i, .str j => pure (.bl (i == j))
  | .bl i, .bl j => pure (.bl (i == j))
  | d, e => eqDeep false d e
def neD : D → D → M D
  | .int i, .int j => pure (.bl (!(i == j)))
  | .str i, .str j => pure (.bl (!(i == j)))
  | .bl i, .bl j => pure (.bl (!(i == j)))
  | d, e => eqDeep true d e
section
variable {K : PySem.W.Frag}
mutual
theorem toPy_dp {p : List (List Addr)} {G H : Hp} (sub : Same G H) : ∀ {d : D} {v : V} {x : PyData}, Den K p G d v → toPy d = some x → Dp K H v x
  | .non, _, _, h, e => by
    cases (show _ = _ from h); cases e; exact .non
  | .bl b, _, _, h, e => by
    cases (show _ = _ from h); cases e; exact .bl b
  | .int i, _, _, h, e => by
    cases (show _ = _ from h); cases e; exact .int i
  | .str i, _, _, h, e => by
    cases (show _ = _ from h); cases e; exact .str i
  | .tup xs, _, _, ⟨a, vs, h1, h2, h3⟩, e => by
    subst h1
    obtain ⟨ys, e1, e2⟩ := Option.map_eq_some_iff.mp (show (toPyL xs).map PyData.tuple = some _ from e)
    subst e2
    exact .tup (SqT.mono sub h2) (toPyL_dp sub h3 e1)
  | .lst xs, _, _, ⟨a, vs, h1, h2, h3⟩, e => by
    subst h1
    obtain ⟨ys, e1, e2⟩ := Option.map_eq_some_iff.mp (show (toPyL xs).map PyData.list = some _ from e)
    subst e2
    exact .lst (SqL.of (sub _ _ h2)) (toPyL_dp sub h3 e1)
  | .ins _ _ _, _, _, _, e => by cases e
  | .mref _, _, _, _, e => by cases e
  | .dic _ _, _, _, _, e => by cases e
  | .scr _, _, _, _, e => by cases e
theorem toPyL_dp {p : List (List Addr)} {G H : Hp} (sub : Same G H) : ∀ {d : List D} {v : List V} {x : List PyData}, DenL K p G d v → toPyL d = some x → DpAll K H v x
  | [], _, _, h, e => by
    cases (show _ = [] from h); cases e; exact .nil
  | y :: ys, _, _, ⟨v, r, h1, h2, h3⟩, e => by
    subst h1
    have e' : (match toPy y, toPyL ys with
      | some y, some ys => some (y :: ys)
      | _, _ => none) = some _ := e
    cases q1 : toPy y with
    | none => rw [q1] at e'; cases e'
    | some z =>
      cases q2 : toPyL ys with
      | none => rw [q1, q2] at e'; cases e'
      | some zs =>
        rw [q1, q2] at e'
        cases e'
        exact .cons (toPy_dp sub h2 q1) (toPyL_dp sub h3 q2)
end
theorem deep_split {neg : Bool} {p : List (List Addr)} {G H : Hp} {S : Sto} {W : Value → Option Addr → Hp → Prop} {Q : VK} {d e : D} {v u : V} (hd : Den K p G d v) (he : Den K p G e u) (r : Rel0 K p S G H) (h : okR (Den K) K p G H W (eqDeep neg d e S) Q) :
    ∃ x y, Dp K H v x ∧ Dp K H u y ∧ SeqAt.shaped x = true ∧ SeqAt.shaped y = true ∧ Q (.bl (if neg then !PyData.eqv x y else PyData.eqv x y)) H := by
  unfold eqDeep at h
  cases q1 : toPy d with
  | none => rw [q1] at h; exact h.elim
  | some x =>
    cases q2 : toPy e with
    | none => rw [q1, q2] at h; exact h.elim
    | some y =>
      rw [q1, q2] at h
      dsimp only at h
      split at h
      · rename_i hz
        exact ⟨x, y, toPy_dp r.sub hd q1, toPy_dp r.sub he q2, hz.1, hz.2, okR.fin (v := V.bl _) h rfl r⟩
      · exact h.elim
theorem by_eq : By2 K (fun x y H Q => rEq x y H Q ∨ rEqD K x y H Q) eqD := by
  intro d e v u p G H S W Q hd he r h
  unfold eqD at h
  split at h
  · cases (show v = _ from hd); cases (show u = _ from he)
    refine .inl ⟨rfl, ?_⟩
    rw [dec_int]
    exact okR.fin (v := V.bl _) h rfl r
  · cases (show v = _ from hd); cases (show u = _ from he)
    refine .inl ⟨rfl, ?_⟩
    rw [dec_str]
    exact okR.fin (v := V.bl _) h rfl r
  · cases (show v = _ from hd); cases (show u = _ from he)
    refine .inl ⟨rfl, ?_⟩
    rw [dec_bl]
    exact okR.fin (v := V.bl _) h rfl r
  · obtain ⟨x, y, k1, k2, k3, k4, k5⟩ := deep_split hd he r h
    exact .inr ⟨x, y, k1, k2, k3, k4, k5⟩
theorem by_ne : By2 K (fun x y H Q => rNe x y H Q ∨ rNeD K x y H Q) neD := by
  intro d e v u p G H S W Q hd he r h
  unfold neD at h
  split at h
  · cases (show v = _ from hd); cases (show u = _ from he)
    refine .inl ⟨rfl, ?_⟩
    rw [dec_int]
    exact okR.fin (v := V.bl _) h rfl r
  · cases (show v = _ from hd); cases (show u = _ from he)
    refine .inl ⟨rfl, ?_⟩
    rw [dec_str]
    exact okR.fin (v := V.bl _) h rfl r
  · cases (show v = _ from hd); cases (show u = _ from he)
    refine .inl ⟨rfl, ?_⟩
    rw [dec_bl]
    exact okR.fin (v := V.bl _) h rfl r
  · obtain ⟨x, y, k1, k2, k3, k4, k5⟩ := deep_split hd he r h
    exact .inr ⟨x, y, k1, k2, k3, k4, k5⟩
theorem by_lt : By2 K (fun x y H Q => rI0 (fun i j => .bl (decide (i < j))) x y H Q ∨ ∃ i j, x = .str i ∧ y = .str j ∧ Q (.bl (decide (i.cps.toList < j.cps.toList))) H) ltD := by
  intro d e v u p G H S W Q hd he r h
  cases d <;> cases e <;> try exact h.elim
  · exact .inl ⟨_, _, hd, he, okR.fin (v := V.bl _) h rfl r⟩
  · exact .inr ⟨_, _, hd, he, okR.fin (v := V.bl _) h rfl r⟩
theorem by_le : By2 K (rI0 fun i j => .bl (decide (i ≤ j))) leD := by
  intro d e v u p G H S W Q hd he r h
  cases d <;> cases e <;> try exact h.elim
  exact ⟨_, _, hd, he, okR.fin (v := V.bl _) h rfl r⟩
theorem by_gt : By2 K (rI0 fun i j => .bl (decide (j < i))) gtD := by
  intro d e v u p G H S W Q hd he r h
  cases d <;> cases e <;> try exact h.elim
  exact ⟨_, _, hd, he, okR.fin (v := V.bl _) h rfl r⟩
theorem by_ge : By2 K (rI0 fun i j => .bl (decide (j ≤ i))) geD := by
  intro d e v u p G H S W Q hd he r h
  cases d <;> cases e <;> try exact h.elim
  exact ⟨_, _, hd, he, okR.fin (v := V.bl _) h rfl r⟩
theorem den_non {p : List (List Addr)} {G : Hp} {d : D} {v : V} (h : Den K p G d v) : decide (v = .non) = (match d with | .non => true | _ => false) := by
  cases d with
  | non => cases (show v = _ from h); rfl
  | bl b => cases (show v = _ from h); rfl
  | int b => cases (show v = _ from h); rfl
  | str b => cases (show v = _ from h); rfl
  | tup xs => obtain ⟨a, vs, rfl, _⟩ := h; rfl
  | lst xs => obtain ⟨a, vs, rfl, _⟩ := h; rfl
  | ins c ns fs => obtain ⟨a, dx, vs, rfl, _⟩ := h; rfl
  | mref i => obtain ⟨a, r, _, rfl⟩ := h; rfl
  | dic k xs => obtain ⟨a, vs, rfl, _⟩ := h; rfl
  | scr xs => obtain ⟨a, rfl, _⟩ := h; rfl
theorem by_isN : By2 K (fun x y H Q => y = .non ∧ Q (.bl (decide (x = .non))) H) isNonD := by
  intro d e v u p G H S W Q hd he r h
  cases e with
  | non =>
    refine ⟨he, ?_⟩
    rw [den_non hd]
    refine okR.fin (d := D.bl _) (v := V.bl _) h ?_ r
    cases d <;> rfl
  | _ => cases d <;> exact h.elim
theorem by_notN : By2 K (fun x y H Q => y = .non ∧ Q (.bl (!decide (x = .non))) H) notNonD := by
  intro d e v u p G H S W Q hd he r h
  cases e with
  | non =>
    refine ⟨he, ?_⟩
    rw [den_non hd]
    refine okR.fin (d := D.bl _) (v := V.bl _) h ?_ r
    cases d <;> rfl
  | _ => cases d <;> exact h.elim
end
section
variable {X : Cx} {W : WX} {a b c : Expr} {es : List Expr} {ma mb mc : DSt → M D} {pos : Pos}
theorem de_eq (hu : X.A.units + 64 < cLine) (ha : DE X W a ma) (hb : DE X W b mb) : DE X W (.Compare a [.Eq] [b] pos) (fun t => do let x ← ma t; let y ← mb t; eqD x y) := de_cmp (op_eq.or (op_eqD hu)) by_eq ha hb (nomark _)
theorem de_ne (hu : X.A.units + 64 < cLine) (ha : DE X W a ma) (hb : DE X W b mb) : DE X W (.Compare a [.NotEq] [b] pos) (fun t => do let x ← ma t; let y ← mb t; neD x y) := de_cmp (op_ne.or (op_neD hu)) by_ne ha hb (nomark _)
theorem de_lt (ha : DE X W a ma) (hb : DE X W b mb) : DE X W (.Compare a [.Lt] [b] pos) (fun t => do let x ← ma t; let y ← mb t; ltD x y) := de_cmp (op_lt.or op_lt_str) by_lt ha hb (nomark _)
theorem de_le (ha : DE X W a ma) (hb : DE X W b mb) : DE X W (.Compare a [.LtE] [b] pos) (fun t => do let x ← ma t; let y ← mb t; leD x y) := de_cmp op_le by_le ha hb (nomark _)
theorem de_gt (ha : DE X W a ma) (hb : DE X W b mb) : DE X W (.Compare a [.Gt] [b] pos) (fun t => do let x ← ma t; let y ← mb t; gtD x y) := de_cmp op_gt by_gt ha hb (nomark _)
theorem de_ge (ha : DE X W a ma) (hb : DE X W b mb) : DE X W (.Compare a [.GtE] [b] pos) (fun t => do let x ← ma t; let y ← mb t; geD x y) := de_cmp op_ge by_ge ha hb (nomark _)
theorem de_is (ha : DE X W a ma) (hb : DE X W b mb) : DE X W (.Compare a [.Is] [b] pos) (fun t => do let x ← ma t; let y ← mb t; isNonD x y) := de_cmp op_isN by_isN ha hb (nomark _)
theorem de_isnot (ha : DE X W a ma) (hb : DE X W b mb) : DE X W (.Compare a [.IsNot] [b] pos) (fun t => do let x ← ma t; let y ← mb t; notNonD x y) := de_cmp op_notN by_notN ha hb (nomark _)
theorem dt_eq (hu : X.A.units + 64 < cLine) (ha : DE X W a ma) (hb : DE X W b mb) : DT X W (.Compare a [.Eq] [b] pos) (fun t => do let x ← (do let x ← ma t; let y ← mb t; eqD x y); asB x) := dt_cmp (op_eq.or (op_eqD hu)) by_eq ha hb (nomark _)
theorem dt_ne (hu : X.A.units + 64 < cLine) (ha : DE X W a ma) (hb : DE X W b mb) : DT X W (.Compare a [.NotEq] [b] pos) (fun t => do let x ← (do let x ← ma t; let y ← mb t; neD x y); asB x) := dt_cmp (op_ne.or (op_neD hu)) by_ne ha hb (nomark _)
theorem dt_lt (ha : DE X W a ma) (hb : DE X W b mb) : DT X W (.Compare a [.Lt] [b] pos) (fun t => do let x ← (do let x ← ma t; let y ← mb t; ltD x y); asB x) := dt_cmp (op_lt.or op_lt_str) by_lt ha hb (nomark _)
theorem dt_le (ha : DE X W a ma) (hb : DE X W b mb) : DT X W (.Compare a [.LtE] [b] pos) (fun t => do let x ← (do let x ← ma t; let y ← mb t; leD x y); asB x) := dt_cmp op_le by_le ha hb (nomark _)
theorem dt_gt (ha : DE X W a ma) (hb : DE X W b mb) : DT X W (.Compare a [.Gt] [b] pos) (fun t => do let x ← (do let x ← ma t; let y ← mb t; gtD x y); asB x) := dt_cmp op_gt by_gt ha hb (nomark _)
theorem dt_ge (ha : DE X W a ma) (hb : DE X W b mb) : DT X W (.Compare a [.GtE] [b] pos) (fun t => do let x ← (do let x ← ma t; let y ← mb t; geD x y); asB x) := dt_cmp op_ge by_ge ha hb (nomark _)
theorem dt_is (ha : DE X W a ma) (hb : DE X W b mb) : DT X W (.Compare a [.Is] [b] pos) (fun t => do let x ← (do let x ← ma t; let y ← mb t; isNonD x y); asB x) := dt_cmp op_isN by_isN ha hb (nomark _)
theorem dt_isnot (ha : DE X W a ma) (hb : DE X W b mb) : DT X W (.Compare a [.IsNot] [b] pos) (fun t => do let x ← (do let x ← ma t; let y ← mb t; notNonD x y); asB x) := dt_cmp op_notN by_notN ha hb (nomark _)
end
end RM

/-! RM: statements, functions. -/
namespace RM
open PySem PySem.Spec PyProof.Rows L2

/-- how a statement ends -/
inductive Ctl where
  | nx (t : DSt) | rt (d : D) | bk (t : DSt) | ct (t : DSt)
/-- what a body looks back to: the state at the entry; what must stay frozen -/
structure Snap where
  p : List (List Addr)
  G : Hp
  H : Hp
  pF : List (List Addr)
  GF : Hp
structure RelF (K : PySem.W.Frag) (n : Snap) (p : List (List Addr)) (G : Hp) (S : Sto) (H : Hp) (t : DSt) (σ : L2.St) (ow : List Addr) : Prop where
  rs : RelS K p G S H t σ ow
  ext : Ext n.p n.G n.H p G H
  own : ∀ a ∈ ow, n.H a = none
  fp : ∃ r, p = n.pF ++ r
  fg : Same n.GF G
theorem RelF.step {K : PySem.W.Frag} {n : Snap} {p p1 : List (List Addr)} {G H G1 H1 : Hp} {S S1 : Sto} {t : DSt} {σ : L2.St} {ow : List Addr} (r : RelF K n p G S H t σ ow) (e : Ext p G H p1 G1 H1) (r1 : Rel0 K p1 S1 G1 H1) : RelF K n p1 G1 S1 H1 t σ ow := by
  obtain ⟨q, e1⟩ := r.fp
  obtain ⟨q2, e2⟩ := e.pp
  exact ⟨r.rs.ext e r1, r.ext.trans e, r.own, ⟨q ++ q2, by rw [e2, e1, List.append_assoc]⟩, r.fg.trans e.g⟩
abbrev Wf := Value → Option Addr → Hp → Prop
abbrev Wf.x (W : Wf) : WX := fun c d _ H => W c d H
def okS (K : PySem.W.Frag) (W : Wf) (n : Snap) (r : Res Ctl) (E : Ends) : Prop := match r with
  | .ok (.nx t') S' => ∀ p' G' H' σ' ow', RelF K n p' G' S' H' t' σ' ow' → E.nx σ' H'
  | .ok (.bk t') S' => ∀ p' G' H' σ' ow', RelF K n p' G' S' H' t' σ' ow' → E.bk σ' H'
  | .ok (.ct t') S' => ∀ p' G' H' σ' ow', RelF K n p' G' S' H' t' σ' ow' → E.ct σ' H'
  | .ok (.rt d) S' => ∀ v p' G' H', Den K p' G' d v → Rel0 K p' S' G' H' → Ext n.p n.G n.H p' G' H' → E.rt v H'
  | .exc e S' => ∀ cls dd p' G' H', ExcAt K p' G' e cls dd → Rel0 K p' S' G' H' → Ext n.p n.G n.H p' G' H' → W cls dd H'
  | .stuck => False
def tDS (K : PySem.W.Frag) (W : Wf) (m : DSt → M Ctl) : TS := fun E σ H => ∃ n t p G S ow, RelF K n p G S H t σ ow ∧ okS K W n (m t S) E
abbrev DS (X : Cx) (W : Wf) (st : Stmt) (m : DSt → M Ctl) : Prop := PS X st (tDS X.K W m)
abbrev DSs (X : Cx) (W : Wf) (st : List Stmt) (m : DSt → M Ctl) : Prop := PSs X st (tDS X.K W m)
theorem PS.imp {X : Cx} {st : Stmt} {t t' : TS} (h : PS X st t) (k : ∀ E σ H, t' E σ H → t E σ H) : PS X st t' := ⟨fun pins s σ H E I q => h.run pins s σ H E I (k _ _ _ q)⟩
theorem PSs.imp {X : Cx} {st : List Stmt} {t t' : TS} (h : PSs X st t) (k : ∀ E σ H, t' E σ H → t E σ H) : PSs X st t' := ⟨fun pins s σ H E I q => h.run pins s σ H E I (k _ _ _ q)⟩
/-- from a statement's part (an expression's result) on -/
theorem okS.seq {α β : Type} {R1 : List (List Addr) → Hp → α → β → Prop} {K : PySem.W.Frag} {W : Wf} {n : Snap} {E : Ends} {p : List (List Addr)} {G H : Hp} {S : Sto} {t : DSt} {σ : L2.St} {ow : List Addr} {m : M α} {f : α → M Ctl} {Q1 : β → Hp → Prop}
    (h : okS K W n ((m >>= f) S) E) (r : RelF K n p G S H t σ ow)
    (k : ∀ d S1 v p1 G1 H1, m S = .ok d S1 → R1 p1 G1 d v → RelF K n p1 G1 S1 H1 t σ ow → Ext p G H p1 G1 H1 → okS K W n (f d S1) E → Q1 v H1) : okR R1 K p G H (fun c d H' => W c d H') (m S) Q1 := by
  have h' : okS K W n ((m S).andThen f) E := h
  cases e : m S with
  | ok d S1 =>
    rw [e] at h'
    exact fun v p1 G1 H1 a b c => k d S1 v p1 G1 H1 e a (r.step c b) c h'
  | exc x S1 =>
    rw [e] at h'
    exact fun cls dd p1 G1 H1 a b c => h' cls dd p1 G1 H1 a b (r.ext.trans c)
  | stuck =>
    rw [e] at h'
    exact h'
/-- block ends -/
def seqC (u : DSt → M Ctl) : Ctl → M Ctl
  | .nx t => u t
  | c => pure c
section
variable {X : Cx} {W : Wf} {st : Stmt} {rest : List Stmt} {m u : DSt → M Ctl} {a b c e : Expr} {ma mb : DSt → M D} {mt : DSt → M Bool} {pos : Pos}
theorem ds_nil : DSs X W [] (fun t => pure (.nx t)) := PSs.imp pss_nil fun E σ H ⟨n, t, p, G, S, ow, r, h⟩ => h p G H σ ow r
theorem okS.imp {K : PySem.W.Frag} {W : Wf} {n : Snap} {E E' : Ends} {r : Res Ctl} (h : okS K W n r E) (k1 : ∀ σ H, E.nx σ H → E'.nx σ H) (k2 : ∀ σ H, E.bk σ H → E'.bk σ H) (k3 : ∀ σ H, E.ct σ H → E'.ct σ H) (k4 : ∀ v H, E.rt v H → E'.rt v H) : okS K W n r E' := by
  cases r with
  | ok c S' =>
    cases c with
    | nx t => exact fun p' G' H' σ' ow' r => k1 _ _ (h p' G' H' σ' ow' r)
    | bk t => exact fun p' G' H' σ' ow' r => k2 _ _ (h p' G' H' σ' ow' r)
    | ct t => exact fun p' G' H' σ' ow' r => k3 _ _ (h p' G' H' σ' ow' r)
    | rt d => exact fun v p' G' H' a b c => k4 _ _ (h v p' G' H' a b c)
  | exc x S' => exact h
  | stuck => exact h
/-- a first part's ends, then the rest -/
theorem okS.then {K : PySem.W.Frag} {W : Wf} {n : Snap} {E E1 : Ends} {r : Res Ctl} (h : okS K W n (r.andThen (seqC u)) E) (kb : E.bk = E1.bk) (kc : E.ct = E1.ct) (kr : E.rt = E1.rt)
    (k : ∀ t' S' p' G' H' σ' ow', RelF K n p' G' S' H' t' σ' ow' → okS K W n (u t' S') E → E1.nx σ' H') : okS K W n r E1 := by
  cases r with
  | ok c S' =>
    cases c with
    | nx t => exact fun p' G' H' σ' ow' r => k t S' p' G' H' σ' ow' r h
    | bk t => intro p' G' H' σ' ow' r; rw [← kb]; exact h p' G' H' σ' ow' r
    | ct t => intro p' G' H' σ' ow' r; rw [← kc]; exact h p' G' H' σ' ow' r
    | rt d => intro v p' G' H' a b c; rw [← kr]; exact h v p' G' H' a b c
  | exc x S' => exact h
  | stuck => exact h
theorem ds_cons (h1 : DS X W st m) (h2 : DSs X W rest u) : DSs X W (st :: rest) (fun t => do let c ← m t; seqC u c) := by
  refine PSs.imp (pss_cons h1 h2) fun E σ H ⟨n, t, p, G, S, ow, r, h⟩ => ?_
  refine ⟨n, t, p, G, S, ow, r, okS.then (u := u) h rfl rfl rfl fun t' S' p' G' H' σ' ow' r' h' => ?_⟩
  exact ⟨n, t', p', G', S', ow', r', h'⟩
theorem ds_one (h1 : DS X W st m) : DSs X W [st] m := pss_one h1
theorem ds_pass : DS X W (.Pass pos) (fun t => pure (.nx t)) := PS.imp ps_pass fun E σ H ⟨n, t, p, G, S, ow, r, h⟩ => h p G H σ ow r
theorem ds_break : DS X W (.Break pos) (fun t => pure (.bk t)) := PS.imp ps_break fun E σ H ⟨n, t, p, G, S, ow, r, h⟩ => h p G H σ ow r
theorem ds_continue : DS X W (.Continue pos) (fun t => pure (.ct t)) := PS.imp ps_continue fun E σ H ⟨n, t, p, G, S, ow, r, h⟩ => h p G H σ ow r
theorem ds_ret (he : DE X W.x e ma) : DS X W (.Return (some e) pos) (fun t => do let x ← ma t; pure (.rt x)) := by
  refine PS.imp (ps_ret he) fun E σ H ⟨n, t, p, G, S, ow, r, h⟩ => ?_
  exact ⟨t, p, G, S, ow, r.rs, okS.seq h r fun d S1 v p1 G1 H1 e1 dn r1 x1 h1 => h1 v p1 G1 H1 dn r1.rs.rel r1.ext⟩
theorem ds_retN : DS X W (.Return none pos) (fun _ => pure (.rt .non)) := PS.imp ps_retN fun E σ H ⟨n, t, p, G, S, ow, r, h⟩ => h .non p G H rfl r.rs.rel r.ext
theorem ds_expr (he : DE X W.x e ma) (hs : swapsWith e none pos.line X.env = pure false := by rfl) : DS X W (.Expr e pos) (fun t => do let _ ← ma t; pure (.nx t)) := by
  refine PS.imp (ps_expr he hs) fun E σ H ⟨n, t, p, G, S, ow, r, h⟩ => ?_
  exact ⟨t, p, G, S, ow, r.rs, okS.seq h r fun d S1 v p1 G1 H1 e1 dn r1 x1 h1 => h1 p1 G1 H1 σ ow r1⟩
theorem ds_if {xs ys : List Stmt} (hc : DT X W.x c mt) (ha : DSs X W xs m) (hb : DSs X W ys u) : DS X W (.If c xs ys pos) (fun t => do if ← mt t then m t else u t) := by
  refine PS.imp (ps_if hc ha hb) fun E σ H ⟨n, t, p, G, S, ow, r, h⟩ => ?_
  refine ⟨t, p, G, S, ow, r.rs, okS.seq h r fun d S1 v p1 G1 H1 e1 dn r1 x1 h1 => ?_⟩
  cases dn
  cases d with
  | true => exact iteT ⟨n, t, p1, G1, S1, ow, r1, h1⟩
  | false => exact iteF ⟨n, t, p1, G1, S1, ow, r1, h1⟩
/-- code that is never reached -/
theorem ds_never : DS X W st (fun _ => stuck) := PS.imp ps_never fun E σ H ⟨n, t, p, G, S, ow, r, h⟩ => h.elim
theorem dss_never {sts : List Stmt} : DSs X W sts (fun _ => stuck) := PSs.imp pss_never fun E σ H ⟨n, t, p, G, S, ow, r, h⟩ => h.elim

/-! ### slots are set -/
theorem SlotsR.len {K : PySem.W.Frag} {p : List (List Addr)} {G H : Hp} : ∀ {t : DSt} {σ : L2.St} {ow : List Addr}, SlotsR K p G H t σ ow → σ.length = t.length
  | [], _, _, h => by rw [h.1]; rfl
  | _ :: _, _, _, ⟨v, r, l, k, h1, h2, h3, h4⟩ => by rw [h1, List.length_cons, List.length_cons, SlotsR.len h4]
/-- the i-th slot gets another content l' -/
theorem SlotsR.set {K : PySem.W.Frag} {p : List (List Addr)} {G H : Hp} {s : Option DV} {v : Option V} {l' : List Addr} (hs : SlotR K p G H s v l') : ∀ {t : DSt} {σ : L2.St} {ow : List Addr} (i : Nat), i < t.length → SlotsR K p G H t σ ow →
    ∃ a l b, ow = a ++ l ++ b ∧ SlotsR K p G H (t.set i s) (σ.set i v) (a ++ l' ++ b)
  | _ :: _, _, _, 0, _, ⟨v0, r, l, k, h1, h2, h3, h4⟩ => by
    refine ⟨[], l, k, by rw [h2]; rfl, ?_⟩
    rw [h1]
    exact ⟨v, r, l', k, rfl, rfl, hs, h4⟩
  | _ :: _, _, _, i + 1, hi, ⟨v0, r, l, k, h1, h2, h3, h4⟩ => by
    obtain ⟨a, x, b, e, q⟩ := SlotsR.set hs i (by simpa using hi) h4
    refine ⟨l ++ a, x, b, by rw [h2, e]; simp, ?_⟩
    rw [h1]
    refine ⟨v0, _, l, a ++ l' ++ b, rfl, by simp, h3, q⟩
theorem nodup_mid {α : Type} {P a l b : List α} (h : (P ++ (a ++ l ++ b)).Nodup) : (P ++ (a ++ [] ++ b)).Nodup := by
  have : (P ++ (a ++ [] ++ b)).Sublist (P ++ (a ++ l ++ b)) := by
    refine List.Sublist.append (List.Sublist.refl _) (List.Sublist.append (List.Sublist.append (List.Sublist.refl _) (List.nil_sublist _)) (List.Sublist.refl _))
  exact h.sublist this
/-- a slot gets plain data (or nothing) -/
theorem RelS.set0 {K : PySem.W.Frag} {p : List (List Addr)} {G H : Hp} {S : Sto} {t : DSt} {σ : L2.St} {ow : List Addr} {s : Option DV} {v : Option V} (r : RelS K p G S H t σ ow) {i : Nat} (hi : i < t.length) (hs : SlotR K p G H s v []) :
    ∃ ow', (∀ a ∈ ow', a ∈ ow) ∧ RelS K p G S H (t.set i s) (σ.set i v) ow' := by
  obtain ⟨a, l, b, e, q⟩ := SlotsR.set hs i hi r.sl
  subst e
  refine ⟨a ++ [] ++ b, fun x hx => ?_, r.rel, q, nodup_mid r.nd, fun x hx => r.gn x ?_⟩
  · simp at hx ⊢; rcases hx with z | z <;> simp [z]
  · simp at hx ⊢; rcases hx with z | z <;> simp [z]
theorem RelF.set0 {K : PySem.W.Frag} {n : Snap} {p : List (List Addr)} {G H : Hp} {S : Sto} {t : DSt} {σ : L2.St} {ow : List Addr} {s : Option DV} {v : Option V} (r : RelF K n p G S H t σ ow) {i : Nat} (hi : i < t.length) (hs : SlotR K p G H s v []) :
    ∃ ow', RelF K n p G S H (t.set i s) (σ.set i v) ow' := by
  obtain ⟨ow', k, q⟩ := r.rs.set0 hi hs
  exact ⟨ow', q, r.ext, fun a ha => r.own a (k a ha), r.fp, r.fg⟩
def setV (t : DSt) (i : Nat) (d : D) : Option DSt := if i < t.length then some (t.set i (some (.val d))) else none
def liftO {α : Type} : Option α → M α
  | some x => pure x
  | none => stuck
/-! ### targets -/
def gD (K : PySem.W.Frag) (W : Wf) (g : D → DSt → Option DSt) : TG := fun v σ H Q => ∃ n d t p G S ow, RelF K n p G S H t σ ow ∧ Den K p G d v ∧ ∃ t', g d t = some t' ∧ ∀ p' G' H' σ' ow', RelF K n p' G' S H' t' σ' ow' → Q σ' H'
abbrev DG (X : Cx) (W : Wf) (tg : Expr) (g : D → DSt → Option DSt) : Prop := PG X tg (gD X.K W g)
theorem PG.imp {X : Cx} {e : Expr} {t t' : TG} (h : PG X e t) (k : ∀ v σ H Q, t' v σ H Q → t v σ H Q) : PG X e t' := ⟨fun pins s σ H v u Q I r q => h.run pins s σ H v u Q I r (k _ _ _ _ q)⟩
theorem dg_name (i : Nat) {x : Str} (hN : X.N.Nodup) (hi : X.N[i]? = some x) (hx : Loc X.env.scope x) (hf : X.fn x = true ∨ X.env.scope.names.lookup x = some .local := by first | exact .inl rfl | exact .inr rfl | assumption) : DG X W (.Name x pos) (fun d t => setV t i d) := by
  refine PG.imp (pg_name hN hi hx hf) fun v σ H Q ⟨n, d, t, p, G, S, ow, r, dn, t', e, h⟩ => ?_
  have e : setV t i d = some t' := e
  unfold setV at e
  by_cases hi : i < t.length
  · rw [if_pos hi] at e
    cases e
    obtain ⟨ow', r'⟩ := r.set0 hi (s := some (.val d)) (v := some v) ⟨rfl, v, rfl, dn⟩
    exact h p G H _ ow' r'
  · rw [if_neg hi] at e
    cases e
/-- name = e -/
theorem ds_set (i : Nat) {x : Str} {pos' : Pos} (hN : X.N.Nodup) (hi : X.N[i]? = some x) (hx : Loc X.env.scope x) (he : DE X W.x e ma) (hs : swapsWith e (some (.Name x pos')) pos.line X.env = pure false := by rfl) (hf : X.fn x = true ∨ X.env.scope.names.lookup x = some .local := by first | exact .inl rfl | exact .inr rfl | assumption) :
    DS X W (.Assign [.Name x pos'] e pos) (fun t => do let d ← ma t; let t' ← liftO (setV t i d); pure (.nx t')) := by
  refine PS.imp (L2.ps_set hN hi hx he hs hf) fun E σ H ⟨n, t, p, G, S, ow, r, h⟩ => ?_
  refine ⟨t, p, G, S, ow, r.rs, okS.seq h r fun d S1 v p1 G1 H1 e1 dn r1 x1 h1 => ?_⟩
  unfold setV at h1
  by_cases hi : i < t.length
  · rw [if_pos hi] at h1
    obtain ⟨ow', r'⟩ := r1.set0 hi (s := some (.val d)) (v := some v) ⟨rfl, v, rfl, dn⟩
    exact h1 p1 G1 H1 _ ow' r'
  · rw [if_neg hi] at h1
    exact h1.elim
end
/-! ### functions -/
def startD (n : Nat) (ds : List D) : DSt := ds.map (fun d => some (.val d)) ++ List.replicate (n - ds.length) none
def endC : Ctl → M D
  | .nx _ => pure .non
  | .rt d => pure d
  | _ => stuck
def runB (n : Nat) (m : DSt → M Ctl) (ds : List D) : M D := do let c ← m (startD n ds); endC c
/-- the promise of a def by data: k parameters -/
def spD (K : PySem.W.Frag) (k : Nat) (f : List D → M D) : Sp := fun vs H Q E => ∃ ds p G S, ds.length = k ∧ DenL K p G ds vs ∧ Rel0 K p S G H ∧ okR (Den K) K p G H E (f ds S) Q
theorem spD.len {K : PySem.W.Frag} {k : Nat} {f : List D → M D} (vs : List V) (H : Hp) (Q : VK) (E : XK) (h : spD K k f vs H Q E) : vs.length = k := by
  obtain ⟨ds, p, G, S, e, dn, _⟩ := h
  rw [dn.length, e]
theorem slots_rep {K : PySem.W.Frag} {p : List (List Addr)} {G H : Hp} : ∀ k : Nat, SlotsR K p G H (List.replicate k none) (List.replicate k none) []
  | 0 => ⟨rfl, rfl⟩
  | k + 1 => ⟨none, List.replicate k none, [], [], rfl, rfl, rfl, slots_rep k⟩
theorem slots_start {K : PySem.W.Frag} {p : List (List Addr)} {G H : Hp} {k : Nat} : ∀ {ds : List D} {vs : List V}, DenL K p G ds vs → SlotsR K p G H (ds.map (fun d => some (.val d)) ++ List.replicate k none) (vs.map some ++ List.replicate k none) []
  | [], _, h => by
    cases (show _ = [] from h)
    exact slots_rep k
  | d :: ds, _, ⟨v, r, h1, h2, h3⟩ => by
    subst h1
    exact ⟨some v, _, [], [], rfl, rfl, ⟨rfl, v, rfl, h2⟩, slots_start h3⟩
section
variable {P : Program} {w : World} {K : PySem.W.Frag} {mg : Str → Option Value} {base : Heap} {x qual : Str} {params : Arguments} {body : List Stmt} {scope : Scope} {dvs : List V} {kws : List (Str × V)} {f : Addr} {fd : FuncData}
/-- the entry of a body -/
theorem tDS.enter {K : PySem.W.Frag} {N : List Str} {m : DSt → M Ctl} {ds : List D} {vs : List V} {p : List (List Addr)} {G H : Hp} {S : Sto} {Q : VK} {E : XK} (dn : DenL K p G ds vs) (r : Rel0 K p S G H) (h : okR (Den K) K p G H E (runB N.length m ds S) Q) :
    tDS K E m { nx := fun _ H' => Q .non H', rt := Q } (L2.start N vs) H := by
  refine ⟨⟨p, G, H, p, G⟩, startD N.length ds, p, G, S, [], ⟨⟨r, ?_, by simpa using r.nd, by simp⟩, Ext.refl _ _ _, by simp, ⟨[], by simp⟩, Same.refl _⟩, ?_⟩
  · unfold L2.start startD
    rw [← dn.length]
    exact slots_start dn
  · have h' : okR (Den K) K p G H E (((m (startD N.length ds)) S).andThen endC) Q := h
    cases e : m (startD N.length ds) S with
    | ok c S' =>
      rw [e] at h'
      cases c with
      | nx t => exact fun p' G' H' σ' ow' r' => h' .non p' G' H' rfl r'.rs.rel r'.ext
      | rt d => exact fun v p' G' H' a b c => h' v p' G' H' a b c
      | bk t => exact h'.elim
      | ct t => exact h'.elim
    | exc z S' =>
      rw [e] at h'
      exact h'
    | stuck =>
      rw [e] at h'
      exact h'
end
end RM

/-! RM: calls of own defs, what is walked, loops, comprehensions. -/
namespace RM
open PySem PySem.Spec PyProof.Rows L2

abbrev W0 : WX := fun _ _ _ _ => False
abbrev F0 : Wf := fun _ _ _ => False
def noE {α : Type} (m : M α) : M α := fun s => match m s with
  | .exc _ _ => .stuck
  | r => r
def argsD (n : Nat) (g : List D → M D) (xs : List D) : M D := if xs.length = n then g xs else stuck
section
variable {X : Cx} {W : WX} {a b c : Expr} {es : List Expr} {ma mb mc : DSt → M D} {ms : DSt → M (List D)} {pos p : Pos} {k : Nat} {f : Addr} {fd : FuncData} {ps : List Str} {g : List D → M D} {x : Str} {dvs : List V} {ds : List Value} {dds : List D}
theorem okR.args {K : PySem.W.Frag} {q : List (List Addr)} {G H : Hp} {S : Sto} {Q : VK} {xs : List D} {n : Nat} {W : Value → Option Addr → Hp → Prop} (h : okR (Den K) K q G H W (argsD n g xs S) Q) : xs.length = n ∧ okR (Den K) K q G H W (g xs S) Q := by
  unfold argsD at h
  by_cases e : xs.length = n
  · rw [if_pos e] at h
    exact ⟨e, h⟩
  · rw [if_neg e] at h
    exact h.elim
end

/-! ### what is walked -/
structure ItOk (K : PySem.W.Frag) (p : List (List Addr)) (G : Hp) (ds : List D) (J : It) : Prop where
  go : ∀ i H, Same G H → i < ds.length → J.go i H
  stop : ∀ H, Same G H → J.stop ds.length H
  yld : ∀ (i : Nat) (d : D) (H : Hp) (x : V) (H' : Hp), ds[i]? = some d → Same G H → J.yld i H x H' → (H' = H ∧ Den K p G d x) ∨ (∃ T vs es, x = .ref T ∧ H T = none ∧ H' = upd H T (.tup vs) ∧ d = .tup es ∧ DenL K p G es vs)
def tDI (K : PySem.W.Frag) (W : WX) (m : DSt → M (List D)) : TI := fun σ H R => ∃ t p G S ow, RelS K p G S H t σ ow ∧ okR (ItOk K) K p G H (fun c d H' => W c d σ H') (m t S) R
abbrev DI (X : Cx) (W : WX) (tg e : Expr) (m : DSt → M (List D)) : Prop := PI X tg e (tDI X.K W m)
theorem PI.imp {X : Cx} {tg e : Expr} {t t' : TI} (h : PI X tg e t) (k : ∀ σ H Q, t' σ H Q → t σ H Q) : PI X tg e t' := ⟨fun pins s σ H Q I q => h.run pins s σ H Q I (k _ _ _ q)⟩
theorem PI.or {X : Cx} {tg e : Expr} {t t' : TI} (h : PI X tg e t) (h' : PI X tg e t') : PI X tg e (fun σ H Q => t σ H Q ∨ t' σ H Q) := ⟨fun pins s σ H Q I q => by
  rcases q with q | q
  · exact h.run pins s σ H Q I q
  · exact h'.run pins s σ H Q I q⟩
def signs (x : Str) : List D := x.cps.toList.map fun c => .str ⟨#[c]⟩
def iterD : D → M (List D)
  | .lst xs => pure xs
  | .tup xs => pure xs
  | .str x => pure (signs x)
  | .scr ns => pure (ns.map .int)
  | _ => stuck
section
variable {K : PySem.W.Frag} {p : List (List Addr)} {G : Hp}
theorem itok_list {a : Addr} {ds : List D} {vs : List V} (h : SqL K G a vs) (dn : DenL K p G ds vs) : ItOk K p G ds (Itl K a) where
  go := fun i H s hi => by
    have hl := dn.length
    exact ⟨vs, vs[i], s.seq h, by simp [hl, hi]⟩
  stop := fun H s => ⟨vs, s.seq h, by rw [dn.length]; exact Nat.le_refl _⟩
  yld := fun i d H x H' e s y => by
    obtain ⟨rfl, y⟩ := y
    obtain ⟨v, e1, e2⟩ := dn.get e
    have := y vs (s.seq h)
    rw [e1] at this
    cases this
    exact .inl ⟨rfl, e2⟩
theorem itok_tup {a : Addr} {ds : List D} {vs : List V} (h : SqT K G a vs) (dn : DenL K p G ds vs) : ItOk K p G ds (Itt K a) where
  go := fun i H s hi => by
    have hl := dn.length
    exact ⟨vs, vs[i], SqT.mono s h, by simp [hl, hi]⟩
  stop := fun H s => ⟨vs, SqT.mono s h, by rw [dn.length]; exact Nat.le_refl _⟩
  yld := fun i d H x H' e s y => by
    obtain ⟨rfl, y⟩ := y
    obtain ⟨v, e1, e2⟩ := dn.get e
    have := y vs (SqT.mono s h)
    rw [e1] at this
    cases this
    exact .inl ⟨rfl, e2⟩
theorem itok_str {x : Str} : ItOk K p G (signs x) (Its x) where
  go := fun i H s hi => by
    unfold signs at hi
    rw [List.length_map] at hi
    exact hi
  stop := fun H s => by
    show x.cps.size ≤ (signs x).length
    unfold signs
    rw [List.length_map]
    exact Nat.le_refl _
  yld := fun i d H v H' e s y => by
    obtain ⟨rfl, c, y1, y2⟩ := y
    refine .inl ⟨rfl, ?_⟩
    unfold signs at e
    rw [List.getElem?_map] at e
    have : x.cps.toList[i]? = some c := by rw [Array.getElem?_toList]; exact y1
    rw [this] at e
    cases e
    exact y2
theorem denL_ints : ∀ ns : List Int, DenL K p G (ns.map .int) (ns.map .int)
  | [] => rfl
  | n :: ns => ⟨_, _, rfl, rfl, denL_ints ns⟩
end
section
variable {X : Cx} {W : WX} {tg a b : Expr} {ma mb : DSt → M D} {ms : DSt → M (List D)} {pos pp : Pos}
/-- a list, a tuple, a text, the script -/
theorem di_any (ha : DE X W a ma) : DI X W tg a (fun t => do let x ← ma t; iterD x) := by
  refine PI.imp (PI.or (pi_list ha) (PI.or (pi_tup ha) (pi_str ha))) fun σ H R ⟨t, p, G, S, ow, r, h⟩ => ?_
  have h' : okR (ItOk X.K) X.K p G H (fun c d H' => W c d σ H') ((ma t S).andThen iterD) R := h
  cases e : ma t S with
  | stuck => rw [e] at h'; exact h'.elim
  | exc z S1 =>
    rw [e] at h'
    exact .inl ⟨t, p, G, S, ow, r, by rw [e]; exact h'⟩
  | ok d S1 =>
    rw [e] at h'
    cases d with
    | lst xs =>
      refine .inl ⟨t, p, G, S, ow, r, ?_⟩
      rw [e]
      intro v p1 G1 H1 dn r1 x1
      obtain ⟨l, vs, rfl, hl, hv⟩ := dn
      exact ⟨l, rfl, ⟨vs, SqL.of (r1.sub _ _ hl)⟩, h' _ p1 G1 H1 (itok_list (SqL.of hl) hv) r1 x1⟩
    | scr ns =>
      refine .inl ⟨t, p, G, S, ow, r, ?_⟩
      rw [e]
      intro v p1 G1 H1 dn r1 x1
      obtain ⟨l, rfl, hl⟩ := dn
      exact ⟨l, rfl, ⟨_, r1.sub.seq hl⟩, h' _ p1 G1 H1 (itok_list hl (denL_ints ns)) r1 x1⟩
    | tup xs =>
      refine .inr (.inl ⟨t, p, G, S, ow, r, ?_⟩)
      rw [e]
      intro v p1 G1 H1 dn r1 x1
      obtain ⟨l, vs, rfl, hl, hv⟩ := dn
      exact ⟨l, rfl, ⟨vs, SqT.mono r1.sub hl⟩, h' _ p1 G1 H1 (itok_tup hl hv) r1 x1⟩
    | str x =>
      refine .inr (.inr ⟨t, p, G, S, ow, r, ?_⟩)
      rw [e]
      intro v p1 G1 H1 dn r1 x1
      exact ⟨x, dn, h' _ p1 G1 H1 itok_str r1 x1⟩
    | _ => exact h'.elim
/-- range(n), range(a, b) -/
def rangeL (lo hi : Int) : List D := (List.range (hi - lo).toNat).map fun i => .int (lo + (i : Nat))
def rangeD : List D → M (List D)
  | [.int j] => if -(2 ^ 62) ≤ j ∧ j < 2 ^ 62 then pure (rangeL 0 j) else stuck
  | [.int i, .int j] => if -(2 ^ 62) ≤ i ∧ i < 2 ^ 62 ∧ -(2 ^ 62) ≤ j ∧ j < 2 ^ 62 then pure (rangeL i j) else stuck
  | _ => stuck
theorem itok_range {K : PySem.W.Frag} {p : List (List Addr)} {G : Hp} (lo hi : Int) : ItOk K p G (rangeL lo hi) (Itr lo (hi - lo).toNat) where
  go := fun i H s h => by
    unfold rangeL at h
    rw [List.length_map, List.length_range] at h
    exact h
  stop := fun H s => by
    unfold rangeL
    rw [List.length_map, List.length_range]
    exact Nat.le_refl _
  yld := fun i d H v H' e s y => by
    obtain ⟨rfl, y⟩ := y
    refine .inl ⟨rfl, ?_⟩
    unfold rangeL at e
    rw [List.getElem?_map] at e
    obtain ⟨j, e1, e2⟩ := Option.map_eq_some_iff.mp e
    obtain ⟨hl, hj⟩ := List.getElem?_eq_some_iff.mp e1
    rw [List.getElem_range] at hj
    subst e2
    subst y
    rw [← hj]
    rfl
theorem denL1 {K : PySem.W.Frag} {p : List (List Addr)} {G : Hp} {d : D} {vs : List V} (h : DenL K p G [d] vs) : ∃ v, vs = [v] ∧ Den K p G d v := by
  obtain ⟨v, r, h1, h2, h3⟩ := h
  cases (show r = [] from h3)
  exact ⟨v, h1, h2⟩
theorem denL2 {K : PySem.W.Frag} {p : List (List Addr)} {G : Hp} {d e : D} {vs : List V} (h : DenL K p G [d, e] vs) : ∃ v u, vs = [v, u] ∧ Den K p G d v ∧ Den K p G e u := by
  obtain ⟨v, r, h1, h2, h3⟩ := h
  obtain ⟨u, rfl, h4⟩ := denL1 h3
  exact ⟨v, u, h1, h2, h4⟩
theorem rangeD_ok {K : PySem.W.Frag} {p : List (List Addr)} {G H : Hp} {S : Sto} {W : Value → Option Addr → Hp → Prop} {R : It → Hp → Prop} {ds : List D} {vs : List V} (dn : DenL K p G ds vs) (r : Rel0 K p S G H) (h : okR (ItOk K) K p G H W (rangeD ds S) R) :
    (∃ j : Int, vs = [.int j] ∧ -(2 ^ 62) ≤ j ∧ j < 2 ^ 62 ∧ R (Itr 0 j.toNat) H) ∨ (∃ i j : Int, vs = [.int i, .int j] ∧ (-(2 ^ 62) ≤ i ∧ i < 2 ^ 62 ∧ -(2 ^ 62) ≤ j ∧ j < 2 ^ 62) ∧ R (Itr i (j - i).toNat) H) := by
  unfold rangeD at h
  split at h
  · rename_i j
    obtain ⟨v, rfl, e⟩ := denL1 dn
    cases (show v = _ from e)
    by_cases hz : -(2 ^ 62) ≤ j ∧ j < 2 ^ 62
    · rw [if_pos hz] at h
      have q := okR.fin (v := Itr 0 (j - 0).toNat) h (itok_range 0 j) r
      rw [Int.sub_zero] at q
      exact .inl ⟨j, rfl, hz.1, hz.2, q⟩
    · rw [if_neg hz] at h
      exact h.elim
  · rename_i i j
    obtain ⟨v, u, rfl, e1, e2⟩ := denL2 dn
    cases (show v = _ from e1)
    cases (show u = _ from e2)
    by_cases hz : -(2 ^ 62) ≤ i ∧ i < 2 ^ 62 ∧ -(2 ^ 62) ≤ j ∧ j < 2 ^ 62
    · rw [if_pos hz] at h
      exact .inr ⟨i, j, rfl, hz, okR.fin (v := Itr i (j - i).toNat) h (itok_range i j) r⟩
    · rw [if_neg hz] at h
      exact h.elim
  · exact h.elim
theorem di_range1 (hg : Gl X "range") (hm : X.mg "range" = none) (ha : DE X W a ma) (hs : starEach [a] X.env = [(false, eval a X.env)] := by rfl) : DI X W tg (.Call (.Name "range" pp) [a] [] pos) (fun t => do let x ← ma t; rangeD [x]) := by
  refine PI.imp (pi_range1 hg hm (pa_cons ha pa_nil hs) hs) fun σ H R ⟨t, p, G, S, ow, r, h⟩ => ?_
  refine ⟨t, p, G, S, ow, r, okR.seq h fun d S1 v p1 G1 H1 e1 dn r1 x1 h1 => ?_⟩
  rcases rangeD_ok (DenL.one dn) r1 h1 with q | ⟨i, j, e, _⟩
  · exact q
  · cases e
theorem di_range2 (hg : Gl X "range") (hm : X.mg "range" = none) (ha : DE X W a ma) (hb : DE X W b mb) (hs : starEach [a, b] X.env = [(false, eval a X.env), (false, eval b X.env)] := by rfl) (hs2 : starEach [b] X.env = [(false, eval b X.env)] := by rfl) :
    DI X W tg (.Call (.Name "range" pp) [a, b] [] pos) (fun t => do let x ← ma t; let y ← mb t; rangeD [x, y]) := by
  refine PI.imp (pi_range2 hg hm (pa_cons ha (pa_cons hb pa_nil hs2) (by rw [hs, hs2])) hs hs2) fun σ H R ⟨t, p, G, S, ow, r, h⟩ => ?_
  refine ⟨t, p, G, S, ow, r, okR.seq h fun d S1 v p1 G1 H1 e1 dn r1 x1 h1 => ?_⟩
  refine tD.next r x1 r1 (okR.seq h1 fun d2 S2 v2 p2 G2 H2 e2 dn2 r2 x2 h2 => ?_)
  rcases rangeD_ok (DenL.cons (dn.mono x2.pp x2.g) (DenL.one dn2)) r2 h2 with ⟨j, e, _⟩ | q
  · cases e
  · exact q
end

/-! ### for -/
def forD (step : D → DSt → M Ctl) : List D → DSt → M Ctl
  | [], t => pure (.nx t)
  | d :: ds, t => do
    let c ← step d t
    match c with
    | .nx t' => forD step ds t'
    | .ct t' => forD step ds t'
    | .bk t' => pure (.nx t')
    | .rt x => pure (.rt x)
def stepD (g : D → DSt → Option DSt) (b : DSt → M Ctl) (d : D) (t : DSt) : M Ctl := do let t' ← liftO (g d t); b t'
section
variable {X : Cx} {W : Wf} {tg it : Expr} {mi : DSt → M (List D)} {g : D → DSt → Option DSt} {mb : DSt → M Ctl} {body : List Stmt} {pos : Pos}
theorem RelF.frozen {K : PySem.W.Frag} {n : Snap} {p : List (List Addr)} {G H : Hp} {S : Sto} {t : DSt} {σ : L2.St} {ow : List Addr} (r : RelF K n p G S H t σ ow) : RelF K ⟨n.p, n.G, n.H, p, G⟩ p G S H t σ ow := ⟨r.rs, r.ext, r.own, ⟨[], by simp⟩, Same.refl _⟩
theorem RelF.thaw {K : PySem.W.Frag} {n : Snap} {p p' : List (List Addr)} {G H G' H' : Hp} {S S' : Sto} {t t' : DSt} {σ σ' : L2.St} {ow ow' : List Addr} (r : RelF K n p G S H t σ ow) (r' : RelF K ⟨n.p, n.G, n.H, p, G⟩ p' G' S' H' t' σ' ow') : RelF K n p' G' S' H' t' σ' ow' := by
  obtain ⟨q, e⟩ := r.fp
  obtain ⟨q', e'⟩ := r'.fp
  refine ⟨r'.rs, r'.ext, r'.own, ⟨q ++ q', ?_⟩, r.fg.trans r'.fg⟩
  have e2 : p' = p ++ q' := e'
  rw [e2, e, List.append_assoc]
/-- the new pair of a walk is frozen -/
theorem RelF.pair {K : PySem.W.Frag} {n : Snap} {p : List (List Addr)} {G H : Hp} {S : Sto} {t : DSt} {σ : L2.St} {ow : List Addr} (r : RelF K n p G S H t σ ow) {T : Addr} (vs : List V) (hT : H T = none) : RelF K n p (upd G T (.tup vs)) S (upd H T (.tup vs)) t σ ow :=
  r.step (r.rs.rel.new _ hT).2 (r.rs.rel.new _ hT).1
theorem ds_for (hp : PassesOwn (model X.prog X.w) X.A X.env X.xe) (hc : X.calm = true) (hi : DI X W.x tg it mi) (hg : DG X W tg g) (hb : DSs X W body mb)
    (hs : ∀ x, foldedSetIterable it X.env x = pure x := by intro _; rfl) : DS X W (.For tg it body [] pos) (fun t => do let ds ← mi t; forD (stepD g mb) ds t) := by
  refine PS.imp (ps_for hp hc hi hg hb hs) fun E σ H ⟨n, t, p, G, S, ow, r, h⟩ => ?_
  refine ⟨t, p, G, S, ow, r.rs, okS.seq h r fun ds S1 J p1 G1 H1 e1 dn r1 x1 h1 => ?_⟩
  refine ⟨fun i m σ' H' => i + m = ds.length ∧ ∃ t' p' G' S' ow', RelF X.K ⟨n.p, n.G, n.H, p1, G1⟩ p' G' S' H' t' σ' ow' ∧ okS X.K W n (forD (stepD g mb) (ds.drop i) t' S') E, ⟨ds.length, by simp, t, p1, G1, S1, ow, r1.frozen, by simpa using h1⟩, ?_⟩
  rintro i m σ' H' ⟨hi, t', p', G', S', ow', r', h'⟩
  have sm : Same G1 H' := r'.fg.trans r'.rs.rel.sub
  by_cases hlt : i < ds.length
  · refine .inr ⟨dn.go i H' sm hlt, fun σ2 H2 => ∃ t2 p2 G2 S2 ow2, RelF X.K ⟨n.p, n.G, n.H, p1, G1⟩ p2 G2 S2 H2 t2 σ2 ow2 ∧ okS X.K W n (forD (stepD g mb) (ds.drop (i + 1)) t2 S2) E, fun σ2 H2 q => ⟨m - 1, by omega, by omega, q⟩, fun x H2 y => ?_⟩
    have ed : ds[i]? = some ds[i] := by simp [hlt]
    rw [List.drop_eq_getElem_cons hlt] at h'
    have fin : ∀ G2 H3, RelF X.K ⟨n.p, n.G, n.H, p1, G1⟩ p' G2 S' H3 t' σ' ow' → Den X.K p' G2 ds[i] x → gD X.K W g x σ' H3 fun σ2 H2 => tDS X.K W mb { E with nx := fun σ2 H2 => ∃ t2 p2 G2 S2 ow2, RelF X.K ⟨n.p, n.G, n.H, p1, G1⟩ p2 G2 S2 H2 t2 σ2 ow2 ∧ okS X.K W n (forD (stepD g mb) (ds.drop (i + 1)) t2 S2) E, ct := fun σ2 H2 => ∃ t2 p2 G2 S2 ow2, RelF X.K ⟨n.p, n.G, n.H, p1, G1⟩ p2 G2 S2 H2 t2 σ2 ow2 ∧ okS X.K W n (forD (stepD g mb) (ds.drop (i + 1)) t2 S2) E, bk := E.nx } σ2 H2 := by
      intro G2 H3 r2 dx
      have h2 : okS X.K W n (((liftO (g ds[i] t') >>= mb) S').andThen _) E := h'
      cases eg : g ds[i] t' with
      | none =>
        rw [eg] at h2
        exact h2.elim
      | some t2 =>
        rw [eg] at h2
        have h3 : okS X.K W n ((mb t2 S').andThen _) E := h2
        refine ⟨_, _, t', p', G2, S', ow', r2, dx, t2, eg, fun p3 G3 H4 σ3 ow3 r3 => ⟨_, t2, p3, G3, S', ow3, r3, ?_⟩⟩
        cases em : mb t2 S' with
        | stuck =>
          rw [em] at h3
          exact h3
        | exc z S3 =>
          rw [em] at h3
          exact h3
        | ok c S3 =>
          rw [em] at h3
          cases c with
          | nx t3 => exact fun p4 G4 H5 σ4 ow4 r4 => ⟨t3, p4, G4, S3, ow4, r4, h3⟩
          | ct t3 => exact fun p4 G4 H5 σ4 ow4 r4 => ⟨t3, p4, G4, S3, ow4, r4, h3⟩
          | bk t3 => exact fun p4 G4 H5 σ4 ow4 r4 => h3 p4 G4 H5 σ4 ow4 (r1.thaw r4)
          | rt d => exact h3
    rcases dn.yld i _ H' x H2 ed sm y with ⟨rfl, dx⟩ | ⟨T, vs, es, rfl, hT, rfl, ees, dl⟩
    · exact fin G' _ r' (dx.mono r'.fp r'.fg)
    · refine fin _ _ (r'.pair vs hT) ?_
      rw [ees]
      have hg := r'.rs.rel.gfree hT
      exact ⟨T, vs, rfl, SqT.of upd_same, (dl.mono r'.fp r'.fg).upd hg⟩
  · have e : i = ds.length := by omega
    subst e
    refine .inl ⟨dn.stop H' sm, ?_⟩
    rw [List.drop_length] at h'
    exact h' p' G' H' σ' ow' (r1.thaw r')
end
end RM

/-! RM: targets, comprehensions. -/
namespace RM
open PySem PySem.Spec PyProof.Rows L2

/-! ### targets: a name, a tuple of names -/
inductive Tgt where
  | nm (i : Nat) | tp (is : List Nat)
def Tgt.slots : Tgt → List Nat
  | .nm i => [i]
  | .tp is => is
def gNs : List Nat → TGs
  | [] => gNil
  | i :: is => gCons (gName i) (gNs is)
def Tgt.tg (K : PySem.W.Frag) : Tgt → TG
  | .nm i => gName i
  | .tp is => gTup K is.length (gNs is)
def setVs : DSt → List Nat → List D → Option DSt
  | t, [], [] => some t
  | t, i :: is, d :: ds => (setV t i d).bind fun t' => setVs t' is ds
  | _, _, _ => none
def Tgt.set : Tgt → D → DSt → Option DSt
  | .nm i, d, t => setV t i d
  | .tp is, .tup es, t => setVs t is es
  | .tp _, _, _ => none
theorem wipe_comm {σ : L2.St} {i : Nat} {x : Option V} : ∀ {vs : List Nat}, i ∉ vs → wipe (σ.set i x) vs = (wipe σ vs).set i x
  | [], _ => rfl
  | v :: vs, h => by
    simp only [List.mem_cons, not_or] at h
    unfold wipe
    rw [wipe_comm h.2, List.set_comm _ _ (by exact h.1)]
theorem wipe_set {σ : L2.St} {i : Nat} {x : Option V} : ∀ {vs : List Nat}, i ∈ vs → wipe (σ.set i x) vs = wipe σ vs
  | [], h => by cases h
  | v :: vs, h => by
    unfold wipe
    by_cases hv : i ∈ vs
    · rw [wipe_set hv]
    · have e : i = v := by
        rcases List.mem_cons.mp h with z | z
        · exact z
        · exact absurd z hv
      subst e
      rw [wipe_comm hv, List.set_set]
theorem wipe_idem {σ : L2.St} : ∀ {vs : List Nat}, wipe (wipe σ vs) vs = wipe σ vs := by
  have key : ∀ (ws vs : List Nat) (σ : L2.St), (∀ i ∈ ws, i ∈ vs) → wipe (wipe σ ws) vs = wipe σ vs := by
    intro ws
    induction ws with
    | nil => intro vs σ _; rfl
    | cons w ws ih =>
      intro vs σ h
      show wipe ((wipe σ ws).set w none) vs = _
      rw [wipe_set (h w (by simp)), ih vs σ fun i hi => h i (by simp [hi])]
  intro vs
  exact key vs vs σ fun _ h => h
def wipeD (t : DSt) : List Nat → DSt
  | [] => t
  | v :: vs => (wipeD t vs).set v none
section
variable {K : PySem.W.Frag} {p : List (List Addr)} {G H : Hp} {S : Sto}
theorem RelS.wipe {t : DSt} {σ : L2.St} {ow : List Addr} (r : RelS K p G S H t σ ow) : ∀ vs : List Nat, ∃ ow', (∀ a ∈ ow', a ∈ ow) ∧ RelS K p G S H (wipeD t vs) (L2.wipe σ vs) ow'
  | [] => ⟨ow, fun _ h => h, r⟩
  | v :: vs => by
    obtain ⟨ow1, k1, r1⟩ := RelS.wipe r vs
    show ∃ ow', _ ∧ RelS K p G S H ((wipeD t vs).set v none) ((L2.wipe σ vs).set v none) ow'
    by_cases hv : v < (wipeD t vs).length
    · obtain ⟨ow2, k2, r2⟩ := r1.set0 hv (s := none) (v := none) rfl
      exact ⟨ow2, fun a ha => k1 a (k2 a ha), r2⟩
    · have e1 : (wipeD t vs).set v none = wipeD t vs := List.set_eq_of_length_le (by omega)
      have e2 : (L2.wipe σ vs).set v none = L2.wipe σ vs := List.set_eq_of_length_le (by rw [r1.sl.len]; omega)
      rw [e1, e2]
      exact ⟨ow1, k1, r1⟩
theorem setV_ok {t t' : DSt} {σ : L2.St} {ow : List Addr} {i : Nat} {d : D} {v : V} (r : RelS K p G S H t σ ow) (dn : Den K p G d v) (e : setV t i d = some t') : ∃ ow', (∀ a ∈ ow', a ∈ ow) ∧ RelS K p G S H t' (σ.set i (some v)) ow' := by
  unfold setV at e
  by_cases hi : i < t.length
  · rw [if_pos hi] at e
    cases e
    exact r.set0 hi (s := some (.val d)) (v := some v) ⟨rfl, v, rfl, dn⟩
  · rw [if_neg hi] at e
    cases e
/-- a tuple of names is set -/
theorem gNs_ok {Q : L2.St → Hp → Prop} : ∀ {is : List Nat} {ds : List D} {vs : List V} {t t' : DSt} {σ : L2.St} {ow : List Addr}, RelS K p G S H t σ ow → DenL K p G ds vs → setVs t is ds = some t' →
    (∀ σ' ow', (∀ a ∈ ow', a ∈ ow) → RelS K p G S H t' σ' ow' → (∀ ws, (∀ i ∈ is, i ∈ ws) → L2.wipe σ' ws = L2.wipe σ ws) → Q σ' H) → gNs is vs σ H Q
  | [], [], vs, t, t', σ, ow, r, dn, e, k => by
    cases (show vs = [] from dn)
    cases e
    exact ⟨rfl, k σ ow (fun _ h => h) r fun _ _ => rfl⟩
  | [], _ :: _, _, _, _, _, _, _, _, e, _ => by cases e
  | _ :: _, [], _, _, _, _, _, _, _, e, _ => by cases e
  | i :: is, d :: ds, vs, t, t', σ, ow, r, dn, e, k => by
    obtain ⟨v, vr, rfl, h2, h3⟩ := dn
    obtain ⟨t1, e1, e2⟩ := Option.bind_eq_some_iff.mp (show (setV t i d).bind (fun t' => setVs t' is ds) = some t' from e)
    obtain ⟨ow1, k1, r1⟩ := setV_ok r h2 e1
    refine ⟨v, vr, rfl, ?_⟩
    show gNs is vr (σ.set i (some v)) H Q
    refine gNs_ok r1 h3 e2 fun σ' ow' k2 r2 hw => k σ' ow' (fun a ha => k1 a (k2 a ha)) r2 fun ws hs => ?_
    rw [hw ws fun j hj => hs j (by simp [hj]), wipe_set (hs i (by simp))]
theorem setVs_len : ∀ {is : List Nat} {ds : List D} {t t' : DSt}, setVs t is ds = some t' → ds.length = is.length
  | [], [], _, _, _ => rfl
  | [], _ :: _, _, _, e => by cases e
  | _ :: _, [], _, _, e => by cases e
  | i :: is, d :: ds, t, t', e => by
    obtain ⟨t1, e1, e2⟩ := Option.bind_eq_some_iff.mp (show (setV t i d).bind (fun t' => setVs t' is ds) = some t' from e)
    rw [List.length_cons, List.length_cons, setVs_len e2]
theorem Tgt.ok {Q : L2.St → Hp → Prop} {T : Tgt} {d : D} {v : V} {t t' : DSt} {σ : L2.St} {ow : List Addr} (r : RelS K p G S H t σ ow) (dn : Den K p G d v) (e : T.set d t = some t')
    (k : ∀ σ' ow', (∀ a ∈ ow', a ∈ ow) → RelS K p G S H t' σ' ow' → (∀ ws, (∀ i ∈ T.slots, i ∈ ws) → L2.wipe σ' ws = L2.wipe σ ws) → Q σ' H) : T.tg K v σ H Q := by
  cases T with
  | nm i =>
    obtain ⟨ow', k1, r1⟩ := setV_ok r dn e
    exact k _ ow' k1 r1 fun ws hs => wipe_set (hs i (by simp [Tgt.slots]))
  | tp is =>
    cases d with
    | tup es =>
      obtain ⟨a, vs, rfl, ha, hv⟩ := dn
      refine ⟨a, vs, rfl, SqT.mono r.rel.sub ha, by rw [hv.length]; exact setVs_len e, ?_⟩
      exact gNs_ok r hv e k
    | _ => cases e
end
section
variable {X : Cx} {W : Wf} {tg : Expr} {pos : Pos}
theorem dg_tgt {T : Tgt} (h : PG X tg (T.tg X.K)) : DG X W tg T.set := by
  refine PG.imp h fun v σ H Q ⟨n, d, t, p, G, S, ow, r, dn, t', e, h⟩ => ?_
  exact Tgt.ok r.rs dn e fun σ' ow' k r' _ => h p G H σ' ow' ⟨r', r.ext, fun a ha => r.own a (k a ha), r.fp, r.fg⟩
theorem okR.noE {α β : Type} {R : List (List Addr) → Hp → α → β → Prop} {K : PySem.W.Frag} {p : List (List Addr)} {G H : Hp} {W W' : Value → Option Addr → Hp → Prop} {m : M α} {S : Sto} {Q : β → Hp → Prop} (h : okR R K p G H W (RM.noE m S) Q) : okR R K p G H W' (m S) Q := by
  unfold RM.noE at h
  cases e : m S with
  | ok d S1 =>
    rw [e] at h
    exact h
  | exc z S1 =>
    rw [e] at h
    exact h.elim
  | stuck =>
    rw [e] at h
    exact h
/-! ### new lists, not frozen yet -/
def okF (K : PySem.W.Frag) (p : List (List Addr)) (G H : Hp) (W : Value → Option Addr → Hp → Prop) (r : Res (List D)) (Q : VK) : Prop := match r with
  | .ok xs S' => ∀ a vs p' G' H', H a = none → H' a = some (.lst vs) → DenL K p' G' xs vs → G' a = none → a ∉ p'.flatten → Rel0 K p' S' G' H' → Ext p G H p' G' H' → Q (.ref a) H'
  | .exc e S' => ∀ cls dd p' G' H', ExcAt K p' G' e cls dd → Rel0 K p' S' G' H' → Ext p G H p' G' H' → W cls dd H'
  | .stuck => False
theorem okF.ext {K : PySem.W.Frag} {p p1 : List (List Addr)} {G H G1 H1 : Hp} {W : Value → Option Addr → Hp → Prop} {r : Res (List D)} {Q : VK} (h : okF K p G H W r Q) (e : Ext p G H p1 G1 H1) : okF K p1 G1 H1 W r Q := by
  cases r with
  | ok d S' =>
    refine fun a vs p' G' H' h0 a1 a2 a3 a4 b c => h a vs p' G' H' ?_ a1 a2 a3 a4 b (e.trans c)
    cases q : H a with
    | none => rfl
    | some o => exact absurd h0 (e.d a (by rw [q]; simp))
  | exc x S' => exact fun cls dd p' G' H' a b c => h cls dd p' G' H' a b (e.trans c)
  | stuck => exact h
theorem okF.seq {α β : Type} {R1 : List (List Addr) → Hp → α → β → Prop} {K : PySem.W.Frag} {p : List (List Addr)} {G H : Hp} {W : Value → Option Addr → Hp → Prop} {Q : VK} {S : Sto} {m : M α} {f : α → M (List D)} {Q1 : β → Hp → Prop} (h : okF K p G H W ((m >>= f) S) Q)
    (k : ∀ d S1 v p1 G1 H1, m S = .ok d S1 → R1 p1 G1 d v → Rel0 K p1 S1 G1 H1 → Ext p G H p1 G1 H1 → okF K p1 G1 H1 W (f d S1) Q → Q1 v H1) : okR R1 K p G H W (m S) Q1 := by
  have h' : okF K p G H W ((m S).andThen f) Q := h
  cases e : m S with
  | ok d S1 =>
    rw [e] at h'
    exact fun v p1 G1 H1 a b c => k d S1 v p1 G1 H1 e a b c (okF.ext h' c)
  | exc x S1 =>
    rw [e] at h'
    exact h'
  | stuck =>
    rw [e] at h'
    exact h'
/-- it is frozen at once -/
theorem okR.toF {K : PySem.W.Frag} {p : List (List Addr)} {G H : Hp} {W : Value → Option Addr → Hp → Prop} {Q : VK} {S : Sto} {m : M (List D)} (h : okR (Den K) K p G H W ((do let xs ← m; pure (D.lst xs) : M D) S) Q) : okF K p G H W (m S) Q := by
  have h' : okR (Den K) K p G H W ((m S).andThen fun xs => pure (D.lst xs)) Q := h
  cases e : m S with
  | ok xs S1 =>
    rw [e] at h'
    intro a vs p' G' H' h0 h1 h2 h3 h4 r x
    refine h' (.ref a) p' (upd G' a (.lst vs)) H' ⟨a, vs, rfl, upd_same, h2.upd h3⟩ ⟨fun b o e => ?_, r.len, fun i as o e1 e2 => (r.mo i as o e1 e2).ice (Same.upd_of h3), r.nd, fun b hb => ?_⟩ ⟨x.g.trans (Same.upd_of h3), fun b hb1 hb2 => ?_, x.h, x.d, x.p⟩
    · by_cases q : b = a
      · subst q; rw [upd_same] at e; cases e; exact h1
      · rw [upd_ne q] at e; exact r.sub b o e
    · have : b ≠ a := by rintro rfl; exact h4 hb
      rw [upd_ne this]; exact r.gn b hb
    · have : b ≠ a := by rintro rfl; exact hb2 h0
      rw [upd_ne this]; exact x.gn b hb1 hb2
  | exc z S1 =>
    rw [e] at h'
    exact h'
  | stuck =>
    rw [e] at h'
    exact h'
def tDF (K : PySem.W.Frag) (W : WX) (m : DSt → M (List D)) : TE := fun σ H Q => ∃ t p G S ow, RelS K p G S H t σ ow ∧ okF K p G H (fun c d H' => W c d σ H') (m t S) Q
abbrev DF (X : Cx) (W : WX) (e : Expr) (m : DSt → M (List D)) : Prop := PE X e (tDF X.K W m)
theorem DF.de {V : WX} {e : Expr} {m : DSt → M (List D)} (h : DF X V e m) : DE X V e (fun t => do let xs ← m t; pure (.lst xs)) :=
  PE.imp h fun σ H Q ⟨t, p, G, S, ow, r, q⟩ => ⟨t, p, G, S, ow, r, okR.toF q⟩
/-! ### a list comprehension -/
def lcD (ws : List Nat) (T : Tgt) (mt : DSt → M Bool) (me : DSt → M D) : List D → List D → DSt → M (List D)
  | [], acc, _ => pure acc
  | d :: ds, acc, t => do
    let t' ← liftO (T.set d (wipeD t ws))
    if ← mt t' then do
      let y ← me t'
      if acc.length < sizeLine then lcD ws T mt me ds (acc ++ [y]) t else stuck
    else lcD ws T mt me ds acc t
theorem okF.noE {K : PySem.W.Frag} {p : List (List Addr)} {G H : Hp} {W W' : Value → Option Addr → Hp → Prop} {m : M (List D)} {S : Sto} {Q : VK} (h : okF K p G H W (RM.noE m S) Q) : okF K p G H W' (m S) Q := by
  unfold RM.noE at h
  cases e : m S with
  | ok d S1 =>
    rw [e] at h
    exact h
  | exc z S1 =>
    rw [e] at h
    exact h.elim
  | stuck =>
    rw [e] at h
    exact h
theorem lc_read {K : PySem.W.Frag} {V : WX} {ws : List Nat} {T : Tgt} {mi : DSt → M (List D)} {mt : DSt → M Bool} {me : DSt → M D} {σ : L2.St} {H : Hp} {Q : VK} (hT : ∀ i ∈ T.slots, i ∈ ws)
    (h : tDF K V (fun t => do let ds ← mi t; noE (lcD ws T mt me ds [] t)) σ H Q) : tLc (tDI K V mi) (T.tg K) (tDT K W0 mt) (tD K W0 me) ws σ H Q := by
  obtain ⟨t, p, G, S, ow, r, h⟩ := h
  refine ⟨t, p, G, S, ow, r, okF.seq h fun ds S1 J p1 G1 H1 e1 dn r1 x1 h1 => ?_⟩
  have h1 : okF K p1 G1 H1 (fun _ _ _ => False) (lcD ws T mt me ds [] t S1) Q := h1.noE
  intro A hA
  have rs1 := r.ext x1 r1
  have gA : G1 A = none := r1.gfree hA
  have pA : A ∉ p1.flatten := fun z => r1.dom z hA
  refine ⟨fun i m H' => i + m = ds.length ∧ ∃ p' G' S' acc vacc, Rel0 K p' S' G' H' ∧ Ext p1 G1 H1 p' G' H' ∧ G' A = none ∧ A ∉ p'.flatten ∧ H' A = some (.lst vacc) ∧ DenL K p' G' acc vacc ∧
    okF K p1 G1 H1 (fun _ _ _ => False) (lcD ws T mt me (ds.drop i) acc t S') Q, ⟨ds.length, by simp, p1, G1, S1, [], [], r1.own _ pA gA, ⟨Same.refl _, fun _ h _ => h, fun b o e _ => by rw [upd_ne (ne_of_none e hA)]; exact e, fun b e => ?_, [], by simp, by simp⟩, gA, pA, upd_same, rfl, by simpa using h1⟩, ?_⟩
  · by_cases q : b = A
    · subst q; rw [upd_same]; simp
    · rw [upd_ne q]; exact e
  rintro i m H' ⟨hi', p', G', S', acc, vacc, r', x', gA', pA', hA', da, h'⟩
  have sm : Same G1 H' := x'.g.trans r'.sub
  by_cases hlt : i < ds.length
  · refine .inr ⟨dn.go i H' sm hlt, fun H2 => ∃ p' G' S' acc vacc, Rel0 K p' S' G' H2 ∧ Ext p1 G1 H1 p' G' H2 ∧ G' A = none ∧ A ∉ p'.flatten ∧ H2 A = some (.lst vacc) ∧ DenL K p' G' acc vacc ∧
      okF K p1 G1 H1 (fun _ _ _ => False) (lcD ws T mt me (ds.drop (i + 1)) acc t S') Q, fun H2 q => ⟨m - 1, by omega, by omega, q⟩, fun x H2 y => ?_⟩
    have ed : ds[i]? = some ds[i] := by simp [hlt]
    rw [List.drop_eq_getElem_cons hlt] at h'
    have fin : ∀ G2 H3, Rel0 K p' S' G2 H3 → Ext p' G' H' p' G2 H3 → Den K p' G2 ds[i] x → T.tg K x (wipe σ ws) H3 fun σ2 H2 => wipe σ2 ws = wipe σ ws ∧ tDT K W0 mt σ2 H2 fun b H3 => if b = true then tD K W0 me σ2 H3 fun y H4 => ∃ acc, H4 A = some (.lst acc) ∧ acc.length < sizeLine ∧
          (∃ p' G' S' acc' vacc, Rel0 K p' S' G' (upd H4 A (.lst (acc ++ [y]))) ∧ Ext p1 G1 H1 p' G' (upd H4 A (.lst (acc ++ [y]))) ∧ G' A = none ∧ A ∉ p'.flatten ∧ (upd H4 A (.lst (acc ++ [y]))) A = some (.lst vacc) ∧ DenL K p' G' acc' vacc ∧ okF K p1 G1 H1 (fun _ _ _ => False) (lcD ws T mt me (ds.drop (i + 1)) acc' t S') Q)
        else (∃ p' G' S' acc vacc, Rel0 K p' S' G' H3 ∧ Ext p1 G1 H1 p' G' H3 ∧ G' A = none ∧ A ∉ p'.flatten ∧ H3 A = some (.lst vacc) ∧ DenL K p' G' acc vacc ∧ okF K p1 G1 H1 (fun _ _ _ => False) (lcD ws T mt me (ds.drop (i + 1)) acc t S') Q) := by
      intro G2 H3 r2 x2 dx
      have x12 := x'.trans x2
      obtain ⟨ow3, _, rw3⟩ := (rs1.ext x12 r2).wipe ws
      have h2 : okF K p1 G1 H1 (fun _ _ _ => False) ((liftO (T.set ds[i] (wipeD t ws)) >>= _) S') Q := h'
      cases eT : T.set ds[i] (wipeD t ws) with
      | none =>
        rw [eT] at h2
        exact h2.elim
      | some t2 =>
        rw [eT] at h2
        have h3 : okF K p1 G1 H1 (fun _ _ _ => False) ((mt t2 >>= _) S') Q := h2
        refine Tgt.ok rw3 dx eT fun σ2 ow2 _ rs2 hw => ⟨by rw [hw _ hT, wipe_idem], t2, p', G2, S', ow2, rs2, ?_⟩
        refine okF.seq (h3.ext x12) fun b S3 bv p3 G3 H4 e3 db r3 x3 h4 => ?_
        cases db
        have gA2 : G2 A = none := x2.gn A gA' (by rw [hA']; simp)
        have hA3 : H3 A = some (.lst vacc) := x2.h A _ hA' pA'
        have gA3 : G3 A = none := x3.gn A gA2 (by rw [hA3]; simp)
        have hA4 : H4 A = some (.lst vacc) := x3.h A _ hA3 pA'
        have pA3 : A ∉ p3.flatten := by
          obtain ⟨q, e, f⟩ := x3.p
          rw [e, List.flatten_append, List.mem_append]
          rintro (z | z)
          · exact pA' z
          · rw [f A z] at hA3; cases hA3
        have d3 := da.mono x2.pp x2.g |>.mono x3.pp x3.g
        have h5 : okF K p1 G1 H1 (fun _ _ _ => False) ((mt t2 S').andThen _) Q := h3
        rw [e3] at h5
        cases b with
        | false => exact iteF ⟨p3, G3, S3, acc, vacc, r3, x12.trans x3, gA3, pA3, hA4, d3, h5⟩
        | true =>
          have h6 : okF K p1 G1 H1 (fun _ _ _ => False) ((me t2 >>= _) S3) Q := h5
          refine iteT ⟨t2, p3, G3, S3, ow2, rs2.ext x3 r3, ?_⟩
          refine okF.seq (h6.ext (x12.trans x3)) fun y S4 yv p4 G4 H5 e4 dy r4 x4 h7 => ?_
          have h8 : okF K p1 G1 H1 (fun _ _ _ => False) ((me t2 S3).andThen _) Q := h6
          rw [e4] at h8
          have h9 : okF K p1 G1 H1 (fun _ _ _ => False) ((if acc.length < sizeLine then lcD ws T mt me (ds.drop (i + 1)) (acc ++ [y]) t else stuck) S4) Q := h8
          by_cases hz : acc.length < sizeLine
          · rw [if_pos hz] at h9
            have hA5 : H5 A = some (.lst vacc) := x4.h A _ hA4 pA3
            have gA4 : G4 A = none := x4.gn A gA3 (by rw [hA4]; simp)
            have pA4 : A ∉ p4.flatten := by
              obtain ⟨q, e, f⟩ := x4.p
              rw [e, List.flatten_append, List.mem_append]
              rintro (z | z)
              · exact pA3 z
              · rw [f A z] at hA4; cases hA4
            have x14 := (x12.trans x3).trans x4
            refine ⟨vacc, hA5, by rw [d3.length]; exact hz, p4, G4, S4, acc ++ [y], vacc ++ [yv], r4.own _ pA4 gA4, ⟨x14.g, x14.gn, fun b o e hb => ?_, fun b e => ?_, x14.p⟩, gA4, pA4, upd_same, (d3.mono x4.pp x4.g).append (DenL.one dy), h9⟩
            · rw [upd_ne (ne_of_none e hA)]
              exact x14.h b o e hb
            · by_cases q : b = A
              · subst q; rw [upd_same]; simp
              · rw [upd_ne q]; exact x14.d b e
          · rw [if_neg hz] at h9
            exact h9.elim
    rcases dn.yld i _ H' x H2 ed sm y with ⟨rfl, dx⟩ | ⟨Tn, vs, es, rfl, hTn, rfl, ees, dl⟩
    · exact fin G' _ r' (Ext.refl _ _ _) (dx.mono x'.pp x'.g)
    · refine fin _ _ (r'.new _ hTn).1 (r'.new _ hTn).2 ?_
      rw [ees]
      exact ⟨Tn, vs, rfl, SqT.of upd_same, (dl.mono x'.pp x'.g).upd (r'.gfree hTn)⟩
  · have e : i = ds.length := by omega
    subst e
    rw [List.drop_length] at h'
    refine .inl ⟨dn.stop H' sm, ?_⟩
    exact h' A vacc p' G' H' hA hA' da gA' pA' r' x'
section
variable {V : WX} {elt iter : Expr} {ifs : List Expr} {scope : Scope} {own : List (Str × Nat)} {T : Tgt} {mi : DSt → M (List D)} {mt : DSt → M Bool} {me : DSt → M D}
theorem df_lc (hc : X.calm = true) (hN : X.N.Nodup) (hi : DI X V tg iter mi) (ok : BlkOk X.N X.env.scope scope own)
    (hg : ∀ (s : Shared) (H : Hp) (C : Addr) (cl : List (Str × Addr)) (fp : List Addr), PG (X.blk s H scope (compEnvC scope cl C X.env) fp) tg (T.tg X.K)) (ht : ∀ (s : Shared) (H : Hp) (C : Addr) (cl : List (Str × Addr)) (fp : List Addr), PTs (X.blk s H scope (compEnvC scope cl C X.env) fp) ifs (tDT X.K W0 mt))
    (he : ∀ (s : Shared) (H : Hp) (C : Addr) (cl : List (Str × Addr)) (fp : List Addr), PE (X.blk s H scope (compEnvC scope cl C X.env) fp) elt (tD X.K W0 me)) (hT : ∀ i ∈ T.slots, i ∈ own.map (·.2)) (hs : ∀ x, foldedSetIterable iter X.env x = pure x := by intro _; rfl) :
    DF X V (.ListComp elt [⟨tg, iter, ifs, 0⟩] scope pos) (fun t => do let ds ← mi t; noE (lcD (own.map (·.2)) T mt me ds [] t)) :=
  PE.imp (pe_lc hc hN hi ok hg ht he hs) fun σ H Q h => lc_read hT h
theorem de_lc (hc : X.calm = true) (hN : X.N.Nodup) (hi : DI X V tg iter mi) (ok : BlkOk X.N X.env.scope scope own)
    (hg : ∀ (s : Shared) (H : Hp) (C : Addr) (cl : List (Str × Addr)) (fp : List Addr), PG (X.blk s H scope (compEnvC scope cl C X.env) fp) tg (T.tg X.K)) (ht : ∀ (s : Shared) (H : Hp) (C : Addr) (cl : List (Str × Addr)) (fp : List Addr), PTs (X.blk s H scope (compEnvC scope cl C X.env) fp) ifs (tDT X.K W0 mt))
    (he : ∀ (s : Shared) (H : Hp) (C : Addr) (cl : List (Str × Addr)) (fp : List Addr), PE (X.blk s H scope (compEnvC scope cl C X.env) fp) elt (tD X.K W0 me)) (hT : ∀ i ∈ T.slots, i ∈ own.map (·.2)) (hs : ∀ x, foldedSetIterable iter X.env x = pure x := by intro _; rfl) :
    DE X V (.ListComp elt [⟨tg, iter, ifs, 0⟩] scope pos) (fun t => do let xs ← (do let ds ← mi t; noE (lcD (own.map (·.2)) T mt me ds [] t)); pure (.lst xs)) :=
  DF.de (df_lc hc hN hi ok hg ht he hT hs)
end
end
end RM

/-! RM: own defs: their promise, their calls. -/
namespace RM
open PySem PySem.Spec PyProof.Rows L2

/-- a def keeps a promise wherever no guard of repr or == stands around -/
structure FnG (P : Program) (w : World) (K : PySem.W.Frag) (mg : Str → Option Value) (base : Heap) (k : Nat) (f : Addr) (fd : FuncData) (ps : List Str) (sp : Sp) : Prop where
  arity : ∀ vs H Q E, sp vs H Q E → vs.length = ps.length
  go : ∀ (A : Around) (fr : List Env) (s : Shared) (H : Hp) (ar : Args) (us : List Value) (vs : List V) (Q : VK) (E : XK), A.guards = some [] → Room k A →
    Env0 P w K mg base A fr s H → BindsTo s fd ar (ps.zip us) → Vals vs us → sp vs H Q E → codeAny (model P w) A (.call (.ref f) ar) (CR (L2.CX P w) fr P w H s Q E) s
theorem FnG.up {P : Program} {w : World} {K : PySem.W.Frag} {mg : Str → Option Value} {base : Heap} {j k : Nat} {f : Addr} {fd : FuncData} {ps : List Str} {sp : Sp} (F : FnG P w K mg base j f fd ps sp) (h : j ≤ k) : FnG P w K mg base k f fd ps sp :=
  ⟨F.arity, fun A fr s H ar us vs Q E g r => F.go A fr s H ar us vs Q E g (r.mono h)⟩
section
variable {P : Program} {w : World} {K : PySem.W.Frag} {mg : Str → Option Value} {base : Heap} {x qual : Str} {params : Arguments} {body : List Stmt} {scope : Scope} {dvs : List V} {kws : List (Str × V)} {f : Addr} {fd : FuncData}
/-- by its body -/
theorem fnG_of {N ps : List Str} {k : Nat} {sp : Sp} (F : FunD K x qual params body scope dvs kws f fd) (S : FnScope N ps scope) (ar : ∀ vs H Q E, sp vs H Q E → vs.length = ps.length)
    (hb : ∀ (cdv : Value) (A : Around) (fr : List Env) (s : Shared) (H : Hp) (vs : List V) (Q : VK) (E : XK), (A.deeper (envOfC qual scope s.heap.objs.size f cdv)).guards = some [] → Room k (A.deeper (envOfC qual scope s.heap.objs.size f cdv)) → sp vs H Q E →
      ∃ t, PSs (cxOf (L2.CX P w) P w K mg base N qual scope f cdv A fr s H E) body t ∧ t { nx := fun _ H' => Q .non H', rt := Q } (L2.start N vs) H) : FnG P w K mg base (k + 1) f fd ps sp := by
  obtain ⟨oc, od, dV, kV, doc, pm, an, cdv, ct, osl, rfl, lk, hcd, _, _⟩ := F.ex
  refine ⟨ar, fun A fr s H arg us vs Q E hG hr e0 bd r hsp => ?_⟩
  have kin : K.In s.heap := e0.mod.kin.keeps fun b o e => (e0.bs b o e).1
  have nol : s.heap.NoLimit := e0.mod.nolimit.keeps fun b o e => (e0.bs b o e).1
  have kinds : ∀ z ∈ ps.zip us, scope.names.lookup z.1 = some .local ∨ (scope.names.lookup z.1 = some .cell ∧ ((cellsFrom (s.heap.objs.size + 1) scope.names []).lookup z.1).isSome = true) := by
    intro ⟨n, v⟩ hz
    have hn := (List.of_mem_zip hz).1
    cases S.par n hn with
    | inl q => exact Or.inl q
    | inr q => exact Or.inr ⟨q, PySem.W.cellsFrom_some _ _ _ (.inl q)⟩
  refine codeAny_call_function hr.depth (kin _ _ lk) rfl S.co S.gen rfl (PySem.W.codeRec_of kin hcd) (bd _ _ _ _ ?_)
  refine wpAny_newFunctionEnv_cells S.kind kinds fun env henv s1 inc => ?_
  subst henv
  refine ⟨nol.keeps inc.toInCall.keep, codeAny_func ?_⟩
  obtain ⟨t, ht, hq⟩ := hb cdv A fr s H vs Q E hG (hr.deeper _) hsp
  have I0 := inv_start (CX := L2.CX P w) (E := E) S hr.hd e0 (ar _ _ _ _ hsp) r inc
  refine wpAny_mono (ht.run [] s1 _ H _ I0 hq) (fun fl s2 q => ?_) fun e s2 q => q
  match fl, q with
  | .ret u, ⟨v, σ2, H2, J, rv, q⟩ => exact ⟨v, H2, J.os, J.bare, J.base, J.hok, rv, q⟩
  | .next, ⟨σ2, H2, J, q⟩ => exact ⟨.non, H2, J.os, J.bare, J.base, J.hok, rfl, q⟩
  | .brk, ⟨_, _, _, q⟩ => exact False.elim q
  | .cont, ⟨_, _, _, q⟩ => exact False.elim q
/-- the promise by data -/
abbrev FnD (P : Program) (w : World) (K : PySem.W.Frag) (mg : Str → Option Value) (base : Heap) (k : Nat) (f : Addr) (fd : FuncData) (ps : List Str) (g : List D → M D) : Prop := FnG P w K mg base k f fd ps (spD K ps.length g)
/-- the context of a body -/
structure BodyX (X : Cx) (k : Nat) (W : Wf) : Prop where
  room : Room k X.A
  gd : X.A.guards = some []
  tk : Takes X W.x
  po : PassesOwn (model X.prog X.w) X.A X.env X.xe
  calm : X.calm = true
theorem fnD_of {N ps : List Str} {k : Nat} {m : DSt → M Ctl} {g : List D → M D} (F : FunD K x qual params body scope dvs kws f fd) (S : FnScope N ps scope)
    (hb : ∀ (cdv : Value) (A : Around) (fr : List Env) (s : Shared) (H : Hp) (E : XK), BodyX (cxOf (L2.CX P w) P w K mg base N qual scope f cdv A fr s H E) k E → DSs (cxOf (L2.CX P w) P w K mg base N qual scope f cdv A fr s H E) E body m)
    (hg : g = runB N.length m) : FnD P w K mg base (k + 1) f fd ps g := by
  refine fnG_of F S (fun vs H Q E h => spD.len vs H Q _ h) fun cdv A fr s H vs Q E hG hr h => ?_
  obtain ⟨ds, p, G, St, e, dn, r, h⟩ := h
  refine ⟨_, hb cdv A fr s H E ⟨hr, hG, takes_of rfl rfl rfl rfl, passes_of rfl, rfl⟩, ?_⟩
  rw [hg] at h
  exact tDS.enter dn r h
end
section
variable {X : Cx} {W : WX} {a b c : Expr} {es : List Expr} {kw : List Keyword} {ma mb mc : DSt → M D} {ms mk : DSt → M (List D)} {pos p : Pos} {k : Nat} {f : Addr} {fd : FuncData} {ps ks : List Str} {g : List D → M D} {x : Str} {dvs : List V} {ds : List Value} {dds : List D} {sp : Sp}
/-- the callee runs -/
theorem run_G {pins : List (Addr × Obj)} {σ : L2.St} {H : Hp} {s : Shared} {Q : VK} {ar : Args} {us : List Value} {vs : List V} (F : FnG X.prog X.w X.K X.mg X.base k f fd ps sp) (hr : Room k X.A) (hG : X.A.guards = some []) (tk : Takes X W)
    (I : Inv X pins σ H s) (bd : BindsTo s fd ar (ps.zip us)) (r : Vals vs us) (h : sp vs H Q fun c d H' => W c d σ H') : codeAny (model X.prog X.w) X.A (.call (.ref f) ar) (fun r s' => match r with
      | .ok (.ret u) => EP X pins σ Q u s'
      | .ok _ => False
      | .error e => X.xe e s') s := by
  refine codeAny_mono (F.go X.A X.stack s H ar us vs Q _ hG hr I.env0 bd r h) fun r s2 q => ?_
  match r, q with
  | .error e, q => exact tk e s2 (XE.of_call I (fun _ _ _ z => z) q)
  | .ok (.ret u), q => exact I.after q
  | .ok .next, q => exact False.elim q
  | .ok .brk, q => exact False.elim q
  | .ok .cont, q => exact False.elim q
theorem call_G {pins : List (Addr × Obj)} {σ : L2.St} {H : Hp} {s : Shared} {Q : VK} {us : List Value} {kv : List (Str × Value)} {zs : List Value} {vs : List V} (F : FnG X.prog X.w X.K X.mg X.base k f fd ps sp) (hr : Room k X.A) (hG : X.A.guards = some []) (tk : Takes X W)
    (I : Inv X pins σ H s) (bd : BindsTo s fd ⟨us, kv⟩ (ps.zip zs)) (r : Vals vs zs) (h : sp vs H Q fun c d H' => W c d σ H') : wpAny (model X.prog X.w) X.A (call (.ref f) us kv) (EP X pins σ Q) X.xe s := by
  refine wpAny_call (codeAny_mono (run_G F hr hG tk I bd r h) fun r s2 q => ?_)
  match r, q with
  | .error e, q => exact q
  | .ok (.ret u), q => exact q
  | .ok .next, q => exact False.elim q
  | .ok .brk, q => exact False.elim q
  | .ok .cont, q => exact False.elim q
/-- f(e, ..): dds the data of the defaults that fill up -/
theorem de_call (F : FnD X.prog X.w X.K X.mg X.base k f fd ps g) (hr : Room k X.A) (hG : X.A.guards = some []) (tk : Takes X W) (hg : Gl X x) (hm : X.mg x = some (.ref f)) (hk : PySem.W.keepIn X.K (.ref f) = true) (hb : Binds X.K fd ps ds) (hd : Vals dvs ds) (hdd : ∀ q G, DenL X.K q G dds dvs)
    (ha : DA X W (a :: es) ms) (hdb : (x == ("__debug__" : Str)) = false := by decide) (he : starEach (a :: es) X.env = (false, eval a X.env) :: starEach es X.env := by rfl) (hpl : (backTo pos (starEach es X.env)).any (·.1) = false := by rfl) :
    DE X W (.Call (.Name x p) (a :: es) [] pos) (fun t => do let xs ← ms t; argsD ps.length g (xs ++ dds)) := by
  refine ⟨fun pins s σ H Q I ⟨t, q, G, S, ow, r, h⟩ => ?_⟩
  refine wpAny_Call_Name_kw (ld_glob I hg hm (PySem.W.callWith_K (h₀ := X.base) I.ok.mod.kin hk ?_ he hpl) hdb)
  refine thn (ha.run pos pins s σ H (fun vs H1 => spD X.K ps.length g (vs ++ dvs) H1 Q fun c d H' => W c d σ H') I ⟨t, q, G, S, ow, r, okR.seq h fun d S1 v p1 G1 H1 e1 dn r1 x1 h1 => ?_⟩) fun us s1 ⟨vs, H1, I1, rv, q1⟩ => ⟨I1.kIn, ?_⟩
  · obtain ⟨e, h2⟩ := okR.args h1
    exact ⟨d ++ dds, p1, G1, S1, e, dn.append (hdd p1 G1), r1, h2⟩
  · have r2 := rv.append hd
    exact call_G F hr hG tk I1 (hb s1 us I1.kIn (by rw [← r2.length]; exact F.arity _ _ _ _ q1)) r2 q1
theorem de_call0 (F : FnD X.prog X.w X.K X.mg X.base k f fd ps g) (hr : Room k X.A) (hG : X.A.guards = some []) (tk : Takes X W) (hg : Gl X x) (hm : X.mg x = some (.ref f)) (hk : PySem.W.keepIn X.K (.ref f) = true) (hb : Binds X.K fd ps ds) (hd : Vals dvs ds) (hdd : ∀ q G, DenL X.K q G dds dvs)
    (hdb : (x == ("__debug__" : Str)) = false := by decide) : DE X W (.Call (.Name x p) [] [] pos) (fun _ => argsD ps.length g dds) := by
  refine ⟨fun pins s σ H Q I ⟨t, q, G, S, ow, r, h⟩ => ?_⟩
  refine wpAny_Call_Name_kw (ld_glob I hg hm (PySem.W.callWith_K0 I.kIn hk ?_) hdb)
  obtain ⟨e, h2⟩ := okR.args h
  have q1 : spD X.K ps.length g dvs H Q fun c d H' => W c d σ H' := ⟨dds, q, G, S, e, hdd q G, r.rel, h2⟩
  exact call_G (us := []) F hr hG tk I (hb s [] I.kIn (by rw [List.nil_append, ← hd.length]; exact F.arity _ _ _ _ q1)) hd q1
/-! ### keywords -/
abbrev DK (X : Cx) (W : WX) (kw : List Keyword) (m : DSt → M (List D)) : Prop := PK X kw (tDA X.K W m)
theorem PK.imp {t t' : TA} (h : PK X kw t) (k : ∀ σ H Q, t' σ H Q → t σ H Q) : PK X kw t' := ⟨fun pos pins s σ H Q I q => h.run pos pins s σ H Q I (k _ _ _ q)⟩
theorem dk_nil : DK X W [] (fun _ => pure []) := PK.imp pk_nil fun σ H Q ⟨t, p, G, S, ow, r, h⟩ => okR.fin (d := []) h DenL.nil r.rel
theorem dk_cons {nm : Option Str} {kpos : Pos} (ha : DE X W a ma) (hr : DK X W kw mk) : DK X W (⟨nm, a, kpos⟩ :: kw) (fun t => do let x ← ma t; let xs ← mk t; pure (x :: xs)) := by
  refine PK.imp (pk_cons ha hr) fun σ H Q ⟨t, p, G, S, ow, r, h⟩ => ?_
  refine ⟨t, p, G, S, ow, r, okR.seq h fun d S1 v p1 G1 H1 e1 dn r1 x1 h1 => ?_⟩
  refine tDA.next r x1 r1 (okR.seq h1 fun d2 S2 v2 p2 G2 H2 e2 dn2 r2 x2 h2 => ?_)
  exact okR.fin (d := d :: d2) h2 (DenL.cons (dn.mono x2.pp x2.g) dn2) r2
/-- how keywords come to parameters: one arrangement for any kind of things -/
structure KwTo (K : PySem.W.Frag) (fd : FuncData) (ps ks : List Str) (n : Nat) (ar : {α : Type} → List α → List α → List α → List α) (dvs : List V) (ds : List Value) : Prop where
  to : ∀ (s : Shared) (us ws : List Value), K.In s.heap → us.length = n → ws.length = ks.length → BindsTo s fd ⟨us, ks.zip ws⟩ (ps.zip (ar us ws ds))
  rel : ∀ {vs zs : List V} {us ws : List Value}, vs.length = n → zs.length = ks.length → Vals vs us → Vals zs ws → Vals (ar vs zs dvs) (ar us ws ds)
  den : ∀ {q : List (List Addr)} {G : Hp} {xs ys dd : List D} {vs zs : List V}, xs.length = n → ys.length = ks.length → DenL K q G xs vs → DenL K q G ys zs → DenL K q G dd dvs → DenL K q G (ar xs ys dd) (ar vs zs dvs)
def argsK (n m l : Nat) (ar : {α : Type} → List α → List α → List α → List α) (dds : List D) (g : List D → M D) (xs ys : List D) : M D := if xs.length = n ∧ ys.length = m then argsD l g (ar xs ys dds) else stuck
theorem okR.argsK {K : PySem.W.Frag} {q : List (List Addr)} {G H : Hp} {S : Sto} {Q : VK} {xs ys : List D} {n m l : Nat} {ar : {α : Type} → List α → List α → List α → List α} {W : Value → Option Addr → Hp → Prop} (h : okR (Den K) K q G H W (argsK n m l ar dds g xs ys S) Q) :
    xs.length = n ∧ ys.length = m ∧ (ar xs ys dds).length = l ∧ okR (Den K) K q G H W (g (ar xs ys dds) S) Q := by
  unfold RM.argsK at h
  by_cases e : xs.length = n ∧ ys.length = m
  · rw [if_pos e] at h
    obtain ⟨e2, h2⟩ := okR.args h
    exact ⟨e.1, e.2, e2, h2⟩
  · rw [if_neg e] at h
    exact h.elim
variable {ar : {α : Type} → List α → List α → List α → List α} {n : Nat}
/-- f(k = v, ..) -/
theorem de_callK0 (F : FnD X.prog X.w X.K X.mg X.base k f fd ps g) (hr : Room k X.A) (hG : X.A.guards = some []) (tk : Takes X W) (hg : Gl X x) (hm : X.mg x = some (.ref f)) (hk : PySem.W.keepIn X.K (.ref f) = true) (hb : KwTo X.K fd ps ks 0 ar dvs ds) (hdd : ∀ q G, DenL X.K q G dds dvs)
    (hkw : DK X W kw mk) (hall : (backToKw pos (keywordEach kw X.env)).all (·.1.isSome) = true := by rfl) (hks : (backToKw pos (keywordEach kw X.env)).filterMap (·.1) = ks := by rfl)
    (hdb : (x == ("__debug__" : Str)) = false := by decide) (hpl : ((backTo pos (starEach [] X.env)).any (·.1) || (backToKw pos (keywordEach kw X.env)).any (·.1.isNone)) = false := by rfl) :
    DE X W (.Call (.Name x p) [] kw pos) (fun t => do let ys ← mk t; argsK 0 ks.length ps.length ar dds g [] ys) := by
  refine ⟨fun pins s σ H Q I ⟨t, q, G, S, ow, r, h⟩ => ?_⟩
  refine wpAny_Call_Name_kw (ld_glob I hg hm (PySem.W.callWith_KW0 (h₀ := X.base) I.ok.mod.kin hk hall ?_ hpl) hdb)
  refine thn (hkw.run pos pins s σ H (fun zs H1 => zs.length = ks.length ∧ spD X.K ps.length g (ar [] zs dvs) H1 Q fun c d H' => W c d σ H') I ⟨t, q, G, S, ow, r, okR.seq h fun d S1 v p1 G1 H1 e1 dn r1 x1 h1 => ?_⟩) fun ws s1 ⟨zs, H1, I1, rv, l1, q1⟩ => ⟨I1.kIn, ?_⟩
  · obtain ⟨e1, e2, e3, h2⟩ := okR.argsK h1
    exact ⟨dn.length.trans e2, ar [] d dds, p1, G1, S1, e3, hb.den (xs := []) rfl e2 DenL.nil dn (hdd p1 G1), r1, h2⟩
  · rw [hks]
    exact call_G F hr hG tk I1 (hb.to s1 [] ws I1.kIn rfl (by rw [← rv.length]; exact l1)) (hb.rel (vs := []) rfl l1 .nil rv) q1
end
end RM

/-! RM: built-ins, subscripts, slices, membership. -/
namespace RM
open PySem PySem.Spec PyProof.Rows L2

/-! ### lists of one kind -/
def toBools : List D → Option (List Bool)
  | [] => some []
  | .bl b :: r => (toBools r).map (b :: ·)
  | _ :: _ => none
def toInts : List D → Option (List Int)
  | [] => some []
  | .int b :: r => (toInts r).map (b :: ·)
  | _ :: _ => none
def toStrs : List D → Option (List Str)
  | [] => some []
  | .str b :: r => (toStrs r).map (b :: ·)
  | _ :: _ => none
section
variable {K : PySem.W.Frag} {p : List (List Addr)} {G H : Hp}
theorem toBools_den : ∀ {ds : List D} {vs : List V} {bs : List Bool}, DenL K p G ds vs → toBools ds = some bs → vs = bs.map V.bl
  | [], _, _, h, e => by
    cases (show _ = [] from h); cases e; rfl
  | .bl b :: r, _, _, ⟨v, w, h1, h2, h3⟩, e => by
    obtain ⟨cs, e1, e2⟩ := Option.map_eq_some_iff.mp (show (toBools r).map (b :: ·) = some _ from e)
    subst e2
    cases (show v = _ from h2)
    rw [h1, toBools_den h3 e1]
    rfl
  | .non :: _, _, _, _, e => by cases e
  | .int _ :: _, _, _, _, e => by cases e
  | .str _ :: _, _, _, _, e => by cases e
  | .tup _ :: _, _, _, _, e => by cases e
  | .lst _ :: _, _, _, _, e => by cases e
  | .ins _ _ _ :: _, _, _, _, e => by cases e
  | .mref _ :: _, _, _, _, e => by cases e
  | .dic _ _ :: _, _, _, _, e => by cases e
  | .scr _ :: _, _, _, _, e => by cases e
theorem toInts_den : ∀ {ds : List D} {vs : List V} {bs : List Int}, DenL K p G ds vs → toInts ds = some bs → vs = bs.map V.int
  | [], _, _, h, e => by
    cases (show _ = [] from h); cases e; rfl
  | .int b :: r, _, _, ⟨v, w, h1, h2, h3⟩, e => by
    obtain ⟨cs, e1, e2⟩ := Option.map_eq_some_iff.mp (show (toInts r).map (b :: ·) = some _ from e)
    subst e2
    cases (show v = _ from h2)
    rw [h1, toInts_den h3 e1]
    rfl
  | .non :: _, _, _, _, e => by cases e
  | .bl _ :: _, _, _, _, e => by cases e
  | .str _ :: _, _, _, _, e => by cases e
  | .tup _ :: _, _, _, _, e => by cases e
  | .lst _ :: _, _, _, _, e => by cases e
  | .ins _ _ _ :: _, _, _, _, e => by cases e
  | .mref _ :: _, _, _, _, e => by cases e
  | .dic _ _ :: _, _, _, _, e => by cases e
  | .scr _ :: _, _, _, _, e => by cases e
theorem toStrs_den : ∀ {ds : List D} {vs : List V} {bs : List Str}, DenL K p G ds vs → toStrs ds = some bs → vs = bs.map V.str
  | [], _, _, h, e => by
    cases (show _ = [] from h); cases e; rfl
  | .str b :: r, _, _, ⟨v, w, h1, h2, h3⟩, e => by
    obtain ⟨cs, e1, e2⟩ := Option.map_eq_some_iff.mp (show (toStrs r).map (b :: ·) = some _ from e)
    subst e2
    cases (show v = _ from h2)
    rw [h1, toStrs_den h3 e1]
    rfl
  | .non :: _, _, _, _, e => by cases e
  | .bl _ :: _, _, _, _, e => by cases e
  | .int _ :: _, _, _, _, e => by cases e
  | .tup _ :: _, _, _, _, e => by cases e
  | .lst _ :: _, _, _, _, e => by cases e
  | .ins _ _ _ :: _, _, _, _, e => by cases e
  | .mref _ :: _, _, _, _, e => by cases e
  | .dic _ _ :: _, _, _, _, e => by cases e
  | .scr _ :: _, _, _, _, e => by cases e
end
/-! ### by data -/
def lenD : List D → M D
  | [.lst xs] => pure (.int xs.length)
  | [.tup xs] => pure (.int xs.length)
  | [.str x] => if x.length ≤ sizeLine then pure (.int x.length) else stuck
  | [.scr ns] => pure (.int ns.length)
  | _ => stuck
def absD : List D → M D
  | [.int i] => pure (.int (if i < 0 then -i else i))
  | _ => stuck
def intD : List D → M D
  | [.int i] => pure (.int i)
  | _ => stuck
def allD : List D → M D
  | [.lst xs] => match toBools xs with
    | some bs => pure (.bl (bs.all id))
    | none => stuck
  | _ => stuck
def anyD : List D → M D
  | [.lst xs] => match toBools xs with
    | some bs => pure (.bl (bs.any id))
    | none => stuck
  | _ => stuck
def leastI : Int → List Int → Int
  | a, [] => a
  | a, b :: r => leastI (if b < a then b else a) r
def mostI : Int → List Int → Int
  | a, [] => a
  | a, b :: r => mostI (if b > a then b else a) r
def minD : List D → M D
  | [.int i, .int j] => pure (.int (if j < i then j else i))
  | [.lst xs] => match toInts xs with
    | some (n :: ns) => pure (.int (leastI n ns))
    | _ => stuck
  | _ => stuck
def maxD : List D → M D
  | [.int i, .int j] => pure (.int (if j > i then j else i))
  | [.lst xs] => match toInts xs with
    | some (n :: ns) => pure (.int (mostI n ns))
    | _ => stuck
  | _ => stuck
def tupleD : List D → M D
  | [.lst xs] => pure (.tup xs)
  | [.tup xs] => pure (.tup xs)
  | _ => stuck
def listD : List D → M D
  | [.lst xs] => pure (.lst xs)
  | [.tup xs] => pure (.lst xs)
  | _ => stuck
theorem leastI_of {m : Int} : ∀ (ns : List Int) (n : Int), m ∈ n :: ns → (∀ y ∈ n :: ns, m ≤ y) → m = leastI n ns
  | [], n, h, _ => by
    rcases List.mem_cons.mp h with z | z
    · exact z
    · cases z
  | b :: r, n, h, k => by
    unfold leastI
    refine leastI_of r _ ?_ fun y hy => ?_
    · have h1 := k n (by simp)
      have h2 := k b (by simp)
      rcases List.mem_cons.mp h with z | z
      · by_cases q : b < n
        · omega
        · rw [if_neg q, z]; simp
      · rcases List.mem_cons.mp z with z | z
        · by_cases q : b < n
          · rw [if_pos q, z]; simp
          · rw [if_neg q]
            have : m = n := by omega
            rw [this]; simp
        · exact List.mem_cons_of_mem _ z
    · rcases List.mem_cons.mp hy with z | z
      · rw [z]
        split
        · exact k b (by simp)
        · exact k n (by simp)
      · exact k y (by simp [z])
theorem mostI_of {m : Int} : ∀ (ns : List Int) (n : Int), m ∈ n :: ns → (∀ y ∈ n :: ns, y ≤ m) → m = mostI n ns
  | [], n, h, _ => by
    rcases List.mem_cons.mp h with z | z
    · exact z
    · cases z
  | b :: r, n, h, k => by
    unfold mostI
    refine mostI_of r _ ?_ fun y hy => ?_
    · have h1 := k n (by simp)
      have h2 := k b (by simp)
      rcases List.mem_cons.mp h with z | z
      · by_cases q : b > n
        · omega
        · rw [if_neg q, z]; simp
      · rcases List.mem_cons.mp z with z | z
        · by_cases q : b > n
          · rw [if_pos q, z]; simp
          · rw [if_neg q]
            have : m = n := by omega
            rw [this]; simp
        · exact List.mem_cons_of_mem _ z
    · rcases List.mem_cons.mp hy with z | z
      · rw [z]
        split
        · exact k b (by simp)
        · exact k n (by simp)
      · exact k y (by simp [z])
section
variable {K : PySem.W.Frag}
theorem by_len : ByA K (fun xs H Q => ∃ x n, xs = [x] ∧ LenV K x H n ∧ Q (.int n) H) lenD := by
  intro ds vs p G H S W Q hd r h
  unfold lenD at h
  split at h
  · obtain ⟨v, rfl, a, us, rfl, ha, hv⟩ := denL1 hd
    exact ⟨_, _, rfl, .inl ⟨us, SqL.of (r.sub _ _ ha), rfl⟩, okR.fin (v := V.int us.length) h (by rw [hv.length]; rfl) r⟩
  · obtain ⟨v, rfl, a, us, rfl, ha, hv⟩ := denL1 hd
    exact ⟨_, _, rfl, .inr ⟨us, SqT.mono r.sub ha, rfl⟩, okR.fin (v := V.int us.length) h (by rw [hv.length]; rfl) r⟩
  · rename_i x
    obtain ⟨v, rfl, hv⟩ := denL1 hd
    cases (show v = _ from hv)
    by_cases hz : x.length ≤ sizeLine
    · rw [if_pos hz] at h
      exact ⟨_, _, rfl, ⟨hz, rfl⟩, okR.fin (v := V.int x.length) h rfl r⟩
    · rw [if_neg hz] at h
      exact h.elim
  · rename_i ns
    obtain ⟨v, rfl, a, rfl, ha⟩ := denL1 hd
    exact ⟨_, _, rfl, .inl ⟨_, r.sub.seq ha, rfl⟩, okR.fin (v := V.int _) h (by rw [List.length_map]; rfl) r⟩
  · exact h.elim
theorem by_abs : ByA K (fun xs H Q => ∃ i, xs = [.int i] ∧ Q (.int (if i < 0 then -i else i)) H) absD := by
  intro ds vs p G H S W Q hd r h
  unfold absD at h
  split at h
  · rename_i i
    obtain ⟨v, rfl, hv⟩ := denL1 hd
    cases (show v = _ from hv)
    exact ⟨i, rfl, okR.fin (v := V.int _) h rfl r⟩
  · exact h.elim
theorem by_int : ByA K (fun xs H Q => (∃ i, xs = [.int i] ∧ Q (.int i) H) ∨ ∃ k, xs = [.bl k] ∧ Q (.int (if k then 1 else 0)) H) intD := by
  intro ds vs p G H S W Q hd r h
  unfold intD at h
  split at h
  · rename_i i
    obtain ⟨v, rfl, hv⟩ := denL1 hd
    cases (show v = _ from hv)
    exact .inl ⟨i, rfl, okR.fin (v := V.int _) h rfl r⟩
  · exact h.elim
theorem by_all : ByA K (rAll K) allD := by
  intro ds vs p G H S W Q hd r h
  unfold allD at h
  split at h
  · rename_i xs
    obtain ⟨v, rfl, a, us, rfl, ha, hv⟩ := denL1 hd
    cases e : toBools xs with
    | none => rw [e] at h; exact h.elim
    | some bs =>
      rw [e] at h
      rw [toBools_den hv e] at ha
      exact ⟨a, bs, rfl, SqL.of (r.sub _ _ ha), okR.fin (v := V.bl _) h rfl r⟩
  · exact h.elim
theorem by_any : ByA K (rAny K) anyD := by
  intro ds vs p G H S W Q hd r h
  unfold anyD at h
  split at h
  · rename_i xs
    obtain ⟨v, rfl, a, us, rfl, ha, hv⟩ := denL1 hd
    cases e : toBools xs with
    | none => rw [e] at h; exact h.elim
    | some bs =>
      rw [e] at h
      rw [toBools_den hv e] at ha
      exact ⟨a, bs, rfl, SqL.of (r.sub _ _ ha), okR.fin (v := V.bl _) h rfl r⟩
  · exact h.elim
theorem by_min : ByA K (fun xs H Q => (∃ i j, xs = [.int i, .int j] ∧ Q (.int (if j < i then j else i)) H) ∨ rMin K xs H Q) minD := by
  intro ds vs p G H S W Q hd r h
  unfold minD at h
  split at h
  · rename_i i j
    obtain ⟨v, u, rfl, h1, h2⟩ := denL2 hd
    cases (show v = _ from h1)
    cases (show u = _ from h2)
    exact .inl ⟨i, j, rfl, okR.fin (v := V.int _) h rfl r⟩
  · rename_i xs
    obtain ⟨v, rfl, a, us, rfl, ha, hv⟩ := denL1 hd
    cases e : toInts xs with
    | none => rw [e] at h; exact h.elim
    | some ns =>
      rw [e] at h
      cases ns with
      | nil => exact h.elim
      | cons n ns =>
        rw [toInts_den hv e] at ha
        refine .inr ⟨a, n :: ns, rfl, SqL.of (r.sub _ _ ha), by simp, fun m h1 h2 => ?_⟩
        rw [leastI_of ns n h1 h2]
        exact okR.fin (v := V.int _) h rfl r
  · exact h.elim
theorem by_max : ByA K (fun xs H Q => (∃ i j, xs = [.int i, .int j] ∧ Q (.int (if j > i then j else i)) H) ∨ rMax K xs H Q) maxD := by
  intro ds vs p G H S W Q hd r h
  unfold maxD at h
  split at h
  · rename_i i j
    obtain ⟨v, u, rfl, h1, h2⟩ := denL2 hd
    cases (show v = _ from h1)
    cases (show u = _ from h2)
    exact .inl ⟨i, j, rfl, okR.fin (v := V.int _) h rfl r⟩
  · rename_i xs
    obtain ⟨v, rfl, a, us, rfl, ha, hv⟩ := denL1 hd
    cases e : toInts xs with
    | none => rw [e] at h; exact h.elim
    | some ns =>
      rw [e] at h
      cases ns with
      | nil => exact h.elim
      | cons n ns =>
        rw [toInts_den hv e] at ha
        refine .inr ⟨a, n :: ns, rfl, SqL.of (r.sub _ _ ha), by simp, fun m h1 h2 => ?_⟩
        rw [mostI_of ns n h1 h2]
        exact okR.fin (v := V.int _) h rfl r
  · exact h.elim
theorem by_tuple : ByA K (fun xs H Q => ∃ p ys, xs = [.ref p] ∧ ((SqL K H p ys ∧ ∀ l, H l = none → Q (.ref l) (upd H l (.tup ys))) ∨ (SqT K H p ys ∧ Q (.ref p) H))) tupleD := by
  intro ds vs p G H S W Q hd r h
  unfold tupleD at h
  split at h
  · obtain ⟨v, rfl, a, us, rfl, ha, hv⟩ := denL1 hd
    exact ⟨a, us, rfl, .inl ⟨SqL.of (r.sub _ _ ha), fun l hl => okR.tup h r hl hv⟩⟩
  · obtain ⟨v, rfl, a, us, rfl, ha, hv⟩ := denL1 hd
    exact ⟨a, us, rfl, .inr ⟨SqT.mono r.sub ha, okR.fin h ⟨a, us, rfl, ha, hv⟩ r⟩⟩
  · exact h.elim
theorem by_list : ByA K (fun xs H Q => ∃ p ys, xs = [.ref p] ∧ (SqL K H p ys ∨ SqT K H p ys) ∧ ∀ l, H l = none → Q (.ref l) (upd H l (.lst ys))) listD := by
  intro ds vs p G H S W Q hd r h
  unfold listD at h
  split at h
  · obtain ⟨v, rfl, a, us, rfl, ha, hv⟩ := denL1 hd
    exact ⟨a, us, rfl, .inl (SqL.of (r.sub _ _ ha)), fun l hl => okR.lst h r hl hv⟩
  · obtain ⟨v, rfl, a, us, rfl, ha, hv⟩ := denL1 hd
    exact ⟨a, us, rfl, .inr (SqT.mono r.sub ha), fun l hl => okR.lst h r hl hv⟩
  · exact h.elim
end
/-! ### as calls: B the built-in's name stands free in the module -/
section
variable {X : Cx} {W : WX} {a b : Expr} {es : List Expr} {ma mb : DSt → M D} {ms : DSt → M (List D)} {pos p : Pos}
theorem CallR.or {f : Value} {r r' : List V → Hp → VK → Prop} (h : CallR X f r) (h' : CallR X f r') : CallR X f (fun xs H Q => r xs H Q ∨ r' xs H Q) := by
  intro pins s σ H xs us Q I rv q
  rcases q with q | q
  · exact h pins s σ H xs us Q I rv q
  · exact h' pins s σ H xs us Q I rv q
theorem de_len (hg : Gl X "len") (hm : X.mg "len" = none) (ha : DA X W [a] ms) (he : starEach [a] X.env = [(false, eval a X.env)] := by rfl) : DE X W (.Call (.Name "len" p) [a] [] pos) (fun t => do let xs ← ms t; lenD xs) := de_callB call_len by_len hg hm boot_len ha (by decide) (by decide) he rfl
theorem de_abs (hg : Gl X "abs") (hm : X.mg "abs" = none) (ha : DA X W [a] ms) (he : starEach [a] X.env = [(false, eval a X.env)] := by rfl) : DE X W (.Call (.Name "abs" p) [a] [] pos) (fun t => do let xs ← ms t; absD xs) := de_callB call_abs by_abs hg hm (by decide +kernel) ha (by decide) (by decide) he rfl
theorem de_int_ (hg : Gl X "int") (hm : X.mg "int" = none) (ha : DA X W [a] ms) (he : starEach [a] X.env = [(false, eval a X.env)] := by rfl) : DE X W (.Call (.Name "int" p) [a] [] pos) (fun t => do let xs ← ms t; intD xs) := de_callTy call_int1 by_int hg hm (by decide +kernel) ha (by decide) (by decide) he rfl
theorem de_all (hc : X.calm = true) (hg : Gl X "all") (hm : X.mg "all" = none) (ha : DA X W [a] ms) (he : starEach [a] X.env = [(false, eval a X.env)] := by rfl) : DE X W (.Call (.Name "all" p) [a] [] pos) (fun t => do let xs ← ms t; allD xs) := de_callB (cr_all hc) by_all hg hm (by decide +kernel) ha (by decide) (by decide) he rfl
theorem de_any (hc : X.calm = true) (hg : Gl X "any") (hm : X.mg "any" = none) (ha : DA X W [a] ms) (he : starEach [a] X.env = [(false, eval a X.env)] := by rfl) : DE X W (.Call (.Name "any" p) [a] [] pos) (fun t => do let xs ← ms t; anyD xs) := de_callB (cr_any hc) by_any hg hm (by decide +kernel) ha (by decide) (by decide) he rfl
theorem de_min (hc : X.calm = true) (hg : Gl X "min") (hm : X.mg "min" = none) (ha : DA X W (a :: es) ms) (he : starEach (a :: es) X.env = (false, eval a X.env) :: starEach es X.env := by rfl) (hpl : (backTo pos (starEach es X.env)).any (·.1) = false := by rfl) : DE X W (.Call (.Name "min" p) (a :: es) [] pos) (fun t => do let xs ← ms t; minD xs) :=
  de_callB ((call_min2 hc).or (cr_min hc)) by_min hg hm (by decide +kernel) ha (by decide) (by decide) he hpl
theorem de_max (hc : X.calm = true) (hg : Gl X "max") (hm : X.mg "max" = none) (ha : DA X W (a :: es) ms) (he : starEach (a :: es) X.env = (false, eval a X.env) :: starEach es X.env := by rfl) (hpl : (backTo pos (starEach es X.env)).any (·.1) = false := by rfl) : DE X W (.Call (.Name "max" p) (a :: es) [] pos) (fun t => do let xs ← ms t; maxD xs) :=
  de_callB ((call_max2 hc).or (cr_max hc)) by_max hg hm (by decide +kernel) ha (by decide) (by decide) he hpl
theorem de_tuple_ (hg : Gl X "tuple") (hm : X.mg "tuple" = none) (ha : DA X W [a] ms) (he : starEach [a] X.env = [(false, eval a X.env)] := by rfl) : DE X W (.Call (.Name "tuple" p) [a] [] pos) (fun t => do let xs ← ms t; tupleD xs) := de_callTy call_tuple_of by_tuple hg hm (by decide +kernel) ha (by decide) (by decide) he rfl
theorem de_list_ (hg : Gl X "list") (hm : X.mg "list" = none) (ha : DA X W [a] ms) (he : starEach [a] X.env = [(false, eval a X.env)] := by rfl) : DE X W (.Call (.Name "list" p) [a] [] pos) (fun t => do let xs ← ms t; listD xs) := de_callTy call_list_of by_list hg hm (by decide +kernel) ha (by decide) (by decide) he rfl
end
/-! ### subscripts -/
def idxD : D → D → M D
  | .lst xs, .int i => match atI xs i with
    | some d => pure d
    | none => stuck
  | .tup xs, .int i => match atI xs i with
    | some d => pure d
    | none => stuck
  | .str z, .int i => if z.length ≤ sizeLine then match atI z.cps.toList i with
      | some c => pure (.str ⟨#[c]⟩)
      | none => stuck
    else stuck
  | _, _ => stuck
theorem atI_den {K : PySem.W.Frag} {p : List (List Addr)} {G : Hp} {ds : List D} {vs : List V} {i : Int} {d : D} (h : DenL K p G ds vs) (e : atI ds i = some d) : ∃ v, atI vs i = some v ∧ Den K p G d v := by
  unfold atI at e ⊢
  obtain ⟨j, e1, e2⟩ := Option.bind_eq_some_iff.mp e
  obtain ⟨v, e3, e4⟩ := h.get e2
  exact ⟨v, by rw [h.length, e1]; exact e3, e4⟩
theorem by_idx {K : PySem.W.Frag} : By2 K (rIx K) idxD := by
  intro d e v u p G H S W Q hd he r h
  cases d <;> cases e <;> try exact h.elim
  · rename_i z i
    unfold idxD at h
    dsimp only at h
    split at h
    · rename_i hz
      cases q : atI z.cps.toList i with
      | none => rw [q] at h; exact h.elim
      | some c =>
        rw [q] at h
        exact .inr (.inr ⟨z, i, c, hd, he, hz, q, okR.fin (v := V.str _) h rfl r⟩)
    · exact h.elim
  · rename_i xs i
    unfold idxD at h
    dsimp only at h
    cases q : atI xs i with
    | none => rw [q] at h; exact h.elim
    | some c =>
      rw [q] at h
      obtain ⟨a, vs, rfl, ha, hv⟩ := hd
      obtain ⟨w, e1, e2⟩ := atI_den hv q
      exact .inr (.inl ⟨a, vs, i, w, rfl, he, SqT.mono r.sub ha, e1, okR.fin h e2 r⟩)
  · rename_i xs i
    unfold idxD at h
    dsimp only at h
    cases q : atI xs i with
    | none => rw [q] at h; exact h.elim
    | some c =>
      rw [q] at h
      obtain ⟨a, vs, rfl, ha, hv⟩ := hd
      obtain ⟨w, e1, e2⟩ := atI_den hv q
      exact .inl ⟨a, vs, i, w, rfl, he, SqL.of (r.sub _ _ ha), e1, okR.fin h e2 r⟩
/-! ### slices -/
def cutL {α : Type} (xs : List α) (lo hi : Option Int) : List α := (xs.drop (HT.sIx xs.length 0 lo)).take (HT.sIx xs.length xs.length hi - HT.sIx xs.length 0 lo)
def sliceD : D → Option Int → Option Int → M D
  | .lst xs, lo, hi => pure (.lst (cutL xs lo hi))
  | .tup xs, lo, hi => pure (.tup (cutL xs lo hi))
  | .str z, lo, hi => if z.length ≤ sizeLine then pure (.str (cutS z lo hi)) else stuck
  | _, _, _ => stuck
def partD : D → M (Option Int)
  | .int i => pure (some i)
  | _ => stuck
def rO : List (List Addr) → Hp → Option Int → Option Int → Prop := fun _ _ a b => a = b
def tDO (K : PySem.W.Frag) (W : WX) (m : DSt → M (Option Int)) : TO := fun σ H Q => ∃ t p G S ow, RelS K p G S H t σ ow ∧ okR rO K p G H (fun c d H' => W c d σ H') (m t S) Q
abbrev DO (X : Cx) (W : WX) (e : Option Expr) (m : DSt → M (Option Int)) : Prop := PO X e (tDO X.K W m)
section
variable {X : Cx} {W : WX} {a b e : Expr} {ma mb : DSt → M D} {ml mh : DSt → M (Option Int)} {lo hi : Option Expr} {pos p2 : Pos}
theorem PO.imp {e : Option Expr} {t t' : TO} (h : PO X e t) (k : ∀ σ H Q, t' σ H Q → t σ H Q) : PO X e t' := ⟨fun pins s σ H Q I q => h.run pins s σ H Q I (k _ _ _ q)⟩
theorem do_none : DO X W none (fun _ => pure none) := PO.imp po_none fun σ H Q ⟨t, p, G, S, ow, r, h⟩ => okR.fin (d := none) h rfl r.rel
theorem do_some (ha : DE X W a ma) : DO X W (some a) (fun t => do let x ← ma t; partD x) := by
  refine PO.imp (po_some ha) fun σ H Q ⟨t, p, G, S, ow, r, h⟩ => ?_
  refine ⟨t, p, G, S, ow, r, okR.seq h fun d S1 v p1 G1 H1 e1 dn r1 x1 h1 => ?_⟩
  cases d with
  | int i => exact ⟨i, dn, okR.fin (d := some i) h1 rfl r1⟩
  | _ => exact h1.elim
theorem de_idx (ha : DE X W a ma) (hb : DE X W b mb) (hs : PlainIx b) : DE X W (.Subscript a b pos) (fun t => do let x ← ma t; let y ← mb t; idxD x y) := PE.imp (pe_ix ix_seq ha hb hs) fun _ _ _ h => tD2 by_idx h
theorem de_slice (ha : DE X W a ma) (hl : DO X W lo ml) (hh : DO X W hi mh) : DE X W (.Subscript a (.Slice lo hi none p2) pos) (fun t => do let x ← ma t; let l ← ml t; let h ← mh t; sliceD x l h) := by
  refine PE.imp (pe_slice (sl_list.or (sl_str.or sl_tupA)) ha hl hh) fun σ H Q ⟨t, p, G, S, ow, r, h⟩ => ?_
  refine ⟨t, p, G, S, ow, r, okR.seq h fun d S1 v p1 G1 H1 e1 dn r1 x1 h1 => ?_⟩
  refine ⟨t, p1, G1, S1, ow, r.ext x1 r1, okR.seq h1 fun l S2 l' p2 G2 H2 e2 dl r2 x2 h2 => ?_⟩
  refine ⟨t, p2, G2, S2, ow, (r.ext x1 r1).ext x2 r2, okR.seq h2 fun u S3 u' p3 G3 H3 e3 du r3 x3 h3 => ?_⟩
  cases dl
  cases du
  have dn' := (dn.mono x2.pp x2.g).mono x3.pp x3.g
  clear dn
  cases d <;> try exact h3.elim
  · rename_i z
    unfold sliceD at h3
    dsimp only at h3
    split at h3
    · rename_i hz
      exact .inr (.inl ⟨z, dn', hz, okR.fin (v := V.str _) h3 rfl r3⟩)
    · exact h3.elim
  · rename_i xs
    obtain ⟨b, vs, rfl, hb, hv⟩ := dn'
    have hlen := hv.length
    refine .inr (.inr ⟨b, vs, rfl, SqT.mono r3.sub hb, fun q => ?_, fun q l' hl' => okR.tup h3 r3 hl' ?_⟩)
    · have e : cutL xs l u = xs := by
        unfold cutL
        rw [hlen] at q
        rw [q.1, q.2, List.drop_zero, Nat.sub_zero, List.take_length]
      have h4 : okR (Den X.K) X.K p3 G3 H3 (fun c d H' => W c d σ H') (.ok (.tup (cutL xs l u)) S3) Q := h3
      rw [e] at h4
      exact okR.fin h4 ⟨b, vs, rfl, hb, hv⟩ r3
    · unfold cutL cutV
      rw [hlen]
      exact (hv.drop _).take _
  · rename_i xs
    obtain ⟨b, vs, rfl, hb, hv⟩ := dn'
    have hlen := hv.length
    refine .inl ⟨b, vs, rfl, SqL.of (r3.sub _ _ hb), fun l' hl' => okR.lst h3 r3 hl' ?_⟩
    unfold cutL cutV
    rw [hlen]
    exact (hv.drop _).take _
end
/-! ### membership -/
def flatD : D → Bool
  | .non => true
  | .bl _ => true
  | .int _ => true
  | .str _ => true
  | _ => false
def eqF : D → D → Bool
  | .non, .non => true
  | .bl a, .bl b => a == b
  | .bl a, .int b => (if a then 1 else 0) == b
  | .int a, .bl b => a == (if b then 1 else 0)
  | .int a, .int b => a == b
  | .str a, .str b => a == b
  | _, _ => false
def memD (x : D) (xs : List D) : Bool := xs.any fun y => eqF y x
def signIn (neg : Bool) (z : Str) : List Nat → M D
  | [c] => pure (.bl (if neg then !decide (c ∈ z.cps.toList) else decide (c ∈ z.cps.toList)))
  | _ => stuck
def inD (neg : Bool) : D → D → M D
  | .str x, .str z => signIn neg z x.cps.toList
  | x, .lst xs => if flatD x = true ∧ xs.all flatD = true then pure (.bl (if neg then !memD x xs else memD x xs)) else stuck
  | x, .tup xs => if flatD x = true ∧ xs.all flatD = true then pure (.bl (if neg then !memD x xs else memD x xs)) else stuck
  | _, _ => stuck
section
variable {K : PySem.W.Frag} {p : List (List Addr)} {G : Hp}
theorem flat_den {d : D} {v : V} (h : Den K p G d v) (f : flatD d = true) : flatV v = true := by
  cases d <;> first | (cases (show v = _ from h); rfl) | cases f
theorem flat_all : ∀ {ds : List D} {vs : List V}, DenL K p G ds vs → ds.all flatD = true → vs.all flatV = true
  | [], _, h, _ => by cases (show _ = [] from h); rfl
  | d :: ds, _, ⟨v, r, h1, h2, h3⟩, f => by
    rw [List.all_cons, Bool.and_eq_true] at f
    rw [h1, List.all_cons, Bool.and_eq_true]
    exact ⟨flat_den h2 f.1, flat_all h3 f.2⟩
theorem eqF_den {d e : D} {v u : V} (h : Den K p G d v) (k : Den K p G e u) (f : flatD d = true) (g : flatD e = true) : eqV v u = eqF d e := by
  cases d <;> first | (cases (show v = _ from h); cases e <;> first | (cases (show u = _ from k); rfl) | cases g) | cases f
theorem mem_den {x : D} {v : V} (hx : Den K p G x v) (fx : flatD x = true) : ∀ {ds : List D} {vs : List V}, DenL K p G ds vs → ds.all flatD = true → inV v vs = memD x ds
  | [], _, h, _ => by cases (show _ = [] from h); rfl
  | d :: ds, _, ⟨u, r, h1, h2, h3⟩, f => by
    rw [List.all_cons, Bool.and_eq_true] at f
    have := mem_den hx fx h3 f.2
    unfold inV memD at this ⊢
    rw [h1, List.any_cons, List.any_cons, this, eqF_den h2 hx f.1 fx]
end
theorem by_in {K : PySem.W.Frag} (neg : Bool) : By2 K (fun x y H Q => (∃ (c : Nat) (z : Str), x = .str ⟨#[c]⟩ ∧ y = .str z ∧ Q (.bl (if neg then !decide (c ∈ z.cps.toList) else decide (c ∈ z.cps.toList))) H) ∨ rIn K neg x y H Q) (inD neg) := by
  intro d e v u p G H S W Q hd he r h
  unfold inD at h
  split at h
  · rename_i x z
    cases ex : x.cps.toList with
    | nil => rw [ex] at h; exact h.elim
    | cons c cs =>
      cases cs with
      | cons c2 cs => rw [ex] at h; exact h.elim
      | nil =>
        rw [ex] at h
        refine .inl ⟨c, z, ?_, he, okR.fin (v := V.bl _) h rfl r⟩
        rw [(show v = _ from hd)]
        obtain ⟨xs⟩ := x
        have : xs = #[c] := Array.ext' ex
        rw [this]
  · rename_i xs
    by_cases hz : flatD d = true ∧ xs.all flatD = true
    · rw [if_pos hz] at h
      obtain ⟨a, vs, rfl, ha, hv⟩ := he
      refine .inr ⟨a, vs, rfl, .inl (SqL.of (r.sub _ _ ha)), flat_den hd hz.1, flat_all hv hz.2, ?_⟩
      rw [mem_den hd hz.1 hv hz.2]
      exact okR.fin (v := V.bl _) h rfl r
    · rw [if_neg hz] at h
      exact h.elim
  · rename_i xs
    by_cases hz : flatD d = true ∧ xs.all flatD = true
    · rw [if_pos hz] at h
      obtain ⟨a, vs, rfl, ha, hv⟩ := he
      refine .inr ⟨a, vs, rfl, .inr (SqT.mono r.sub ha), flat_den hd hz.1, flat_all hv hz.2, ?_⟩
      rw [mem_den hd hz.1 hv hz.2]
      exact okR.fin (v := V.bl _) h rfl r
    · rw [if_neg hz] at h
      exact h.elim
  · exact h.elim
section
variable {X : Cx} {W : WX} {a b : Expr} {ma mb : DSt → M D} {pos : Pos}
theorem op_inA : OpR X (compareOp .In) (fun x y H Q => (∃ (c : Nat) (z : Str), x = .str ⟨#[c]⟩ ∧ y = .str z ∧ Q (.bl (if false then !decide (c ∈ z.cps.toList) else decide (c ∈ z.cps.toList))) H) ∨ rIn X.K false x y H Q) := op_in_sign.or op_in_seq
theorem op_notInA : OpR X (compareOp .NotIn) (fun x y H Q => (∃ (c : Nat) (z : Str), x = .str ⟨#[c]⟩ ∧ y = .str z ∧ Q (.bl (if true then !decide (c ∈ z.cps.toList) else decide (c ∈ z.cps.toList))) H) ∨ rIn X.K true x y H Q) := op_notIn_sign.or op_notIn_seq
theorem de_in (ha : DE X W a ma) (hb : DE X W b mb) (hm : behindInMarks .In b = false := by rfl) : DE X W (.Compare a [.In] [b] pos) (fun t => do let x ← ma t; let y ← mb t; inD false x y) := de_cmp op_inA (by_in false) ha hb hm
theorem de_notin (ha : DE X W a ma) (hb : DE X W b mb) (hm : behindInMarks .NotIn b = false := by rfl) : DE X W (.Compare a [.NotIn] [b] pos) (fun t => do let x ← ma t; let y ← mb t; inD true x y) := de_cmp op_notInA (by_in true) ha hb hm
theorem dt_in (ha : DE X W a ma) (hb : DE X W b mb) (hm : behindInMarks .In b = false := by rfl) : DT X W (.Compare a [.In] [b] pos) (fun t => do let x ← (do let x ← ma t; let y ← mb t; inD false x y); asB x) := dt_cmp op_inA (by_in false) ha hb hm
theorem dt_notin (ha : DE X W a ma) (hb : DE X W b mb) (hm : behindInMarks .NotIn b = false := by rfl) : DT X W (.Compare a [.NotIn] [b] pos) (fun t => do let x ← (do let x ← ma t; let y ← mb t; inD true x y); asB x) := dt_cmp op_notInA (by_in true) ha hb hm
end
/-! ### sep.join(list) -/
def joinD : D → D → M D
  | .str a, .lst xs => match toStrs xs with
    | some ys => if (ys.map (·.length)).sum + ys.length * a.length ≤ 16777216 then pure (.str (Txt.join a ys)) else stuck
    | none => stuck
  | .str a, .tup xs => match toStrs xs with
    | some ys => if (ys.map (·.length)).sum + ys.length * a.length ≤ 16777216 then pure (.str (Txt.join a ys)) else stuck
    | none => stuck
  | _, _ => stuck
theorem joinD_str {d e : D} {S : Sto} {c : D} {S' : Sto} (h : joinD d e S = .ok c S') : ∃ a, d = .str a := by
  unfold joinD at h
  split at h
  · exact ⟨_, rfl⟩
  · exact ⟨_, rfl⟩
  · cases h
section
variable {X : Cx} {W : WX} {a b : Expr} {ma mb : DSt → M D} {pos apos : Pos}
/-- the receiver is known to be a text -/
def strD : D → M Str
  | .str a => pure a
  | _ => stuck
theorem de_join (ha : DE X W a ma) (hb : DE X W b mb) (hs : starEach [b] X.env = [(false, eval b X.env)] := by rfl) (hbase : attributeBase a "join" X.env (eval a X.env) = eval a X.env := by rfl) (hline : (apos.endLine == pos.line) = true := by rfl) :
    DE X W (.Call (.Attribute a "join" apos) [b] [] pos) (fun t => do let x ← ma t; let s ← strD x; let y ← mb t; joinD (.str s) y) := by
  refine PE.imp (pe_join ha hb hs hbase hline) fun σ H Q ⟨t, p, G, S, ow, r, h⟩ => ?_
  refine ⟨t, p, G, S, ow, r, okR.seq h fun d S1 v p1 G1 H1 e1 dn r1 x1 h1 => ?_⟩
  cases d <;> try exact h1.elim
  rename_i s
  refine ⟨⟨s, dn⟩, tD.next r x1 r1 (okR.seq (m := mb t) (f := fun y => joinD (.str s) y) h1 fun d2 S2 v2 p2 G2 H2 e2 dn2 r2 x2 h2 => ?_)⟩
  unfold joinD at h2
  cases d2 <;> try exact h2.elim
  · rename_i xs
    obtain ⟨l, vs, rfl, hl, hv⟩ := dn2
    dsimp only at h2
    cases e : toStrs xs with
    | none => rw [e] at h2; exact h2.elim
    | some ys =>
      rw [e] at h2
      dsimp only at h2
      split at h2
      · rename_i hz
        rw [toStrs_den hv e] at hl
        exact ⟨s, l, ys, dn, rfl, .inr (SqT.mono r2.sub hl), hz, okR.fin (v := V.str _) h2 rfl r2⟩
      · exact h2.elim
  · rename_i xs
    obtain ⟨l, vs, rfl, hl, hv⟩ := dn2
    dsimp only at h2
    cases e : toStrs xs with
    | none => rw [e] at h2; exact h2.elim
    | some ys =>
      rw [e] at h2
      dsimp only at h2
      split at h2
      · rename_i hz
        rw [toStrs_den hv e] at hl
        exact ⟨s, l, ys, dn, rfl, .inl (SqL.of (r2.sub _ _ hl)), hz, okR.fin (v := V.str _) h2 rfl r2⟩
      · exact h2.elim
end
end RM

/-! RM: isinstance. -/
namespace RM
open PySem PySem.Spec PyProof.Rows L2

inductive Ty where
  | b (n : String) | o (c : Str)
  deriving DecidableEq
def builtinKinds : List String := ["NoneType", "bool", "int", "str", "tuple", "list", "dict"]
def askedTypes : List String := ["int", "bool", "str", "tuple", "list", "dict"]
def kindD : D → Option Ty
  | .non => some (.b "NoneType")
  | .bl _ => some (.b "bool")
  | .int _ => some (.b "int")
  | .str _ => some (.b "str")
  | .tup _ => some (.b "tuple")
  | .lst _ => some (.b "list")
  | .dic _ _ => some (.b "dict")
  | .ins c _ _ => some (.o c)
  | .mref _ => none
  | .scr _ => none
def isKind : Ty → Ty → Bool
  | .b n, .b m => n == m || (n == "bool" && m == "int")
  | .o c, .o e => decide (c = e)
  | _, _ => false
def tyOk (cs : List Str) : Ty → Bool
  | .b n => decide (n ∈ askedTypes)
  | .o c => decide (c ∈ cs)
def kindOk (cs : List Str) : Ty → Bool
  | .b n => decide (n ∈ builtinKinds)
  | .o c => decide (c ∈ cs)
def isiD (cs : List Str) (ts : List Ty) (d : D) : M D := match kindD d with
  | some k => if kindOk cs k = true ∧ ts.all (tyOk cs) = true then pure (.bl (ts.any fun t => isKind k t)) else stuck
  | none => stuck
def tyVal (K : PySem.W.Frag) : Ty → Value
  | .b n => .type n
  | .o c => .ref (He.ga K c)
def tyV' (K : PySem.W.Frag) : Ty → V
  | .b n => .ty n
  | .o c => .ref (He.ga K c)
/-- what the head must tell of the plain classes -/
def clsB (K : PySem.W.Frag) (cs : List Str) : Bool := cs.all fun c =>
  (He.Fa.cls c).ok K && He.eqO (PySem.W.findIn K (.ref (He.ga K c)) "__class__") (some (some (.builtin "object.__class__"))) &&
  He.eqO (PySem.W.specialIn K (.builtin "object.__class__") "__get__") (some (some (.builtin "getset_descriptor.__get__"))) && decide (PySem.W.takesIn K (.builtin "object.__class__") = some true) &&
  decide (PySem.W.mroIn K (He.ga K c) (.type "object") = some true) && (askedTypes.all fun n => decide (PySem.W.kitOne K (.ref (He.ga K c)) (.type n) = some false)) &&
  (builtinKinds.all fun n => decide (PySem.W.kitOne K (.type n) (.ref (He.ga K c)) = some false)) && cs.all fun e => decide (PySem.W.kitOne K (.ref (He.ga K c)) (.ref (He.ga K e)) = some (decide (c = e)))
structure ClsT (K : PySem.W.Frag) (cs : List Str) : Prop where
  cl : ∀ c ∈ cs, Cls K (He.ga K c)
  ha : ∀ c ∈ cs, PySem.W.findIn K (.ref (He.ga K c)) "__class__" = some (some (.builtin "object.__class__"))
  hn : ∀ c ∈ cs, PySem.W.specialIn K (.builtin "object.__class__") "__get__" = some (some (.builtin "getset_descriptor.__get__"))
  ht : ∀ c ∈ cs, PySem.W.takesIn K (.builtin "object.__class__") = some true
  hm : ∀ c ∈ cs, PySem.W.mroIn K (He.ga K c) (.type "object") = some true
  ob : ∀ c ∈ cs, ∀ n ∈ askedTypes, PySem.W.kitOne K (.ref (He.ga K c)) (.type n) = some false
  bo : ∀ c ∈ cs, ∀ n ∈ builtinKinds, PySem.W.kitOne K (.type n) (.ref (He.ga K c)) = some false
  oo : ∀ c ∈ cs, ∀ e ∈ cs, PySem.W.kitOne K (.ref (He.ga K c)) (.ref (He.ga K e)) = some (decide (c = e))
theorem clsB_ok {K : PySem.W.Frag} {cs : List Str} (h : clsB K cs = true) : ClsT K cs := by
  have k : ∀ c ∈ cs, _ := fun c hc => List.all_eq_true.mp h c hc
  simp only [Bool.and_eq_true, List.all_eq_true, decide_eq_true_eq] at k
  exact ⟨fun c hc => He.cls_ok (k c hc).1.1.1.1.1.1.1, fun c hc => He.eqO_ok (k c hc).1.1.1.1.1.1.2, fun c hc => He.eqO_ok (k c hc).1.1.1.1.1.2, fun c hc => (k c hc).1.1.1.1.2, fun c hc => (k c hc).1.1.1.2,
    fun c hc n hn => (k c hc).1.1.2 n hn, fun c hc n hn => (k c hc).1.2 n hn, fun c hc e he => (k c hc).2 e he⟩
theorem kit_bb : ∀ n ∈ builtinKinds, ∀ m ∈ askedTypes, kitB n m = some (n == m || (n == "bool" && m == "int")) := by decide +kernel
theorem kit_all {K : PySem.W.Frag} {cs : List Str} (T : ClsT K cs) {k t : Ty} (hk : kindOk cs k = true) (ht : tyOk cs t = true) : PySem.W.kitOne K (tyVal K k) (tyVal K t) = some (isKind k t) := by
  cases k with
  | b n =>
    cases t with
    | b m => exact kit_ty (kit_bb n (of_decide_eq_true hk) m (of_decide_eq_true ht))
    | o c => exact T.bo c (of_decide_eq_true ht) n (of_decide_eq_true hk)
  | o c =>
    cases t with
    | b m => exact T.ob c (of_decide_eq_true hk) m (of_decide_eq_true ht)
    | o e => exact T.oo c (of_decide_eq_true hk) e (of_decide_eq_true ht)
theorem kit_anyD {K : PySem.W.Frag} {cs : List Str} (T : ClsT K cs) {k : Ty} (hk : kindOk cs k = true) : ∀ {ts : List Ty}, ts.all (tyOk cs) = true → PySem.W.kitAny K (tyVal K k) (ts.map (tyVal K)) = some (ts.any fun t => isKind k t)
  | [], _ => kitAny_nil
  | t :: ts, h => by
    rw [List.all_cons, Bool.and_eq_true] at h
    refine kitAny_cons (kit_all T hk h.1) (fun e => ?_) fun e => ?_
    · rw [List.any_cons, e, Bool.false_or]
      exact kit_anyD T hk h.2
    · rw [List.any_cons, e, Bool.true_or]
theorem SqL.tyx {K : PySem.W.Frag} {H : Hp} {a : Addr} {vs : List V} (h : SqL K H a vs) : TyX K H (.ref a) (.type "list") := by
  rcases h with (h | ⟨o, h⟩) | ⟨o, its, n, hk, hc, _⟩
  · exact .base (.lst h)
  · exact .base (.frz h)
  · exact .kList hk hc
theorem SqT.tyx {K : PySem.W.Frag} {H : Hp} {a : Addr} {vs : List V} (h : SqT K H a vs) : TyX K H (.ref a) (.type "tuple") := by
  rcases h with (h | ⟨o, h⟩) | ⟨o, its, n, hk, hc, _⟩
  · exact .base (.tup h)
  · exact .fTuple h
  · exact .kTuple hk hc
theorem kind_ty {K : PySem.W.Frag} {cs : List Str} {p : List (List Addr)} {S : Sto} {G H : Hp} (T : ClsT K cs) {d : D} {v : V} {k : Ty} (hd : Den K p G d v) (r : Rel0 K p S G H) (e : kindD d = some k) (hk : kindOk cs k = true) : TyX K H v (tyVal K k) := by
  cases d <;> cases e
  · cases (show v = _ from hd); exact .base .non
  · cases (show v = _ from hd); exact .base (.bl _)
  · cases (show v = _ from hd); exact .base (.int _)
  · cases (show v = _ from hd); exact .base (.str _)
  · obtain ⟨a, vs, rfl, ha, _⟩ := hd
    exact SqT.tyx (SqT.mono r.sub ha)
  · obtain ⟨a, vs, rfl, ha, _⟩ := hd
    exact .base (.lst (r.sub _ _ ha))
  · rename_i c ns fs
    obtain ⟨a, dx, vs, rfl, ha, _⟩ := hd
    have hc : c ∈ cs := of_decide_eq_true hk
    exact .base (.ins (r.sub _ _ ha) (T.cl c hc) (T.ha c hc) (T.hn c hc) (T.ht c hc) (T.hm c hc))
  · obtain ⟨a, vs, rfl, ha, _⟩ := hd
    exact .base (.dK (r.sub _ _ ha))
theorem clsV_of {K : PySem.W.Frag} (t : Ty) : ClsV (tyV' K t) (tyVal K t) := by
  cases t with
  | b n => exact .ty n
  | o c => exact .own _
section
variable {X : Cx} {W : WX} {a b b2 : Expr} {ma : DSt → M D} {pos p pt : Pos} {cs : List Str} {x1 : Nat}
theorem isi_split {K : PySem.W.Frag} {p : List (List Addr)} {G H : Hp} {S : Sto} {Wf : Value → Option Addr → Hp → Prop} {Q : VK} {ts : List Ty} {d : D} (h : okR (Den K) K p G H Wf (isiD cs ts d S) Q) : ∃ k, kindD d = some k ∧ kindOk cs k = true ∧ ts.all (tyOk cs) = true ∧ okR (Den K) K p G H Wf (.ok (.bl (ts.any fun t => isKind k t)) S) Q := by
  unfold isiD at h
  cases e : kindD d with
  | none => rw [e] at h; exact h.elim
  | some k =>
    rw [e] at h
    dsimp only at h
    by_cases hz : kindOk cs k = true ∧ ts.all (tyOk cs) = true
    · rw [if_pos hz] at h
      exact ⟨k, rfl, hz.1, hz.2, h⟩
    · rw [if_neg hz] at h
      exact h.elim
theorem de_isi (T : ClsT X.K cs) (t : Ty) (hg : Gl X "isinstance") (hm : X.mg "isinstance" = none) (ha : DE X W a ma) (hb : PE X b (tC (tyV' X.K t))) (hs : starEach [a, b] X.env = (false, eval a X.env) :: starEach [b] X.env := by rfl) (hs2 : starEach [b] X.env = [(false, eval b X.env)] := by rfl)
    (hpl : (backTo pos (starEach [b] X.env)).any (·.1) = false := by rfl) : DE X W (.Call (.Name "isinstance" p) [a, b] [] pos) (fun s => do let x ← ma s; isiD cs [t] x) := by
  refine PE.imp (pe_callB call_isi hg hm (by decide +kernel) (pa_cons ha (pa_cons hb pa_nil hs2) hs) (by decide) (by decide) hs hpl) fun σ H Q ⟨s, q, G, S, ow, r, h⟩ => ?_
  refine ⟨s, q, G, S, ow, r, okR.seq h fun d S1 v p1 G1 H1 e1 dn r1 x1 h1 => ?_⟩
  obtain ⟨k, e, hk, ht, h2⟩ := isi_split h1
  rw [List.all_cons, List.all_nil, Bool.and_true] at ht
  refine ⟨v, tyV' X.K t, tyVal X.K k, tyVal X.K t, isKind k t, rfl, clsV_of t, kind_ty T dn r1 e hk, kit_all T hk ht, ?_⟩
  have h3 : okR (Den X.K) X.K p1 G1 H1 (fun c d H' => W c d σ H') (.ok (.bl ([t].any fun t => isKind k t)) S1) Q := h2
  rw [List.any_cons, List.any_nil, Bool.or_false] at h3
  exact okR.fin (v := V.bl _) h3 rfl r1
theorem de_isi2 (T : ClsT X.K cs) (t u : Ty) (hg : Gl X "isinstance") (hm : X.mg "isinstance" = none) (ha : DE X W a ma) (hb : PE X b (tC (tyV' X.K t))) (hb2 : PE X b2 (tC (tyV' X.K u))) (hs : starEach [a, .Tuple [b, b2] x1 pt] X.env = (false, eval a X.env) :: starEach [.Tuple [b, b2] x1 pt] X.env := by rfl)
    (hs2 : starEach [.Tuple [b, b2] x1 pt] X.env = [(false, eval (.Tuple [b, b2] x1 pt) X.env)] := by rfl) (hs3 : starEach [b, b2] X.env = (false, eval b X.env) :: starEach [b2] X.env := by rfl) (hs4 : starEach [b2] X.env = [(false, eval b2 X.env)] := by rfl)
    (hpl : (backTo pos (starEach [.Tuple [b, b2] x1 pt] X.env)).any (·.1) = false := by rfl) : DE X W (.Call (.Name "isinstance" p) [a, .Tuple [b, b2] x1 pt] [] pos) (fun s => do let x ← ma s; isiD cs [t, u] x) := by
  refine PE.imp (pe_callB call_isiT hg hm (by decide +kernel) (pa_cons ha (pa_cons (pe_tup (pa_cons hb (pa_cons hb2 pa_nil hs4) hs3)) pa_nil hs2) hs) (by decide) (by decide) hs hpl) fun σ H Q ⟨s, q, G, S, ow, r, h⟩ => ?_
  refine ⟨s, q, G, S, ow, r, okR.seq h fun d S1 v p1 G1 H1 e1 dn r1 x1 h1 => ?_⟩
  obtain ⟨k, e, hk, ht, h2⟩ := isi_split h1
  refine ⟨by show 2 ≤ sizeLine; decide, fun l hl => ?_⟩
  have nw := r1.new (.tup [tyV' X.K t, tyV' X.K u]) hl
  have dn2 := dn.upd (o := .tup [tyV' X.K t, tyV' X.K u]) (r1.gfree hl)
  exact ⟨v, l, [tyV' X.K t, tyV' X.K u], tyVal X.K k, [t, u].map (tyVal X.K), _, rfl, upd_same, .cons (clsV_of t) (.cons (clsV_of u) .nil), kind_ty T dn2 nw.1 e hk, kit_anyD T hk ht, h2 (V.bl _) _ _ _ rfl nw.1 nw.2⟩
theorem pe_ty (n : String) {x : Str} (hg : Gl X x) (hm : X.mg x = none) (hv : bootBuiltins x = some (.type n)) (hn : x ≠ "__name__" := by decide) (hd : (x == ("__debug__" : Str)) = false := by decide) : PE X (.Name x pos) (tC (tyV' X.K (.b n))) := pe_bltn hg hm hv rfl hn hd
theorem pe_own (c : Str) (hg : Gl X c) (hm : X.mg c = some (.ref (He.ga X.K c))) (hd : (c == ("__debug__" : Str)) = false := by decide) : PE X (.Name c pos) (tC (tyV' X.K (.o c))) := pe_glob hg hm rfl hd
end
end RM

/-! RM: lists that a def's own name holds alone: made, changed, frozen. -/
namespace RM
open PySem PySem.Spec PyProof.Rows L2

/-! ### new lists -/
section
variable {X : Cx} {W : WX} {a b : Expr} {es : List Expr} {ma mb : DSt → M D} {ms : DSt → M (List D)} {pos p : Pos}
/-- a list is laid -/
theorem okF.lay {K : PySem.W.Frag} {p : List (List Addr)} {G H : Hp} {W : Value → Option Addr → Hp → Prop} {xs : List D} {vs : List V} {S : Sto} {Q : VK} {l : Addr} (h : okF K p G H W (.ok xs S) Q) (r : Rel0 K p S G H) (hl : H l = none) (dn : DenL K p G xs vs) : Q (.ref l) (upd H l (.lst vs)) := by
  have gl := r.gfree hl
  have pl : l ∉ p.flatten := fun z => r.dom z hl
  refine h l vs p G _ hl upd_same dn gl pl (r.own _ pl gl) ⟨Same.refl _, fun _ z _ => z, fun b o e _ => ?_, fun b e => ?_, [], by simp, by simp⟩
  · rw [upd_ne (ne_of_none e hl)]; exact e
  · by_cases q : b = l
    · subst q; rw [upd_same]; simp
    · rw [upd_ne q]; exact e
def sizeL (xs : List D) : M (List D) := if xs.length ≤ sizeLine then pure xs else stuck
theorem df_lst (h : DA X W es ms) : DF X W (.List es pos) (fun t => do let xs ← ms t; sizeL xs) := by
  refine PE.imp (pe_lst h) fun σ H Q ⟨t, p, G, S, ow, r, h⟩ => ?_
  refine ⟨t, p, G, S, ow, r, okF.seq h fun d S1 v p1 G1 H1 e1 dn r1 x1 h1 => ?_⟩
  unfold sizeL at h1
  split at h1
  · exact ⟨by rw [dn.length]; assumption, fun l hl => okF.lay h1 r1 hl dn⟩
  · exact h1.elim
def listF : D → M (List D)
  | .lst xs => pure xs
  | .tup xs => pure xs
  | _ => stuck
theorem df_list (hg : Gl X "list") (hm : X.mg "list" = none) (ha : DE X W a ma) (he : starEach [a] X.env = [(false, eval a X.env)] := by rfl) : DF X W (.Call (.Name "list" p) [a] [] pos) (fun t => do let x ← ma t; listF x) := by
  refine PE.imp (pe_callTy call_list_of hg hm (by decide +kernel) (pa_cons ha pa_nil he) (by decide) (by decide) he rfl) fun σ H Q ⟨t, p, G, S, ow, r, h⟩ => ?_
  refine ⟨t, p, G, S, ow, r, okF.seq h fun d S1 v p1 G1 H1 e1 dn r1 x1 h1 => ?_⟩
  cases d <;> try exact h1.elim
  · obtain ⟨l, vs, rfl, hl, hv⟩ := dn
    exact ⟨l, vs, rfl, .inr (SqT.mono r1.sub hl), fun q hq => okF.lay h1 r1 hq hv⟩
  · obtain ⟨l, vs, rfl, hl, hv⟩ := dn
    exact ⟨l, vs, rfl, .inl (SqL.of (r1.sub _ _ hl)), fun q hq => okF.lay h1 r1 hq hv⟩
def catF : D → D → M (List D)
  | .lst xs, .lst ys => if xs.length + ys.length ≤ sizeLine then pure (xs ++ ys) else stuck
  | _, _ => stuck
theorem df_add (ha : DE X W a ma) (hb : DE X W b mb) : DF X W (.BinOp a .Add b pos) (fun t => do let x ← ma t; let y ← mb t; catF x y) := by
  refine PE.imp (pe_op op_cat ha hb) fun σ H Q ⟨t, p, G, S, ow, r, h⟩ => ?_
  refine ⟨t, p, G, S, ow, r, okF.seq h fun d S1 v p1 G1 H1 e1 dn r1 x1 h1 => ?_⟩
  refine tD.next r x1 r1 (okF.seq h1 fun d2 S2 v2 p2 G2 H2 e2 dn2 r2 x2 h2 => ?_)
  cases d <;> try exact h2.elim
  cases d2 <;> try exact h2.elim
  unfold catF at h2
  dsimp only at h2
  split at h2
  · rename_i hz
    obtain ⟨l, vs, rfl, hl, hv⟩ := dn.mono x2.pp x2.g
    obtain ⟨k, us, rfl, hk, hu⟩ := dn2
    exact ⟨l, k, vs, us, rfl, rfl, r2.sub _ _ hl, r2.sub _ _ hk, by rw [hv.length, hu.length]; exact hz, fun q hq => okF.lay h2 r2 hq (hv.append hu)⟩
  · exact h2.elim
end
/-! ### slots that hold a list alone -/
def getO (t : DSt) (i : Nat) : M (List D) := match t[i]? with
  | some (some (.own xs)) => pure xs
  | _ => stuck
theorem getO_of (t : DSt) (i : Nat) : (∃ xs, t[i]? = some (some (.own xs)) ∧ getO t i = pure xs) ∨ getO t i = stuck := by
  unfold getO
  split
  · rename_i d e
    exact .inl ⟨d, e, rfl⟩
  · exact .inr rfl
theorem SlotsR.getO {K : PySem.W.Frag} {p : List (List Addr)} {G H : Hp} : ∀ {t : DSt} {σ : L2.St} {ow : List Addr} {i : Nat} {xs : List D}, SlotsR K p G H t σ ow → t[i]? = some (some (.own xs)) → ∃ a vs, σ[i]? = some (some (.ref a)) ∧ a ∈ ow ∧ H a = some (.lst vs) ∧ DenL K p G xs vs
  | [], _, _, _, _, _, e => by simp at e
  | _ :: _, _, _, 0, d, ⟨v, r, l, m, h1, h2, h3, h4⟩, e => by
    simp at e; subst e
    obtain ⟨a, vs, e1, e2, e3, e4⟩ := h3
    exact ⟨a, vs, by rw [h1, e2]; rfl, by rw [h2, e1]; simp, e3, e4⟩
  | _ :: _, _, _, i + 1, d, ⟨v, r, l, m, h1, h2, h3, h4⟩, e => by
    obtain ⟨a, vs, e1, e2, e3, e4⟩ := SlotsR.getO (i := i) h4 (by simpa using e)
    exact ⟨a, vs, by rw [h1]; simpa using e1, by rw [h2]; exact List.mem_append_right _ e2, e3, e4⟩
/-- the list at the i-th slot becomes another one (its object changed), the others stay -/
theorem SlotsR.putO {K : PySem.W.Frag} {p : List (List Addr)} {G H H' : Hp} {a : Addr} {ys : List D} {us : List V} (hk : ∀ b, b ≠ a → H' b = H b) (ha : H' a = some (.lst us)) (dn : DenL K p G ys us) : ∀ {t : DSt} {σ : L2.St} {ow : List Addr} {i : Nat} {xs : List D},
    SlotsR K p G H t σ ow → ow.Nodup → t[i]? = some (some (.own xs)) → σ[i]? = some (some (.ref a)) → SlotsR K p G H' (t.set i (some (.own ys))) σ ow
  | [], _, _, _, _, _, _, e, _ => by simp at e
  | _ :: _, _, _, 0, xs, ⟨v, r, l, m, h1, h2, h3, h4⟩, nd, e, eσ => by
    simp at e; subst e
    obtain ⟨b, vs, e1, e2, e3, e4⟩ := h3
    rw [h1] at eσ
    simp at eσ
    rw [e2] at eσ
    cases eσ
    subst e1
    rw [h2] at nd
    refine ⟨v, r, [a], m, h1, h2, ⟨a, us, rfl, e2, ha, dn⟩, SlotsR.mono ⟨[], by simp⟩ (Same.refl _) (fun b hb => hk b ?_) h4⟩
    rintro rfl
    simp at nd
    exact nd.1 hb
  | s :: _, _, _, i + 1, xs, ⟨v, r, l, m, h1, h2, h3, h4⟩, nd, e, eσ => by
    rw [h2] at nd
    rw [h1] at eσ
    have nd2 := (List.nodup_append.mp nd).2.1
    obtain ⟨a2, vs, q1, q2, q3, q4⟩ := SlotsR.getO (i := i) h4 (by simpa using e)
    have ea : a2 = a := by
      have : r[i]? = some (some (.ref a)) := by simpa using eσ
      rw [q1] at this
      cases this
      rfl
    subst ea
    refine ⟨v, r, l, m, h1, h2, SlotR.mono ⟨[], by simp⟩ (Same.refl _) (fun b hb => hk b ?_) h3, SlotsR.putO hk ha dn (i := i) h4 nd2 (by simpa using e) (by simpa using eσ)⟩
    rintro rfl
    exact (List.nodup_append.mp nd).2.2 b hb b q2 rfl
/-- an own list's object is changed -/
theorem RelF.putO {K : PySem.W.Frag} {n : Snap} {p : List (List Addr)} {G H : Hp} {S : Sto} {t : DSt} {σ : L2.St} {ow : List Addr} {i : Nat} {xs ys : List D} {a : Addr} {us : List V} (r : RelF K n p G S H t σ ow) (e : t[i]? = some (some (.own xs))) (eσ : σ[i]? = some (some (.ref a))) (ha : a ∈ ow) (dn : DenL K p G ys us) :
    RelF K n p G S (upd H a (.lst us)) (t.set i (some (.own ys))) σ ow := by
  have ga := r.rs.gn a ha
  have pa : a ∉ p.flatten := fun z => (List.nodup_append.mp r.rs.nd).2.2 a z a ha rfl
  have h0 := r.own a ha
  refine ⟨⟨r.rs.rel.own _ pa ga, SlotsR.putO (fun b hb => upd_ne hb) upd_same dn r.rs.sl (List.nodup_append.mp r.rs.nd).2.1 e eσ, r.rs.nd, r.rs.gn⟩, ⟨r.ext.g, r.ext.gn, fun b o e1 e2 => ?_, fun b e1 => ?_, r.ext.p⟩, r.own, r.fp, r.fg⟩
  · rw [upd_ne (ne_of_none e1 h0)]
    exact r.ext.h b o e1 e2
  · by_cases q : b = a
    · subst q; rw [upd_same]; simp
    · rw [upd_ne q]; exact r.ext.d b e1
/-- a slot gets a new list for itself -/
theorem RelF.newO {K : PySem.W.Frag} {n : Snap} {p p1 : List (List Addr)} {G H G1 H1 : Hp} {S S1 : Sto} {t : DSt} {σ : L2.St} {ow : List Addr} {i : Nat} {xs : List D} {a : Addr} {vs : List V} (r : RelF K n p G S H t σ ow) (hi : i < t.length) (e : Ext p G H p1 G1 H1) (r1 : Rel0 K p1 S1 G1 H1) (h0 : H a = none)
    (ha : H1 a = some (.lst vs)) (dn : DenL K p1 G1 xs vs) (ga : G1 a = none) (pa : a ∉ p1.flatten) : ∃ ow', RelF K n p1 G1 S1 H1 (t.set i (some (.own xs))) (σ.set i (some (.ref a))) ow' := by
  have r' := r.step e r1
  obtain ⟨u, l, b, eo, q⟩ := SlotsR.set (s := some (.own xs)) (v := some (V.ref a)) (l' := [a]) ⟨a, vs, rfl, rfl, ha, dn⟩ i hi r'.rs.sl
  subst eo
  have nin : a ∉ u ++ l ++ b := fun z => r.rs.sl.dom a z h0
  have nH : n.H a = none := by
    cases z : n.H a with
    | none => rfl
    | some o => exact absurd h0 (r.ext.d a (by rw [z]; simp))
  have nd := nodup_mid r'.rs.nd
  rw [List.append_nil] at nd
  have sub : ∀ x ∈ u ++ b, x ∈ u ++ l ++ b := fun x hx => by simp at hx ⊢; rcases hx with z | z <;> simp [z]
  refine ⟨u ++ [a] ++ b, ⟨r'.rs.rel, q, ?_, fun x hx => ?_⟩, r'.ext, fun x hx => ?_, r'.fp, r'.fg⟩
  · have key : (p1.flatten ++ (u ++ [a] ++ b)).Perm (a :: (p1.flatten ++ (u ++ b))) := by
      have h1 : (u ++ [a] ++ b).Perm (a :: (u ++ b)) := by
        rw [List.append_assoc]
        exact List.perm_middle
      exact (List.Perm.append_left _ h1).trans List.perm_middle
    refine key.symm.nodup (List.nodup_cons.mpr ⟨?_, nd⟩)
    rw [List.mem_append]
    rintro (z | z)
    · exact pa z
    · exact nin (sub a z)
  · simp only [List.append_assoc, List.mem_append, List.mem_cons, List.not_mem_nil, or_false] at hx
    rcases hx with z | z | z
    · exact r'.rs.gn x (by simp [z])
    · rw [z]; exact ga
    · exact r'.rs.gn x (by simp [z])
  · simp only [List.append_assoc, List.mem_append, List.mem_cons, List.not_mem_nil, or_false] at hx
    rcases hx with z | z | z
    · exact r'.own x (by simp [z])
    · rw [z]; exact nH
    · exact r'.own x (by simp [z])
section
variable {X : Cx} {W : Wf} {a b e : Expr} {es : List Expr} {ma mb : DSt → M D} {mf : DSt → M (List D)} {pos apos cpos : Pos} {rest : List Stmt} {u : DSt → M Ctl}
def setO (t : DSt) (i : Nat) (xs : List D) : Option DSt := if i < t.length then some (t.set i (some (.own xs))) else none
/-- the end of name = new list -/
theorem okS.newO {K : PySem.W.Frag} {n : Snap} {E : Ends} {p p1 : List (List Addr)} {G H G1 H1 : Hp} {S S1 : Sto} {t : DSt} {σ : L2.St} {ow : List Addr} {i : Nat} {xs : List D} {l : Addr} {vs : List V} (h : okS K W n ((do let t' ← liftO (setO t i xs); pure (.nx t') : M Ctl) S1) E) (r : RelF K n p G S H t σ ow) (e : Ext p G H p1 G1 H1) (r1 : Rel0 K p1 S1 G1 H1) (h0 : H l = none)
    (ha : H1 l = some (.lst vs)) (dn : DenL K p1 G1 xs vs) (ga : G1 l = none) (pa : l ∉ p1.flatten) : E.nx (σ.set i (some (.ref l))) H1 := by
  unfold setO at h
  by_cases hi : i < t.length
  · rw [if_pos hi] at h
    obtain ⟨ow', r'⟩ := r.newO hi e r1 h0 ha dn ga pa
    exact h p1 G1 H1 _ ow' r'
  · rw [if_neg hi] at h
    exact h.elim
theorem okS.seqF {K : PySem.W.Frag} {n : Snap} {E : Ends} {p : List (List Addr)} {G H : Hp} {S : Sto} {t : DSt} {σ : L2.St} {ow : List Addr} {m : M (List D)} {f : List D → M Ctl} {Q1 : VK}
    (h : okS K W n ((m >>= f) S) E) (r : RelF K n p G S H t σ ow)
    (k : ∀ xs S1 l vs p1 G1 H1, H l = none → H1 l = some (.lst vs) → DenL K p1 G1 xs vs → G1 l = none → l ∉ p1.flatten → Rel0 K p1 S1 G1 H1 → Ext p G H p1 G1 H1 → okS K W n (f xs S1) E → Q1 (.ref l) H1) : okF K p G H (fun c d H' => W c d H') (m S) Q1 := by
  have h' : okS K W n ((m S).andThen f) E := h
  cases e : m S with
  | ok d S1 =>
    rw [e] at h'
    exact fun l vs p1 G1 H1 h0 h1 h2 h3 h4 r1 x1 => k d S1 l vs p1 G1 H1 h0 h1 h2 h3 h4 r1 x1 h'
  | exc x S1 =>
    rw [e] at h'
    exact fun cls dd p1 G1 H1 a b c => h' cls dd p1 G1 H1 a b (r.ext.trans c)
  | stuck =>
    rw [e] at h'
    exact h'
/-- name = new list, for its own -/
theorem ds_setO (i : Nat) {x : Str} {pos' : Pos} (hN : X.N.Nodup) (hi : X.N[i]? = some x) (hx : Loc X.env.scope x) (he : DF X W.x e mf) (hs : swapsWith e (some (.Name x pos')) pos.line X.env = pure false := by rfl) (hf : X.fn x = true ∨ X.env.scope.names.lookup x = some .local := by first | exact .inl rfl | exact .inr rfl | assumption) :
    DS X W (.Assign [.Name x pos'] e pos) (fun t => do let xs ← mf t; let t' ← liftO (setO t i xs); pure (.nx t')) := by
  refine PS.imp (L2.ps_set hN hi hx he hs hf) fun E σ H ⟨n, t, p, G, S, ow, r, h⟩ => ?_
  exact ⟨t, p, G, S, ow, r.rs, okS.seqF h r fun xs S1 l vs p1 G1 H1 h0 h1 h2 h3 h4 r1 x1 hk => okS.newO hk r x1 r1 h0 h1 h2 h3 h4⟩
/-- name = [..] (a comprehension), frozen | for its own -/
theorem ds_setLc (i : Nat) {y : Str} {py : Pos} {elt tg iter : Expr} {ifs : List Expr} {scope : Scope} {own : List (Str × Nat)} {spos : Pos} {T : Tgt} {mi : DSt → M (List D)} {mt : DSt → M Bool} {me : DSt → M D} (hc : X.calm = true) (hN : X.N.Nodup) (hy : X.N[i]? = some y) (hyl : X.env.scope.names.lookup y = some .local)
    (hsw : swapsWith (.ListComp elt [⟨tg, iter, ifs, 0⟩] scope pos) (some (.Name y py)) spos.line X.env = pure true) (hi : DI X W.x tg iter mi) (ok : BlkOk X.N X.env.scope scope own)
    (hg : ∀ (s : Shared) (H : Hp) (C : Addr) (cl : List (Str × Addr)) (fp : List Addr), PG (X.blk s H scope (compEnvC scope cl C X.env) fp) tg (T.tg X.K)) (ht : ∀ (s : Shared) (H : Hp) (C : Addr) (cl : List (Str × Addr)) (fp : List Addr), PTs (X.blk s H scope (compEnvC scope cl C X.env) fp) ifs (tDT X.K W0 mt))
    (he : ∀ (s : Shared) (H : Hp) (C : Addr) (cl : List (Str × Addr)) (fp : List Addr), PE (X.blk s H scope (compEnvC scope cl C X.env) fp) elt (tD X.K W0 me)) (hT : ∀ i ∈ T.slots, i ∈ own.map (·.2)) (hs : ∀ x, foldedSetIterable iter X.env x = pure x := by intro _; rfl) :
    DS X W (.Assign [.Name y py] (.ListComp elt [⟨tg, iter, ifs, 0⟩] scope pos) spos) (fun t => do let d ← (do let xs ← (do let ds ← mi t; noE (lcD (own.map (·.2)) T mt me ds [] t)); pure (D.lst xs)); let t' ← liftO (setV t i d); pure (.nx t')) := by
  refine PS.imp (ps_setLc hc hN hy hyl hsw hi ok hg ht he hs) fun E σ H ⟨n, t, p, G, S, ow, r, h⟩ => ?_
  refine lc_read hT ⟨t, p, G, S, ow, r.rs, okR.toF (okS.seq h r fun d S1 v p1 G1 H1 e1 dn r1 x1 h1 => ?_)⟩
  unfold setV at h1
  by_cases hi : i < t.length
  · rw [if_pos hi] at h1
    obtain ⟨ow', r'⟩ := r1.set0 hi (s := some (.val d)) (v := some v) ⟨rfl, v, rfl, dn⟩
    exact h1 p1 G1 H1 _ ow' r'
  · rw [if_neg hi] at h1
    exact h1.elim
theorem ds_setLcO (i : Nat) {y : Str} {py : Pos} {elt tg iter : Expr} {ifs : List Expr} {scope : Scope} {own : List (Str × Nat)} {spos : Pos} {T : Tgt} {mi : DSt → M (List D)} {mt : DSt → M Bool} {me : DSt → M D} (hc : X.calm = true) (hN : X.N.Nodup) (hy : X.N[i]? = some y) (hyl : X.env.scope.names.lookup y = some .local)
    (hsw : swapsWith (.ListComp elt [⟨tg, iter, ifs, 0⟩] scope pos) (some (.Name y py)) spos.line X.env = pure true) (hi : DI X W.x tg iter mi) (ok : BlkOk X.N X.env.scope scope own)
    (hg : ∀ (s : Shared) (H : Hp) (C : Addr) (cl : List (Str × Addr)) (fp : List Addr), PG (X.blk s H scope (compEnvC scope cl C X.env) fp) tg (T.tg X.K)) (ht : ∀ (s : Shared) (H : Hp) (C : Addr) (cl : List (Str × Addr)) (fp : List Addr), PTs (X.blk s H scope (compEnvC scope cl C X.env) fp) ifs (tDT X.K W0 mt))
    (he : ∀ (s : Shared) (H : Hp) (C : Addr) (cl : List (Str × Addr)) (fp : List Addr), PE (X.blk s H scope (compEnvC scope cl C X.env) fp) elt (tD X.K W0 me)) (hT : ∀ i ∈ T.slots, i ∈ own.map (·.2)) (hs : ∀ x, foldedSetIterable iter X.env x = pure x := by intro _; rfl) :
    DS X W (.Assign [.Name y py] (.ListComp elt [⟨tg, iter, ifs, 0⟩] scope pos) spos) (fun t => do let xs ← (do let ds ← mi t; noE (lcD (own.map (·.2)) T mt me ds [] t)); let t' ← liftO (setO t i xs); pure (.nx t')) := by
  refine PS.imp (ps_setLc hc hN hy hyl hsw hi ok hg ht he hs) fun E σ H ⟨n, t, p, G, S, ow, r, h⟩ => ?_
  exact lc_read hT ⟨t, p, G, S, ow, r.rs, okS.seqF h r fun xs S1 l vs p1 G1 H1 h0 h1 h2 h3 h4 r1 x1 hk => okS.newO hk r x1 r1 h0 h1 h2 h3 h4⟩
/-! ### freezing -/
def freeze (i : Nat) (t : DSt) : DSt := match t[i]? with
  | some (some (.own xs)) => t.set i (some (.val (.lst xs)))
  | _ => t
theorem SlotsR.ice {K : PySem.W.Frag} {p : List (List Addr)} {G H : Hp} : ∀ {t : DSt} {σ : L2.St} {ow : List Addr} {i : Nat} {xs : List D}, SlotsR K p G H t σ ow → t[i]? = some (some (.own xs)) →
    ∃ a vs x y, ow = x ++ a :: y ∧ H a = some (.lst vs) ∧ DenL K p G xs vs ∧ (G a = none → SlotsR K p (upd G a (.lst vs)) H (t.set i (some (.val (.lst xs)))) σ (x ++ y))
  | [], _, _, _, _, _, e => by simp at e
  | _ :: _, _, _, 0, xs, ⟨v, r, l, m, h1, h2, h3, h4⟩, e => by
    simp at e; subst e
    obtain ⟨a, vs, e1, e2, e3, e4⟩ := h3
    refine ⟨a, vs, [], m, by rw [h2, e1]; rfl, e3, e4, fun ga => ?_⟩
    exact ⟨v, r, [], m, h1, rfl, ⟨rfl, _, e2, a, vs, rfl, upd_same, e4.upd ga⟩, SlotsR.mono ⟨[], by simp⟩ (Same.upd_of ga) (fun _ _ => rfl) h4⟩
  | s :: _, _, _, i + 1, xs, ⟨v, r, l, m, h1, h2, h3, h4⟩, e => by
    obtain ⟨a, vs, x, y, e1, e2, e3, e4⟩ := SlotsR.ice (i := i) h4 (by simpa using e)
    refine ⟨a, vs, l ++ x, y, by rw [h2, e1, List.append_assoc], e2, e3, fun ga => ?_⟩
    exact ⟨v, r, l, x ++ y, h1, by rw [List.append_assoc], SlotR.mono ⟨[], by simp⟩ (Same.upd_of ga) (fun _ _ => rfl) h3, e4 ga⟩
theorem RelF.ice {K : PySem.W.Frag} {n : Snap} {p : List (List Addr)} {G H : Hp} {S : Sto} {t : DSt} {σ : L2.St} {ow : List Addr} {i : Nat} {xs : List D} (r : RelF K n p G S H t σ ow) (e : t[i]? = some (some (.own xs))) : ∃ G' ow', RelF K n p G' S H (t.set i (some (.val (.lst xs)))) σ ow' := by
  obtain ⟨a, vs, x, y, eo, hH, dn, q⟩ := r.rs.sl.ice e
  have ha : a ∈ ow := by rw [eo]; simp
  have ga := r.rs.gn a ha
  have pa : a ∉ p.flatten := fun z => (List.nodup_append.mp r.rs.nd).2.2 a z a ha rfl
  have nH := r.own a ha
  have ndo := (List.nodup_append.mp r.rs.nd).2.1
  have sub : ∀ b ∈ x ++ y, b ∈ ow ∧ b ≠ a := fun b hb => by
    rw [eo] at ndo ⊢
    refine ⟨by simp at hb ⊢; rcases hb with z | z <;> simp [z], ?_⟩
    rintro rfl
    have := (List.perm_middle.nodup_iff.mp ndo)
    exact (List.nodup_cons.mp this).1 hb
  have sm : Same G (upd G a (.lst vs)) := Same.upd_of ga
  refine ⟨upd G a (.lst vs), x ++ y, ⟨⟨fun b o z => ?_, r.rs.rel.len, fun i as o e1 e2 => (r.rs.rel.mo i as o e1 e2).ice sm, r.rs.rel.nd, fun b hb => ?_⟩, q ga, ?_, fun b hb => ?_⟩, ⟨r.ext.g.trans sm, fun b h1 h2 => ?_, r.ext.h, r.ext.d, r.ext.p⟩, fun b hb => r.own b (sub b hb).1, r.fp, r.fg.trans sm⟩
  · by_cases w : b = a
    · subst w; rw [upd_same] at z; cases z; exact hH
    · rw [upd_ne w] at z; exact r.rs.rel.sub b o z
  · have : b ≠ a := by rintro rfl; exact pa hb
    rw [upd_ne this]; exact r.rs.rel.gn b hb
  · have : (p.flatten ++ (x ++ y)).Sublist (p.flatten ++ ow) := by
      rw [eo]
      exact List.Sublist.append (List.Sublist.refl _) (List.Sublist.append (List.Sublist.refl _) (List.sublist_cons_self a y))
    exact r.rs.nd.sublist this
  · rw [upd_ne (sub b hb).2]
    exact r.rs.gn b (sub b hb).1
  · have : b ≠ a := by rintro rfl; exact h2 nH
    rw [upd_ne this]; exact r.ext.gn b h1 h2
theorem ds_freeze (i : Nat) {sts : List Stmt} (h : DSs X W sts u) : DSs X W sts (fun t => u (freeze i t)) := by
  refine PSs.imp h fun E σ H ⟨n, t, p, G, S, ow, r, h⟩ => ?_
  have h : okS X.K W n (u (freeze i t) S) E := h
  unfold freeze at h
  split at h
  · rename_i xs e
    obtain ⟨G', ow', r'⟩ := r.ice e
    exact ⟨n, _, p, G', S, ow', r', h⟩
  · exact ⟨n, t, p, G, S, ow, r, h⟩
/-! ### changes -/
/-- the own list's reading: where it stands -/
theorem own_at {K : PySem.W.Frag} {n : Snap} {p : List (List Addr)} {G H : Hp} {S : Sto} {t : DSt} {σ : L2.St} {ow : List Addr} {i : Nat} (r : RelF K n p G S H t σ ow) {β : Type} {f : List D → M β} {Z : Res β → Prop} (hZ : ¬ Z .stuck) (h : Z ((do let xs ← getO t i; f xs : M β) S)) :
    ∃ xs a vs, t[i]? = some (some (.own xs)) ∧ σ[i]? = some (some (.ref a)) ∧ a ∈ ow ∧ H a = some (.lst vs) ∧ DenL K p G xs vs ∧ Z (f xs S) := by
  rcases getO_of t i with ⟨xs, e, q⟩ | q
  · rw [q] at h
    obtain ⟨a, vs, e1, e2, e3, e4⟩ := r.rs.sl.getO e
    exact ⟨xs, a, vs, e, e1, e2, e3, e4, h⟩
  · rw [q] at h
    exact absurd h hZ
/-- own things are as they were behind an expression -/
theorem own_later {K : PySem.W.Frag} {n : Snap} {p p1 : List (List Addr)} {G H G1 H1 : Hp} {S : Sto} {t : DSt} {σ : L2.St} {ow : List Addr} {a : Addr} {vs : List V} {xs : List D} (r : RelF K n p G S H t σ ow) (e : Ext p G H p1 G1 H1) (ha : a ∈ ow) (hH : H a = some (.lst vs)) (dn : DenL K p G xs vs) : H1 a = some (.lst vs) ∧ DenL K p1 G1 xs vs :=
  ⟨e.h a _ hH fun z => (List.nodup_append.mp r.rs.nd).2.2 a z a ha rfl, dn.mono e.pp e.g⟩
/-- x.append(e) -/
theorem ds_append (i : Nat) {x : Str} {px : Pos} (hN : X.N[i]? = some x := by rfl) (he : DE X W.x e ma) (hv : Vis X.env.scope x := by first | exact Or.inl rfl | exact Or.inr (Or.inl rfl) | exact Or.inr (Or.inr rfl)) (hd : (x == ("__debug__" : Str)) = false := by decide)
    (hcd : (x == ("__classdict__" : Str)) = false := by decide) (hst : starEach [e] X.env = [(false, eval e X.env)] := by rfl) (hfew : ((backTo cpos (starEach [e] X.env)).all (fun x => !x.1) && (backToKw cpos (keywordEach [] X.env)).all (fun x => x.1.isSome)
      && decide ([e].length + ([] : List Keyword).length + (if ([] : List Keyword).isEmpty then 0 else 1) < 30)) = true := by rfl) (hline : (apos.endLine == cpos.line) = true := by rfl) (hs : swapsWith (.Call (.Attribute (.Name x px) "append" apos) [e] [] cpos) none pos.line X.env = pure false := by rfl) :
    DS X W (.Expr (.Call (.Attribute (.Name x px) "append" apos) [e] [] cpos) pos) (fun t => do let xs ← getO t i; let y ← ma t; if xs.length < sizeLine then pure (.nx (t.set i (some (.own (xs ++ [y]))))) else stuck) := by
  refine PS.imp (ps_expr (pe_bm PySem.F.plainAttrs_list PySem.F.slot_list_append PySem.F.type_list_append mt_append (pe_var hN hv hd hcd) (pa_cons he pa_nil hst) rfl hfew hline hst rfl) hs) fun E σ H ⟨n, t, p, G, S, ow, r, h⟩ => ?_
  obtain ⟨xs, l, vs, e1, e2, e3, e4, e5, h⟩ := own_at (Z := fun z => okS X.K W n z E) r (fun z => z) h
  refine ⟨_, e2, .inl ⟨rfl, vs, SqL.of e4⟩, t, p, G, S, ow, r.rs, okS.seq h r fun y S1 v p1 G1 H1 ey dy r1 x1 h1 => ?_⟩
  obtain ⟨f1, f2⟩ := own_later r x1 e3 e4 e5
  by_cases hz : xs.length < sizeLine
  · have h2 : okS X.K W n ((if xs.length < sizeLine then pure (.nx (t.set i (some (.own (xs ++ [y]))))) else stuck : M Ctl) S1) E := h1
    rw [if_pos hz] at h2
    exact ⟨l, vs, v, rfl, rfl, f1, by rw [f2.length]; exact hz, h2 p1 G1 _ σ ow (r1.putO e1 e2 e3 (f2.append (DenL.one dy)))⟩
  · have h2 : okS X.K W n ((if xs.length < sizeLine then pure (.nx (t.set i (some (.own (xs ++ [y]))))) else stuck : M Ctl) S1) E := h1
    rw [if_neg hz] at h2
    exact h2.elim
def popO (xs : List D) : D → Option (D × List D)
  | .int k => if -(2 ^ 63) ≤ k ∧ k < 2 ^ 63 then (seqIndex? k xs.length).bind fun j => (xs[j]?).map fun y => (y, xs.eraseIdx j) else none
  | _ => none
theorem DenL.erase {K : PySem.W.Frag} {p : List (List Addr)} {G : Hp} : ∀ {zs : List D} {us : List V} (i : Nat), DenL K p G zs us → DenL K p G (zs.eraseIdx i) (us.eraseIdx i)
  | [], us, i, q => by
    cases (show us = [] from q)
    exact rfl
  | z :: zs, us, 0, ⟨w, r, e, q2, q3⟩ => by
    subst e
    exact q3
  | z :: zs, us, i + 1, ⟨w, r, e, q2, q3⟩ => by
    subst e
    exact ⟨w, _, rfl, q2, DenL.erase i q3⟩
theorem popO_ok {K : PySem.W.Frag} {p : List (List Addr)} {G : Hp} {xs : List D} {vs : List V} {d : D} {v : V} {y : D} {ys : List D} (dn : DenL K p G xs vs) (dd : Den K p G d v) (h : popO xs d = some (y, ys)) :
    ∃ k j u, v = .int k ∧ -(2 ^ 63) ≤ k ∧ k < 2 ^ 63 ∧ seqIndex? k vs.length = some j ∧ vs[j]? = some u ∧ Den K p G y u ∧ DenL K p G ys (vs.eraseIdx j) := by
  cases d <;> try cases h
  rename_i k
  unfold popO at h
  dsimp only at h
  by_cases hz : -(2 ^ 63) ≤ k ∧ k < 2 ^ 63
  · rw [if_pos hz] at h
    obtain ⟨j, e, h⟩ := Option.bind_eq_some_iff.mp h
    obtain ⟨w, e2, h⟩ := Option.map_eq_some_iff.mp h
    cases h
    obtain ⟨u, e3, e4⟩ := dn.get e2
    exact ⟨k, j, u, dd, hz.1, hz.2, by rw [dn.length]; exact e, e3, e4, dn.erase j⟩
  · rw [if_neg hz] at h
    cases h
/-- x.pop(e), its value dropped -/
theorem ds_popAt (i : Nat) {x : Str} {px : Pos} (hN : X.N[i]? = some x := by rfl) (he : DE X W.x e ma) (hv : Vis X.env.scope x := by first | exact Or.inl rfl | exact Or.inr (Or.inl rfl) | exact Or.inr (Or.inr rfl)) (hd : (x == ("__debug__" : Str)) = false := by decide)
    (hcd : (x == ("__classdict__" : Str)) = false := by decide) (hst : starEach [e] X.env = [(false, eval e X.env)] := by rfl) (hfew : ((backTo cpos (starEach [e] X.env)).all (fun x => !x.1) && (backToKw cpos (keywordEach [] X.env)).all (fun x => x.1.isSome)
      && decide ([e].length + ([] : List Keyword).length + (if ([] : List Keyword).isEmpty then 0 else 1) < 30)) = true := by rfl) (hline : (apos.endLine == cpos.line) = true := by rfl) (hs : swapsWith (.Call (.Attribute (.Name x px) "pop" apos) [e] [] cpos) none pos.line X.env = pure false := by rfl) :
    DS X W (.Expr (.Call (.Attribute (.Name x px) "pop" apos) [e] [] cpos) pos) (fun t => do let xs ← getO t i; let k ← ma t; let r ← liftO (popO xs k); pure (.nx (t.set i (some (.own r.2))))) := by
  refine PS.imp (ps_expr (pe_bm PySem.F.plainAttrs_list PySem.F.slot_list_pop PySem.F.type_list_pop mt_popAt (pe_var hN hv hd hcd) (pa_cons he pa_nil hst) rfl hfew hline hst rfl) hs) fun E σ H ⟨n, t, p, G, S, ow, r, h⟩ => ?_
  obtain ⟨xs, l, vs, e1, e2, e3, e4, e5, h⟩ := own_at (Z := fun z => okS X.K W n z E) r (fun z => z) h
  refine ⟨_, e2, .inl ⟨rfl, vs, SqL.of e4⟩, t, p, G, S, ow, r.rs, okS.seq h r fun y S1 v p1 G1 H1 ey dy r1 x1 h1 => ?_⟩
  obtain ⟨f1, f2⟩ := own_later r x1 e3 e4 e5
  cases eq : popO xs y with
  | none => rw [eq] at h1; exact h1.elim
  | some q =>
    rw [eq] at h1
    obtain ⟨w, ys⟩ := q
    obtain ⟨k, j, u, rfl, g1, g2, g3, g4, g5, g6⟩ := popO_ok f2 dy eq
    exact ⟨l, vs, k, j, u, rfl, rfl, f1, g1, g2, g3, g4, h1 p1 G1 _ σ ow (r1.putO e1 e2 e3 g6)⟩
/-- x[i] = e -/
def putO (xs : List D) (y : D) : D → Option (List D)
  | .int k => (ixN xs.length k).map fun j => xs.set j y
  | _ => none
theorem ds_setitem (i : Nat) {x : Str} {px pt : Pos} (hN : X.N[i]? = some x := by rfl) (he : DE X W.x e ma) (hb : DE X W.x b mb) (hv : Vis X.env.scope x := by first | exact Or.inl rfl | exact Or.inr (Or.inl rfl) | exact Or.inr (Or.inr rfl)) (hd : (x == ("__debug__" : Str)) = false := by decide)
    (hcd : (x == ("__classdict__" : Str)) = false := by decide) (ha : ∀ v, assign (.Subscript (.Name x px) b pt) X.env v = (do
      let ov ← holding [v] (eval (.Name x px) X.env)
      let iv ← holding [v, ov] (eval b X.env)
      standAt pt
      holding [v, ov, iv] (setItem ov iv v)
      release [v, ov, iv] []) := by intro _; rfl) (hs : swapsWithSole [.Subscript (.Name x px) b pt] e pos.line X.env = pure false := by rfl) (hw : swappedStores [.Subscript (.Name x px) b pt] e X.env = pure none := by rfl)
    (h1 : (assignEach [.Subscript (.Name x px) b pt] X.env).map (·.2) = [assign (.Subscript (.Name x px) b pt) X.env] := by rfl) :
    DS X W (.Assign [.Subscript (.Name x px) b pt] e pos) (fun t => do let y ← ma t; let xs ← getO t i; let k ← mb t; let zs ← liftO (putO xs y k); pure (.nx (t.set i (some (.own zs))))) := by
  refine PS.imp (ps_asg he (pg_sub (pe_var hN hv hd hcd) hb set_list ha) hs hw h1) fun E σ H ⟨n, t, p, G, S, ow, r, h⟩ => ?_
  refine ⟨t, p, G, S, ow, r.rs, okS.seq h r fun y S1 v p1 G1 H1 ey dy r1 x1 h1 => ?_⟩
  obtain ⟨xs, l, vs, e1, e2, e3, e4, e5, h1⟩ := own_at (Z := fun z => okS X.K W n z E) r1 (fun z => z) h1
  refine ⟨_, e2, t, p1, G1, S1, ow, r1.rs, okS.seq h1 r1 fun k S2 kv p2 G2 H2 ek dk r2 x2 h2 => ?_⟩
  obtain ⟨f1, f2⟩ := own_later r1 x2 e3 e4 e5
  cases k <;> try exact h2.elim
  rename_i k
  cases eq : ixN xs.length k with
  | none =>
    have h3 : okS X.K W n ((liftO ((ixN xs.length k).map fun j => xs.set j y) >>= fun zs => (pure (.nx (t.set i (some (.own zs)))) : M Ctl)) S2) E := h2
    rw [eq] at h3
    exact h3.elim
  | some j =>
    have h3 : okS X.K W n ((liftO ((ixN xs.length k).map fun j => xs.set j y) >>= fun zs => (pure (.nx (t.set i (some (.own zs)))) : M Ctl)) S2) E := h2
    rw [eq] at h3
    refine ⟨l, vs, k, j, rfl, dk, f1, by rw [f2.length]; exact eq, ?_⟩
    exact h3 p2 G2 _ σ ow (r2.putO e1 e2 e3 (f2.set (dy.mono x2.pp x2.g) j))
end
end RM

/-! RM: own classes: made by __init__, fields read and stored. -/
namespace RM
open PySem PySem.Spec PyProof.Rows L2

/-! ### data without the newest mutable things -/
mutual
def D.low (n : Nat) : D → Bool
  | .mref i => decide (i < n)
  | .tup xs => lowL n xs
  | .lst xs => lowL n xs
  | .ins _ _ fs => lowL n fs
  | .dic _ vs => lowL n vs
  | .non => true
  | .bl _ => true
  | .int _ => true
  | .str _ => true
  | .scr _ => true
def lowL (n : Nat) : List D → Bool
  | [] => true
  | d :: ds => D.low n d && lowL n ds
end
section
variable {K : PySem.W.Frag} {p r : List (List Addr)} {G : Hp}
mutual
theorem Den.shrink : ∀ {d : D} {v : V}, Den K (p ++ r) G d v → d.low p.length = true → Den K p G d v
  | .non, _, h, _ => h
  | .bl _, _, h, _ => h
  | .int _, _, h, _ => h
  | .str _, _, h, _ => h
  | .tup _, _, ⟨a, vs, h1, h2, h3⟩, e => ⟨a, vs, h1, h2, DenL.shrink h3 e⟩
  | .lst _, _, ⟨a, vs, h1, h2, h3⟩, e => ⟨a, vs, h1, h2, DenL.shrink h3 e⟩
  | .ins _ _ _, _, ⟨a, dx, vs, h1, h2, h4, h3⟩, e => ⟨a, dx, vs, h1, h2, h4, DenL.shrink h3 e⟩
  | .mref i, _, ⟨a, q, h1, h2⟩, e => by
    have hi : i < p.length := of_decide_eq_true e
    rw [List.getElem?_append_left hi] at h1
    exact ⟨a, q, h1, h2⟩
  | .dic _ _, _, ⟨a, vs, h1, h2, h4, h3⟩, e => ⟨a, vs, h1, h2, h4, DenL.shrink h3 e⟩
  | .scr _, _, h, _ => h
theorem DenL.shrink : ∀ {ds : List D} {vs : List V}, DenL K (p ++ r) G ds vs → lowL p.length ds = true → DenL K p G ds vs
  | [], _, h, _ => h
  | _ :: _, _, ⟨v, q, h1, h2, h3⟩, e => by
    have e' := Bool.and_eq_true_iff.mp e
    exact ⟨v, q, h1, Den.shrink h2 e'.1, DenL.shrink h3 e'.2⟩
end
end
def moLow (n : Nat) : MO → Bool
  | .tape _ => true
  | .inst _ _ fs => lowL n fs
theorem MoAt.shrink {K : PySem.W.Frag} {p r : List (List Addr)} {G H : Hp} : ∀ {as : List Addr} {o : MO}, MoAt K (p ++ r) G H as o → moLow p.length o = true → MoAt K p G H as o
  | [_, _, _], .tape _, h, _ => h
  | [_], .inst _ _ _, ⟨dx, vs, h1, h2, h3⟩, e => ⟨dx, vs, h1, h2, h3.shrink e⟩

/-! ### fields -/
structure FldT (K : PySem.W.Frag) (tab : List (Str × Str)) : Prop where
  cl : ∀ q ∈ tab, Cls K (He.ga K q.1)
  na : ∀ q ∈ tab, NoAttr K (He.ga K q.1) q.2
def fldB (K : PySem.W.Frag) (tab : List (Str × Str)) : Bool := tab.all fun q => (He.Fa.cls q.1).ok K && (He.Fa.noat q.1 q.2).ok K
theorem fldB_ok {K : PySem.W.Frag} {tab : List (Str × Str)} (h : fldB K tab = true) : FldT K tab :=
  ⟨fun q hq => He.cls_ok (Bool.and_eq_true_iff.mp (List.all_eq_true.mp h q hq)).1, fun q hq => He.noat_ok (Bool.and_eq_true_iff.mp (List.all_eq_true.mp h q hq)).2⟩
def lookF : List Str → List D → Str → Option D
  | n :: ns, d :: ds, f => if f = n then some d else lookF ns ds f
  | _, _, _ => none
theorem lookF_den {K : PySem.W.Frag} {p : List (List Addr)} {G : Hp} {f : Str} {d : D} : ∀ {ns : List Str} {fs : List D} {vs : List V}, DenL K p G fs vs → lookF ns fs f = some d → ∃ v, (ns.zip vs).lookup f = some v ∧ Den K p G d v
  | [], fs, _, _, e => by cases fs <;> cases e
  | _ :: _, [], _, _, e => by cases e
  | n :: ns, x :: xs, _, ⟨v, r, h1, h2, h3⟩, e => by
    subst h1
    unfold lookF at e
    show ∃ v', ((n, v) :: ns.zip r).lookup f = some v' ∧ _
    rw [List.lookup_cons]
    by_cases q : f = n
    · rw [if_pos q] at e
      cases e
      have : (f == n) = true := by rw [q]; exact beq_self_eq_true n
      rw [this]
      exact ⟨v, rfl, h2⟩
    · rw [if_neg q] at e
      have : (f == n) = false := beq_eq_false_iff_ne.mpr q
      rw [this]
      exact lookF_den h3 e
def fldD (tab : List (Str × Str)) (f : Str) (d : D) : M D := fun S => match d with
  | .ins c ns fs => if (c, f) ∈ tab then match lookF ns fs f with
      | some x => .ok x S
      | none => .stuck
    else .stuck
  | .mref i => match S[i]? with
    | some (.inst c ns fs) => if (c, f) ∈ tab then match lookF ns fs f with
        | some x => .ok x S
        | none => .stuck
      else .stuck
    | _ => .stuck
  | _ => .stuck
theorem Rel0.inst {K : PySem.W.Frag} {p : List (List Addr)} {S : Sto} {G H : Hp} {i : Nat} {c : Str} {ns : List Str} {fs : List D} {a : Addr} {r : List Addr} (rel : Rel0 K p S G H) (hp : p[i]? = some (a :: r)) (hs : S[i]? = some (.inst c ns fs)) : r = [] ∧ ∃ dx vs, H a = some (.ins (He.ga K c) dx (ns.zip vs)) ∧ vs.length = ns.length ∧ DenL K p G fs vs := by
  have m := rel.mo i _ _ hp hs
  cases r with
  | nil => exact ⟨rfl, m⟩
  | cons b r =>
    cases r with
    | nil => exact m.elim
    | cons c2 r =>
      cases r with
      | nil => exact m.elim
      | cons _ _ => exact m.elim
section
variable {X : Cx} {W : WX} {a : Expr} {ma : DSt → M D} {pos : Pos} {tab : List (Str × Str)}
theorem de_fld (T : FldT X.K tab) (f : Str) (ha : DE X W a ma) (hb : attributeBase a f X.env (eval a X.env) = eval a X.env := by rfl) : DE X W (.Attribute a f pos) (fun t => do let x ← ma t; fldD tab f x) := by
  refine PE.imp (pe_fld ha hb) fun σ H Q ⟨t, p, G, S, ow, r, h⟩ => ?_
  refine ⟨t, p, G, S, ow, r, okR.seq h fun d S1 v p1 G1 H1 e1 dn r1 x1 h1 => ?_⟩
  unfold fldD at h1
  cases d <;> try exact h1.elim
  · rename_i c ns fs
    dsimp only at h1
    by_cases hz : (c, f) ∈ tab
    · rw [if_pos hz] at h1
      cases e : lookF ns fs f with
      | none => rw [e] at h1; exact h1.elim
      | some y =>
        rw [e] at h1
        obtain ⟨l, dx, vs, rfl, hl, hlen, hv⟩ := dn
        obtain ⟨u, e2, e3⟩ := lookF_den hv e
        exact ⟨l, _, dx, _, u, rfl, r1.sub _ _ hl, T.cl _ hz, T.na _ hz, e2, okR.fin h1 e3 r1⟩
    · rw [if_neg hz] at h1
      exact h1.elim
  · rename_i i
    dsimp only at h1
    cases es : S1[i]? with
    | none => rw [es] at h1; exact h1.elim
    | some o =>
      rw [es] at h1
      cases o with
      | tape _ => exact h1.elim
      | inst c ns fs =>
        dsimp only at h1
        by_cases hz : (c, f) ∈ tab
        · rw [if_pos hz] at h1
          cases e : lookF ns fs f with
          | none => rw [e] at h1; exact h1.elim
          | some y =>
            rw [e] at h1
            obtain ⟨l, q, hp, rfl⟩ := dn
            obtain ⟨rfl, dx, vs, hl, hlen, hv⟩ := r1.inst hp es
            obtain ⟨u, e2, e3⟩ := lookF_den hv e
            exact ⟨l, _, dx, _, u, rfl, hl, T.cl _ hz, T.na _ hz, e2, okR.fin h1 e3 r1⟩
        · rw [if_neg hz] at h1
          exact h1.elim
end
/-! ### self.f = e, a new field -/
def putFld (tab : List (Str × Str)) (f : Str) (d : D) (o : D) : M Unit := fun S => match o with
  | .mref i => match S[i]? with
    | some (.inst c ns fs) => if (c, f) ∈ tab ∧ f ∉ ns ∧ ns.length < 1000 then .ok () (S.set i (.inst c (ns ++ [f]) (fs ++ [d]))) else .stuck
    | _ => .stuck
  | _ => .stuck
theorem putF_new {f : Str} {v : V} : ∀ {ns : List Str} {vs : List V}, f ∉ ns → vs.length = ns.length → putF f v (ns.zip vs) = (ns ++ [f]).zip (vs ++ [v])
  | [], [], _, _ => rfl
  | [], _ :: _, _, h => by cases h
  | _ :: _, [], _, h => by cases h
  | n :: ns, u :: vs, hn, hl => by
    simp only [List.mem_cons, not_or] at hn
    show putF f v ((n, u) :: ns.zip vs) = (n, u) :: (ns ++ [f]).zip (vs ++ [v])
    unfold putF
    rw [if_neg (fun e => hn.1 e.symm), putF_new hn.2 (by simpa using hl)]
theorem lookup_zipNone {f : Str} : ∀ {ns : List Str} {vs : List V}, f ∉ ns → (ns.zip vs).lookup f = none
  | [], _, _ => rfl
  | _ :: _, [], _ => rfl
  | n :: ns, v :: vs, h => by
    simp only [List.mem_cons, not_or] at h
    show ((n, v) :: ns.zip vs).lookup f = none
    rw [List.lookup_cons, beq_eq_false_iff_ne.mpr h.1]
    exact lookup_zipNone h.2
theorem flat_apart {a : Addr} : ∀ {l : List (List Addr)} {i j : Nat} {x y : List Addr}, l.flatten.Nodup → l[i]? = some x → l[j]? = some y → i ≠ j → a ∈ x → a ∈ y → False
  | [], _, _, _, _, _, e, _, _, _, _ => by simp at e
  | z :: l, 0, 0, _, _, _, _, _, n, _, _ => n rfl
  | z :: l, 0, j + 1, x, y, nd, e1, e2, _, h1, h2 => by
    simp at e1; subst e1
    rw [List.flatten_cons, List.nodup_append] at nd
    exact nd.2.2 a h1 a (List.mem_flatten.mpr ⟨y, List.mem_of_getElem? (by simpa using e2), h2⟩) rfl
  | z :: l, i + 1, 0, x, y, nd, e1, e2, _, h1, h2 => by
    simp at e2; subst e2
    rw [List.flatten_cons, List.nodup_append] at nd
    exact nd.2.2 a h2 a (List.mem_flatten.mpr ⟨x, List.mem_of_getElem? (by simpa using e1), h1⟩) rfl
  | z :: l, i + 1, j + 1, x, y, nd, e1, e2, n, h1, h2 => by
    rw [List.flatten_cons, List.nodup_append] at nd
    exact flat_apart (i := i) (j := j) nd.2.1 (by simpa using e1) (by simpa using e2) (fun e => n (by rw [e])) h1 h2
/-- a mutable thing is changed -/
theorem Rel0.put {K : PySem.W.Frag} {p : List (List Addr)} {S : Sto} {G H : Hp} {i : Nat} {c : Str} {ns ns' : List Str} {fs fs' : List D} {a dx : Addr} {vs' : List V} (r : Rel0 K p S G H) (hp : p[i]? = some [a]) (hs : S[i]? = some (.inst c ns fs)) (hl : vs'.length = ns'.length) (dn : DenL K p G fs' vs') :
    Rel0 K p (S.set i (.inst c ns' fs')) G (upd H a (.ins (He.ga K c) dx (ns'.zip vs'))) := by
  have ha : a ∈ p.flatten := List.mem_flatten.mpr ⟨[a], List.mem_of_getElem? hp, by simp⟩
  have ga := r.gn a ha
  have hi : i < S.length := (List.getElem?_eq_some_iff.mp hs).1
  refine ⟨fun b o e => ?_, by rw [List.length_set]; exact r.len, fun j as o e1 e2 => ?_, r.nd, r.gn⟩
  · rw [upd_ne (ne_of_none e ga)]
    exact r.sub b o e
  · by_cases hj : i = j
    · subst hj
      rw [hp] at e1
      cases e1
      rw [List.getElem?_set_self hi] at e2
      cases e2
      exact ⟨dx, vs', upd_same, hl, dn⟩
    · rw [List.getElem?_set_ne hj] at e2
      refine (r.mo j as o e1 e2).mono ⟨[], by simp⟩ (Same.refl _) fun b hb => upd_ne ?_
      rintro rfl
      exact flat_apart r.nd hp e1 hj (by simp) hb
/-- what the caller keeps while a mutable thing is changed -/
theorem Ext.put {p : List (List Addr)} {G H : Hp} {i : Nat} {a : Addr} {r : List Addr} {o : HO} (hp : p[i]? = some (a :: r)) : Ext p G H p G (upd H a o) := by
  have ha : a ∈ p.flatten := List.mem_flatten.mpr ⟨a :: r, List.mem_of_getElem? hp, by simp⟩
  refine ⟨Same.refl _, fun _ h _ => h, fun b u e hb => ?_, fun b e => ?_, [], by simp, by simp⟩
  · have : b ≠ a := by rintro rfl; exact hb ha
    rw [upd_ne this]; exact e
  · by_cases q : b = a
    · subst q; rw [upd_same]; simp
    · rw [upd_ne q]; exact e
section
variable {X : Cx} {W : Wf} {a e : Expr} {ma me : DSt → M D} {pos pos' : Pos} {tab : List (Str × Str)}
theorem ds_fld (T : FldT X.K tab) (f : Str) (ha : DE X W.x a ma) (he : DE X W.x e me) (hs : swapsWith e (some (.Attribute a f pos')) pos.line X.env = pure false := by rfl) : DS X W (.Assign [.Attribute a f pos'] e pos) (fun t => do let d ← me t; let o ← ma t; putFld tab f d o; pure (.nx t)) := by
  refine PS.imp (ps_fld ha he hs) fun E σ H ⟨n, t, p, G, S, ow, r, h⟩ => ?_
  refine ⟨t, p, G, S, ow, r.rs, okS.seq h r fun y S1 v p1 G1 H1 ey dy r1 x1 h1 => ?_⟩
  refine ⟨t, p1, G1, S1, ow, r1.rs, okS.seq h1 r1 fun o S2 ov p2 G2 H2 eo dO r2 x2 h2 => ?_⟩
  have h3 : okS X.K W n ((putFld tab f y o S2).andThen fun _ => pure (.nx t)) E := h2
  unfold putFld at h3
  cases o <;> try exact h3.elim
  rename_i i
  dsimp only at h3
  cases es : S2[i]? with
  | none => rw [es] at h3; exact h3.elim
  | some ob =>
    rw [es] at h3
    cases ob with
    | tape _ => exact h3.elim
    | inst c ns fs =>
      dsimp only at h3
      by_cases hz : (c, f) ∈ tab ∧ f ∉ ns ∧ ns.length < 1000
      · rw [if_pos hz] at h3
        obtain ⟨l, q, hp, rfl⟩ := dO
        obtain ⟨rfl, dx, vs, hl, hlen, hv⟩ := r2.rs.rel.inst hp es
        refine ⟨l, _, dx, _, rfl, hl, T.cl _ hz.1, T.na _ hz.1, ?_, ?_⟩
        · rw [List.length_zip, hlen, Nat.min_self]; exact hz.2.2
        · rw [putF_new hz.2.1 hlen]
          have rr := r2.rs.rel.put (dx := dx) (ns' := ns ++ [f]) (fs' := fs ++ [y]) (vs' := vs ++ [v]) hp es (by rw [List.length_append, List.length_append, hlen]; rfl) (hv.append (DenL.one (dy.mono x2.pp x2.g)))
          exact h3 p2 G2 _ σ ow (r2.step (Ext.put hp) rr)
      · rw [if_neg hz] at h3
        exact h3.elim
end
/-! ### C(..): a new instance, then __init__ -/
def mkD (c : Str) (g : List D → M D) (ds : List D) : M D := fun S => match g (.mref S.length :: ds) (S ++ [.inst c [] []]) with
  | .ok .non S' => match S'.drop S.length with
    | [.inst c' ns fs] => if c' = c ∧ lowL S.length fs = true ∧ (S'.take S.length).all (moLow S.length) = true then .ok (.ins c ns fs) (S'.take S.length) else .stuck
    | _ => .stuck
  | .exc e S' => if S'.length = S.length + 1 ∧ lowL S.length e.fs = true ∧ (S'.take S.length).all (moLow S.length) = true then .exc e (S'.take S.length) else .stuck
  | _ => .stuck
theorem guards_make {A : Around} {C : Addr} {us : List Value} {kw : List (Str × Value)} : (A.under (.builtin "type.__call__" ⟨.ref C :: us, kw⟩)).guards = A.guards := by
  first | rfl | simp [Around.under, Code.guards, Code.isGuard, guardIds, pushGuards]
/-- the state at the entry of __init__ -/
theorem Rel0.born {K : PySem.W.Frag} {p : List (List Addr)} {S : Sto} {G H : Hp} {c : Str} {x dx : Addr} (r : Rel0 K p S G H) (hx : H x = none) (hdx : H dx = none) (ne : dx ≠ x) :
    Rel0 K (p ++ [[x]]) (S ++ [.inst c [] []]) G (upd (upd H dx (.own x)) x (.ins (He.ga K c) dx [])) ∧ Ext p G H (p ++ [[x]]) G (upd (upd H dx (.own x)) x (.ins (He.ga K c) dx [])) := by
  have gx := r.gfree hx
  have px : x ∉ p.flatten := fun z => r.dom z hx
  have pd : dx ∉ p.flatten := fun z => r.dom z hdx
  have far : ∀ b o, H b = some o → upd (upd H dx (.own x)) x (.ins (He.ga K c) dx []) b = some o := fun b o e => by
    rw [upd_ne (ne_of_none e hx), upd_ne (ne_of_none e hdx)]; exact e
  refine ⟨⟨fun b o e => far b o (r.sub b o e), by rw [List.length_append, List.length_append, r.len]; rfl, fun i as o e1 e2 => ?_, ?_, fun b hb => ?_⟩, ⟨Same.refl _, fun _ h _ => h, fun b o e _ => far b o e, fun b e => ?_, [[x]], rfl, fun b hb => ?_⟩⟩
  · by_cases hi : i < p.length
    · rw [List.getElem?_append_left hi] at e1
      rw [List.getElem?_append_left (by rw [← r.len]; exact hi)] at e2
      refine (r.mo i as o e1 e2).mono ⟨[[x]], rfl⟩ (Same.refl _) fun b hb => ?_
      have hb' : b ∈ p.flatten := List.mem_flatten.mpr ⟨as, List.mem_of_getElem? e1, hb⟩
      rw [upd_ne (by rintro rfl; exact px hb'), upd_ne (by rintro rfl; exact pd hb')]
    · have e3 : i = p.length := by
        have := (List.getElem?_eq_some_iff.mp e1).1
        rw [List.length_append, List.length_singleton] at this
        omega
      subst e3
      rw [List.getElem?_append_right (Nat.le_refl _), Nat.sub_self] at e1
      rw [r.len, List.getElem?_append_right (Nat.le_refl _), Nat.sub_self] at e2
      cases e1
      cases e2
      exact ⟨dx, [], upd_same, rfl, rfl⟩
  · rw [List.flatten_append, List.nodup_append]
    exact ⟨r.nd, by simp, fun b hb b2 hb2 => by simp at hb2; rintro rfl; rw [hb2] at hb; exact px hb⟩
  · rw [List.flatten_append, List.mem_append] at hb
    rcases hb with z | z
    · exact r.gn b z
    · simp at z; rw [z]; exact gx
  · cases q : H b with
    | none => exact absurd q e
    | some o => rw [far b o q]; simp
  · simp at hb; rw [hb]; exact hx
/-- the instance is made: it leaves the store, frozen | given up -/
theorem Rel0.leave {K : PySem.W.Frag} {p : List (List Addr)} {S' : Sto} {G G' H' : Hp} {x : Addr} (r : Rel0 K (p ++ [[x]]) S' G' H') (sm : Same G' G) (gp : ∀ b ∈ p.flatten, G b = none) (sub : Same G H') (low : (S'.take p.length).all (moLow p.length) = true) : Rel0 K p (S'.take p.length) G H' := by
  have hl : S'.length = p.length + 1 := by rw [← r.len, List.length_append, List.length_singleton]
  refine ⟨sub, by rw [List.length_take]; omega, fun i as o e1 e2 => ?_, ?_, gp⟩
  · have hi := (List.getElem?_eq_some_iff.mp e1).1
    rw [List.getElem?_take_of_lt hi] at e2
    have lo : moLow p.length o = true := List.all_eq_true.mp low o (List.mem_of_getElem? (i := i) (by rw [List.getElem?_take_of_lt hi]; exact e2))
    exact ((r.mo i as o (by rw [List.getElem?_append_left hi]; exact e1) e2).shrink lo).ice sm
  · have nd := r.nd
    rw [List.flatten_append, List.nodup_append] at nd
    exact nd.1
theorem mkD_ok {K : PySem.W.Frag} {c : Str} {g : List D → M D} {ds : List D} {vs : List V} {p : List (List Addr)} {S : Sto} {G H : Hp} {W : Value → Option Addr → Hp → Prop} {Q : VK} {x dx : Addr} (dn : DenL K p G ds vs) (r : Rel0 K p S G H) (hx : H x = none) (hdx : H dx = none) (ne : dx ≠ x)
    (h : okR (Den K) K p G H W (mkD c g ds S) Q) : DenL K (p ++ [[x]]) G (.mref S.length :: ds) (.ref x :: vs) ∧
      okR (Den K) K (p ++ [[x]]) G (upd (upd H dx (.own x)) x (.ins (He.ga K c) dx [])) W (g (.mref S.length :: ds) (S ++ [.inst c [] []])) (fun v H2 => v = .non ∧ Q (.ref x) H2) := by
  obtain ⟨r2, x2⟩ := r.born (c := c) hx hdx ne
  have px : x ∉ p.flatten := fun z => r.dom z hx
  refine ⟨DenL.cons ⟨x, [], ?_, rfl⟩ (dn.mono ⟨[[x]], rfl⟩ (Same.refl _)), ?_⟩
  · rw [← r.len, List.getElem?_append_right (Nat.le_refl _), Nat.sub_self]
    rfl
  unfold mkD at h
  -- a later state has the same things
  have same : ∀ {p' : List (List Addr)} {S' : Sto} {G' H' : Hp}, Rel0 K p' S' G' H' → Ext (p ++ [[x]]) G (upd (upd H dx (.own x)) x (.ins (He.ga K c) dx [])) p' G' H' → S'.length = S.length + 1 → p' = p ++ [[x]] := by
    intro p' S' G' H' r' x' hl
    obtain ⟨q, e, _⟩ := x'.p
    have : q = [] := by
      have h1 := r'.len
      rw [e, List.length_append, List.length_append, List.length_singleton, hl, ← r.len] at h1
      exact List.length_eq_zero_iff.mp (by omega)
    rw [e, this, List.append_nil]
  have later : ∀ {G' H' : Hp}, Ext (p ++ [[x]]) G (upd (upd H dx (.own x)) x (.ins (He.ga K c) dx [])) (p ++ [[x]]) G' H' → Ext p G H p G' H' := by
    intro G' H' x'
    have t := x2.trans x'
    exact ⟨t.g, t.gn, t.h, t.d, [], by simp, by simp⟩
  cases e : g (.mref S.length :: ds) (S ++ [.inst c [] []]) with
  | stuck => rw [e] at h; exact h
  | exc z S' =>
    rw [e] at h
    dsimp only at h
    by_cases hz : S'.length = S.length + 1 ∧ lowL S.length z.fs = true ∧ (S'.take S.length).all (moLow S.length) = true
    · rw [if_pos hz] at h
      intro cls dd p' G' H' ea r' x'
      have ep := same r' x' hz.1
      subst ep
      rw [← r.len] at hz h
      have gp : ∀ b ∈ p.flatten, G' b = none := fun b hb => r'.gn b (by rw [List.flatten_append]; exact List.mem_append_left _ hb)
      refine h cls dd p G' H' ?_ (r'.leave (Same.refl _) gp r'.sub hz.2.2) (later x')
      cases dd with
      | none => exact ea
      | some d =>
        obtain ⟨e1, us, e2, e3, e4⟩ := ea
        exact ⟨e1, us, e2, e3, e4.shrink hz.2.1⟩
    · rw [if_neg hz] at h
      exact h.elim
  | ok d S' =>
    rw [e] at h
    cases d <;> try exact h.elim
    dsimp only at h
    cases ed : S'.drop S.length with
    | nil => rw [ed] at h; exact h.elim
    | cons o rest =>
      rw [ed] at h
      cases o with
      | tape _ => cases rest <;> exact h.elim
      | inst c2 ns fs =>
        cases rest with
        | cons _ _ => exact h.elim
        | nil =>
          dsimp only at h
          by_cases hz : c2 = c ∧ lowL S.length fs = true ∧ (S'.take S.length).all (moLow S.length) = true
          · rw [if_pos hz] at h
            obtain ⟨rfl, z2, z3⟩ := hz
            intro v p' G' H' dv r' x'
            have hl : S'.length = S.length + 1 := by
              have := congrArg List.length ed
              rw [List.length_drop, List.length_singleton] at this
              omega
            have ep := same r' x' hl
            subst ep
            rw [← r.len] at z2 z3 h ed
            refine ⟨dv, ?_⟩
            have es : S'[p.length]? = some (.inst c2 ns fs) := by
              have := congrArg (fun l : List MO => l[0]?) ed
              simp only [List.getElem?_drop, Nat.add_zero] at this
              exact this
            obtain ⟨_, dx2, us, k1, k2, k3⟩ := r'.inst (i := p.length) (a := x) (r := []) (by rw [List.getElem?_append_right (Nat.le_refl _), Nat.sub_self]; rfl) es
            have gx : G' x = none := r'.gn x (by rw [List.flatten_append]; simp)
            have sm : Same G' (upd G' x (.ins (He.ga K c2) dx2 (ns.zip us))) := Same.upd_of gx
            have lx := later x'
            refine h (.ref x) p (upd G' x (.ins (He.ga K c2) dx2 (ns.zip us))) H' ⟨x, dx2, us, rfl, upd_same, k2, (k3.shrink z2).upd gx⟩ (r'.leave sm (fun b hb => ?_) (fun b o q => ?_) z3) ⟨lx.g.trans sm, fun b h1 h2 => ?_, lx.h, lx.d, lx.p⟩
            · rw [upd_ne (by rintro rfl; exact px hb)]
              exact r'.gn b (by rw [List.flatten_append]; exact List.mem_append_left _ hb)
            · by_cases w : b = x
              · subst w; rw [upd_same] at q; cases q; exact k1
              · rw [upd_ne w] at q; exact r'.sub b o q
            · rw [upd_ne (by rintro rfl; exact h2 hx)]
              exact lx.gn b h1 h2
          · rw [if_neg hz] at h
            exact h.elim
section
variable {X : Cx} {W : WX} {a b c : Expr} {es : List Expr} {kw : List Keyword} {ms mk : DSt → M (List D)} {pos p : Pos} {k : Nat} {f : Addr} {fd : FuncData} {ps ks : List Str} {g : List D → M D} {dvs : List V} {ds : List Value} {dds : List D} {sp : Sp}
theorem make_G {pins : List (Addr × Obj)} {σ : L2.St} {H : Hp} {s : Shared} {Q : VK} {C : Addr} {us : List Value} {kv : List (Str × Value)} {zs : List Value} {vs : List V} (M : Mk X.K C f) (F : FnG X.prog X.w X.K X.mg X.base k f fd ps sp) (hr : Room (k + 1) X.A) (hG : X.A.guards = some []) (tk : Takes X W)
    (I : Inv X pins σ H s) (bd : ∀ (s : Shared) (u : Value), X.K.In s.heap → BindsTo s fd ⟨u :: us, kv⟩ (ps.zip (u :: zs))) (r : Vals vs zs)
    (h : ∀ x dx, H x = none → H dx = none → dx ≠ x → sp (.ref x :: vs) (upd (upd H dx (.own x)) x (.ins C dx [])) (fun v H2 => v = .non ∧ Q (.ref x) H2) fun c d H' => W c d σ H') :
    wpAny (model X.prog X.w) X.A (call (.ref C) us kv) (EP X pins σ Q) X.xe s := by
  have hq := h (s.heap.objs.size + 1) s.heap.objs.size (I.hok.fresh (Nat.le_succ _)) (I.hok.fresh (Nat.le_refl _)) (Nat.ne_of_lt (Nat.lt_succ_self _))
  have J := Inv.made (C := C) I
  have go := F.go _ X.stack _ _ ⟨Value.ref (s.heap.objs.size + 1) :: us, kv⟩ (Value.ref (s.heap.objs.size + 1) :: zs) (V.ref (s.heap.objs.size + 1) :: vs) _ _ (guards_make (A := X.A) (C := C) (us := us) (kw := kv) ▸ hG) (hr.make C us kv) (J.env0.make C us kv) (bd _ _ J.kIn) (.cons rfl r) hq
  refine wpAny_call (make_map (f := f) I.kIn M.makes M.init (beq_iff_eq.mp M.fn) (codeAny_mono go fun q s2 hs => ?_))
  match q, hs with
  | .error e, hs => exact tk e s2 (XE.of_call J (fun _ _ _ z => z) hs)
  | .ok (.ret u), hs =>
    obtain ⟨v, H2, J2, rv, ev, q2⟩ := J.after hs
    subst ev
    exact ⟨rv, ⟨V.ref (s.heap.objs.size + 1), H2, J2, rfl, q2⟩⟩
  | .ok .next, hs => exact False.elim hs
  | .ok .brk, hs => exact False.elim hs
  | .ok .cont, hs => exact False.elim hs
def argsM (n : Nat) (c : Str) (g : List D → M D) (xs : List D) : M D := if xs.length + 1 = n then mkD c g xs else stuck
/-- C(e, ..) -/
theorem de_make (c : Str) (M : Mk X.K (He.ga X.K c) f) (F : FnD X.prog X.w X.K X.mg X.base k f fd ps g) (hr : Room (k + 1) X.A) (hG : X.A.guards = some []) (tk : Takes X W) (hg : Gl X c) (hm : X.mg c = some (.ref (He.ga X.K c))) (hb : Binds X.K fd ps ds) (hd : Vals dvs ds) (hdd : ∀ q G, DenL X.K q G dds dvs)
    (ha : DA X W (a :: es) ms) (hdb : (c == ("__debug__" : Str)) = false := by decide) (he : starEach (a :: es) X.env = (false, eval a X.env) :: starEach es X.env := by rfl) (hpl : (backTo pos (starEach es X.env)).any (·.1) = false := by rfl) :
    DE X W (.Call (.Name c p) (a :: es) [] pos) (fun t => do let xs ← ms t; argsM ps.length c g (xs ++ dds)) := by
  refine ⟨fun pins s σ H Q I ⟨t, q, G, S, ow, r, h⟩ => ?_⟩
  refine wpAny_Call_Name_kw (ld_glob I hg hm (PySem.W.callWith_K (h₀ := X.base) I.ok.mod.kin M.kp ?_ he hpl) hdb)
  refine thn (ha.run pos pins s σ H (fun vs H1 => (vs ++ dvs).length + 1 = ps.length ∧ ∀ x dx, H1 x = none → H1 dx = none → dx ≠ x → spD X.K ps.length g (.ref x :: (vs ++ dvs)) (upd (upd H1 dx (.own x)) x (.ins (He.ga X.K c) dx [])) (fun v H2 => v = .non ∧ Q (.ref x) H2) fun c d H' => W c d σ H') I ⟨t, q, G, S, ow, r, okR.seq h fun d S1 v p1 G1 H1 e1 dn r1 x1 h1 => ?_⟩) fun us s1 ⟨vs, H1, I1, rv, l1, q1⟩ => ⟨I1.kIn, ?_⟩
  · have dn2 := dn.append (hdd p1 G1)
    unfold argsM at h1
    by_cases hz : (d ++ dds).length + 1 = ps.length
    · rw [if_pos hz] at h1
      refine ⟨by rw [dn2.length]; exact hz, fun x dx hx hdx ne => ?_⟩
      obtain ⟨k1, k2⟩ := mkD_ok dn2 r1 hx hdx ne h1
      exact ⟨_, _, _, _, by rw [List.length_cons]; exact hz, k1, (r1.born (c := c) hx hdx ne).1, k2⟩
    · rw [if_neg hz] at h1
      exact h1.elim
  · have r2 := rv.append hd
    refine make_G (zs := us ++ ds) M F hr hG tk I1 (fun s2 u kin => hb s2 (u :: us) kin ?_) r2 q1
    rw [List.cons_append, List.length_cons, ← r2.length]
    exact l1
end
end RM

/-! RM: the source of draws (a dict with two lists), while. -/
namespace RM
open PySem PySem.Spec PyProof.Rows L2

/-! ### while -/
def whileD (c : DSt → M Bool) (b : DSt → M Ctl) : Nat → DSt → M Ctl
  | 0, _ => stuck
  | n + 1, t => do
    if ← c t then do
      let r ← b t
      match r with
      | .nx t' => whileD c b n t'
      | .ct t' => whileD c b n t'
      | .bk t' => pure (.nx t')
      | .rt x => pure (.rt x)
    else pure (.nx t)
section
variable {X : Cx} {W : Wf} {c : Expr} {body : List Stmt} {mc : DSt → M Bool} {mb : DSt → M Ctl} {pos : Pos}
theorem ds_while (fuel : Nat) (hp : PassesOwn (model X.prog X.w) X.A X.env X.xe) (hc : DT X W.x c mc) (hb : DSs X W body mb) : DS X W (.While c body [] pos) (fun t => whileD mc mb fuel t) := by
  refine PS.imp (ps_while hp hc hb) fun E σ H ⟨n, t, p, G, S, ow, r, h⟩ => ?_
  refine ⟨fun k σ' H' => ∃ t' p' G' S' ow', RelF X.K n p' G' S' H' t' σ' ow' ∧ okS X.K W n (whileD mc mb k t' S') E, ⟨fuel, t, p, G, S, ow, r, h⟩, ?_⟩
  rintro k σ1 H1 ⟨t1, p1, G1, S1, ow1, r1, h1⟩
  cases k with
  | zero => exact h1.elim
  | succ k =>
    have h2 : okS X.K W n ((mc t1 >>= _) S1) E := h1
    refine ⟨t1, p1, G1, S1, ow1, r1.rs, okS.seq h2 r1 fun b S2 bv p2 G2 H2 eb db r2 x2 h3 => ?_⟩
    cases db
    cases b with
    | false => exact iteF (h3 p2 G2 H2 σ1 ow1 r2)
    | true =>
      refine iteT ⟨fun σ3 H3 => ∃ t3 p3 G3 S3 ow3, RelF X.K n p3 G3 S3 H3 t3 σ3 ow3 ∧ okS X.K W n (whileD mc mb k t3 S3) E, fun σ3 H3 q => ⟨k, Nat.lt_succ_self k, q⟩, n, t1, p2, G2, S2, ow1, r2, ?_⟩
      have h4 : okS X.K W n ((mb t1 S2).andThen _) E := h3
      cases em : mb t1 S2 with
      | stuck => rw [em] at h4; exact h4
      | exc z S3 => rw [em] at h4; exact h4
      | ok q S3 =>
        rw [em] at h4
        cases q with
        | nx t3 => exact fun p4 G4 H4 σ4 ow4 r4 => ⟨t3, p4, G4, S3, ow4, r4, h4⟩
        | ct t3 => exact fun p4 G4 H4 σ4 ow4 r4 => ⟨t3, p4, G4, S3, ow4, r4, h4⟩
        | bk t3 => exact h4
        | rt d => exact h4
end
/-! ### the tape -/
def tapeOf (d : D) : M Tape := fun S => match d with
  | .mref i => match S[i]? with
    | some (.tape t) => .ok t S
    | _ => .stuck
  | _ => .stuck
def tapeSet (d : D) (t : Tape) : M Unit := fun S => match d with
  | .mref i => match S[i]? with
    | some (.tape _) => .ok () (S.set i (.tape t))
    | _ => .stuck
  | _ => .stuck
theorem tapeOf_of (d : D) (S : Sto) : (∃ i t, d = .mref i ∧ S[i]? = some (.tape t) ∧ tapeOf d S = .ok t S) ∨ tapeOf d S = .stuck := by
  unfold tapeOf
  cases d with
  | mref i =>
    dsimp only
    cases e : S[i]? with
    | none => exact .inr rfl
    | some o =>
      cases o with
      | tape t => exact .inl ⟨i, t, rfl, e, rfl⟩
      | inst _ _ _ => exact .inr rfl
  | _ => exact .inr rfl
structure TapeAt (H : Hp) (a l c : Addr) (t : Tape) : Prop where
  d : H a = some (.dK [(.inr "large", .ref l), (.inr "cells", .ref c), (.inr "rest", .int t.rest), (.inr "turn", .int t.turn)])
  l : H l = some (.lst (t.large.map .int))
  c : H c = some (.lst (t.cells.map .int))
theorem Rel0.tape {K : PySem.W.Frag} {p : List (List Addr)} {S : Sto} {G H : Hp} {i : Nat} {t : Tape} {a : Addr} {q : List Addr} (r : Rel0 K p S G H) (hp : p[i]? = some (a :: q)) (hs : S[i]? = some (.tape t)) : ∃ l c, q = [l, c] ∧ TapeAt H a l c t := by
  have m := r.mo i _ _ hp hs
  match q, m with
  | [], m => exact m.elim
  | [_], m => exact m.elim
  | [l, c], ⟨h1, h2, h3⟩ => exact ⟨l, c, rfl, h1, h2, h3⟩
  | _ :: _ :: _ :: _, m => exact m.elim
/-- the tape's objects are changed -/
theorem Rel0.wind {K : PySem.W.Frag} {p : List (List Addr)} {S : Sto} {G H H' : Hp} {i : Nat} {t t' : Tape} {a l c : Addr} (r : Rel0 K p S G H) (hp : p[i]? = some [a, l, c]) (hs : S[i]? = some (.tape t)) (k : ∀ b, b ≠ a → b ≠ l → b ≠ c → H' b = H b) (ta : TapeAt H' a l c t') :
    Rel0 K p (S.set i (.tape t')) G H' ∧ Ext p G H p G H' := by
  have mem : ∀ b ∈ [a, l, c], b ∈ p.flatten := fun b hb => List.mem_flatten.mpr ⟨_, List.mem_of_getElem? hp, hb⟩
  have hi : i < S.length := (List.getElem?_eq_some_iff.mp hs).1
  have far : ∀ b, b ∉ p.flatten → H' b = H b := fun b hb => k b (by rintro rfl; exact hb (mem _ (by simp))) (by rintro rfl; exact hb (mem _ (by simp))) (by rintro rfl; exact hb (mem _ (by simp)))
  refine ⟨⟨fun b o e => ?_, by rw [List.length_set]; exact r.len, fun j as o e1 e2 => ?_, r.nd, r.gn⟩, ⟨Same.refl _, fun _ h _ => h, fun b o e hb => by rw [far b hb]; exact e, fun b e => ?_, [], by simp, by simp⟩⟩
  · have nb : b ∉ p.flatten := fun z => by rw [r.gn b z] at e; cases e
    rw [far b nb]
    exact r.sub b o e
  · by_cases hj : i = j
    · subst hj
      rw [hp] at e1; cases e1
      rw [List.getElem?_set_self hi] at e2; cases e2
      exact ⟨ta.d, ta.l, ta.c⟩
    · rw [List.getElem?_set_ne hj] at e2
      refine (r.mo j as o e1 e2).mono ⟨[], by simp⟩ (Same.refl _) fun b hb => k b ?_ ?_ ?_
      · rintro rfl; exact flat_apart r.nd hp e1 hj (by simp) hb
      · rintro rfl; exact flat_apart r.nd hp e1 hj (by simp) hb
      · rintro rfl; exact flat_apart r.nd hp e1 hj (by simp) hb
  · by_cases h1 : b = a
    · subst h1; rw [ta.d]; simp
    · by_cases h2 : b = l
      · subst h2; rw [ta.l]; simp
      · by_cases h3 : b = c
        · subst h3; rw [ta.c]; simp
        · rw [k b h1 h2 h3]; exact e
theorem tape_apart {K : PySem.W.Frag} {p : List (List Addr)} {S : Sto} {G H : Hp} {i : Nat} {a l c : Addr} (r : Rel0 K p S G H) (hp : p[i]? = some [a, l, c]) : a ≠ l ∧ a ≠ c ∧ l ≠ c := by
  have sub : [a, l, c].Sublist p.flatten := by
    obtain ⟨hi, e⟩ := List.getElem?_eq_some_iff.mp hp
    rw [← e]
    exact List.sublist_flatten_of_mem (List.getElem_mem hi)
  have := r.nd.sublist sub
  simp at this
  exact ⟨this.1.1, this.1.2, this.2⟩
/-- the state's name in slot i: what stands there -/
theorem state_at {K : PySem.W.Frag} {p : List (List Addr)} {G H : Hp} {S : Sto} {t : DSt} {σ : L2.St} {ow : List Addr} {i : Nat} (r : RelS K p G S H t σ ow) {β : Type} {f : D → Tape → M β} {Z : Res β → Prop} (hZ : ¬ Z .stuck) (h : Z ((do let o ← getV t i; let tp ← tapeOf o; f o tp : M β) S)) :
    ∃ j tp a l c, t[i]? = some (some (.val (.mref j))) ∧ σ[i]? = some (some (.ref a)) ∧ p[j]? = some [a, l, c] ∧ S[j]? = some (.tape tp) ∧ TapeAt H a l c tp ∧ Z (f (.mref j) tp S) := by
  rcases getV_of t i with ⟨d, e, q⟩ | q
  · rw [q] at h
    have h1 : Z ((tapeOf d S).andThen fun tp => f d tp) := h
    rcases tapeOf_of d S with ⟨j, tp, rfl, hs, e2⟩ | e2
    · rw [e2] at h1
      obtain ⟨v, ev, a, q2, hp, rfl⟩ := r.sl.get e
      obtain ⟨l, c, rfl, ta⟩ := r.rel.tape hp hs
      exact ⟨j, tp, a, l, c, e, ev, hp, hs, ta, h1⟩
    · rw [e2] at h1
      exact absurd h1 hZ
  · rw [q] at h
    exact absurd h hZ
theorem vRest {l c : Addr} {r u : Int} : valV ([(.inr "large", .ref l), (.inr "cells", .ref c), (.inr "rest", .int r), (.inr "turn", .int u)] : List (Key × V)) (.inr "rest") = some (.int r) := rfl
theorem vTurn {l c : Addr} {r u : Int} : valV ([(.inr "large", .ref l), (.inr "cells", .ref c), (.inr "rest", .int r), (.inr "turn", .int u)] : List (Key × V)) (.inr "turn") = some (.int u) := rfl
theorem vLarge {l c : Addr} {r u : Int} : valV ([(.inr "large", .ref l), (.inr "cells", .ref c), (.inr "rest", .int r), (.inr "turn", .int u)] : List (Key × V)) (.inr "large") = some (.ref l) := rfl
theorem vCells {l c : Addr} {r u : Int} : valV ([(.inr "large", .ref l), (.inr "cells", .ref c), (.inr "rest", .int r), (.inr "turn", .int u)] : List (Key × V)) (.inr "cells") = some (.ref c) := rfl
theorem pRest {l c : Addr} {r u k : Int} : putK ([(.inr "large", .ref l), (.inr "cells", .ref c), (.inr "rest", .int r), (.inr "turn", .int u)] : List (Key × V)) (.inr "rest") (.int k) = [(.inr "large", .ref l), (.inr "cells", .ref c), (.inr "rest", .int k), (.inr "turn", .int u)] := rfl
theorem pTurn {l c : Addr} {r u k : Int} : putK ([(.inr "large", .ref l), (.inr "cells", .ref c), (.inr "rest", .int r), (.inr "turn", .int u)] : List (Key × V)) (.inr "turn") (.int k) = [(.inr "large", .ref l), (.inr "cells", .ref c), (.inr "rest", .int r), (.inr "turn", .int k)] := rfl
section
variable {X : Cx} {W : WX} {a b e : Expr} {ma mb me : DSt → M D} {pos p1 p2 p3 p4 : Pos} {j : Nat} {x : Str}
/-- state['rest'], state['turn'] -/
theorem de_rest (i : Nat) (hu : X.A.units + 1 < cLine) (hN : X.N[i]? = some x := by rfl) (hv : Vis X.env.scope x := by first | exact Or.inl rfl | exact Or.inr (Or.inl rfl) | exact Or.inr (Or.inr rfl)) (hd : (x == ("__debug__" : Str)) = false := by decide)
    (hcd : (x == ("__classdict__" : Str)) = false := by decide) : DE X W (.Subscript (.Name x p1) (.Constant (.str "rest") j p2) pos) (fun t => do let o ← getV t i; let tp ← tapeOf o; pure (.int tp.rest)) := by
  refine PE.imp (pe_dget hu (pe_var hN hv hd hcd) pe_str (fun _ _ => rfl)) fun σ H Q ⟨t, p, G, S, ow, r, h⟩ => ?_
  obtain ⟨k, tp, l0, l, c, e1, e2, hp, hs, ta, h⟩ := state_at (Z := fun z => okR (Den X.K) X.K p G H (fun c d H' => W c d σ H') z Q) r (fun z => z) h
  exact ⟨_, e2, l0, _, rfl, vRest ▸ DGet.k (k := .inr "rest") ta.d, okR.fin (v := V.int _) h rfl r.rel⟩
theorem de_turn (i : Nat) (hu : X.A.units + 1 < cLine) (hN : X.N[i]? = some x := by rfl) (hv : Vis X.env.scope x := by first | exact Or.inl rfl | exact Or.inr (Or.inl rfl) | exact Or.inr (Or.inr rfl)) (hd : (x == ("__debug__" : Str)) = false := by decide)
    (hcd : (x == ("__classdict__" : Str)) = false := by decide) : DE X W (.Subscript (.Name x p1) (.Constant (.str "turn") j p2) pos) (fun t => do let o ← getV t i; let tp ← tapeOf o; pure (.int tp.turn)) := by
  refine PE.imp (pe_dget hu (pe_var hN hv hd hcd) pe_str (fun _ _ => rfl)) fun σ H Q ⟨t, p, G, S, ow, r, h⟩ => ?_
  obtain ⟨k, tp, l0, l, c, e1, e2, hp, hs, ta, h⟩ := state_at (Z := fun z => okR (Den X.K) X.K p G H (fun c d H' => W c d σ H') z Q) r (fun z => z) h
  exact ⟨_, e2, l0, _, rfl, vTurn ▸ DGet.k (k := .inr "turn") ta.d, okR.fin (v := V.int _) h rfl r.rel⟩
theorem dp_ints {K : PySem.W.Frag} {H : Hp} : ∀ ns : List Int, DpAll K H (ns.map .int) (ns.map .int)
  | [] => .nil
  | n :: ns => .cons (.int n) (dp_ints ns)
theorem lay_ints : ∀ ns : List Int, PyData.canLayAll0 (ns.map PyData.int) = true
  | [] => rfl
  | n :: ns => by
    show (PyData.canLay0 (.int n) && PyData.canLayAll0 (ns.map PyData.int)) = true
    rw [lay_ints ns]; rfl
theorem depth_ints : ∀ ns : List Int, PyData.depthAll (ns.map PyData.int) = 0
  | [] => rfl
  | n :: ns => by
    show max (PyData.depth (.int n)) (PyData.depthAll (ns.map PyData.int)) = 0
    rw [depth_ints ns]; rfl
theorem shaped_ints (ns : List Int) : SeqAt.shaped (.list (ns.map .int)) = true := by
  unfold SeqAt.shaped
  have h1 : PyData.canLay0 (.list (ns.map .int)) = true := lay_ints ns
  have h2 : PyData.depth (.list (ns.map .int)) = 1 := by
    show PyData.depthAll (ns.map PyData.int) + 1 = 1
    rw [depth_ints]
  rw [h1, h2]; rfl
theorem eqv_nil (ns : List Int) : (!PyData.eqv (.list (ns.map .int)) (.list [])) = !ns.isEmpty := by
  cases ns <;> rfl
/-- state['large'] != [] , state['cells'] != [] -/
theorem dt_large (i : Nat) (hu : X.A.units + 64 < cLine) (hN : X.N[i]? = some x := by rfl) (hv : Vis X.env.scope x := by first | exact Or.inl rfl | exact Or.inr (Or.inl rfl) | exact Or.inr (Or.inr rfl)) (hd : (x == ("__debug__" : Str)) = false := by decide)
    (hcd : (x == ("__classdict__" : Str)) = false := by decide) : DT X W (.Compare (.Subscript (.Name x p1) (.Constant (.str "large") j p2) p3) [.NotEq] [.List [] p4] pos) (fun t => do let o ← getV t i; let tp ← tapeOf o; pure (!tp.large.isEmpty)) := by
  refine PT.imp (pt_cmpR (op_neD hu) (pe_dget (by omega) (pe_var hN hv hd hcd) pe_str (fun _ _ => rfl)) (pe_lst pa_nil) (nomark _)) fun σ H Q ⟨t, p, G, S, ow, r, h⟩ => ?_
  obtain ⟨k, tp, l0, l, c, e1, e2, hp, hs, ta, h⟩ := state_at (Z := fun z => okR rB X.K p G H (fun c d H' => W c d σ H') z Q) r (fun z => z) h
  refine ⟨_, e2, l0, _, rfl, vLarge ▸ DGet.k (k := .inr "large") ta.d, Nat.zero_le _, fun q hq => ?_⟩
  have ne : l ≠ q := ne_of_none ta.l hq
  refine ⟨_, _, .lst (SqL.of (by rw [upd_ne ne]; exact ta.l)) (dp_ints _), .lst (SqL.of upd_same) .nil, shaped_ints _, shaped_ints [], _, rfl, ?_⟩
  rw [eqv_nil]
  exact h _ p _ _ rfl (r.rel.new (.lst []) hq).1 (r.rel.new (.lst []) hq).2
theorem dt_cells (i : Nat) (hu : X.A.units + 64 < cLine) (hN : X.N[i]? = some x := by rfl) (hv : Vis X.env.scope x := by first | exact Or.inl rfl | exact Or.inr (Or.inl rfl) | exact Or.inr (Or.inr rfl)) (hd : (x == ("__debug__" : Str)) = false := by decide)
    (hcd : (x == ("__classdict__" : Str)) = false := by decide) : DT X W (.Compare (.Subscript (.Name x p1) (.Constant (.str "cells") j p2) p3) [.NotEq] [.List [] p4] pos) (fun t => do let o ← getV t i; let tp ← tapeOf o; pure (!tp.cells.isEmpty)) := by
  refine PT.imp (pt_cmpR (op_neD hu) (pe_dget (by omega) (pe_var hN hv hd hcd) pe_str (fun _ _ => rfl)) (pe_lst pa_nil) (nomark _)) fun σ H Q ⟨t, p, G, S, ow, r, h⟩ => ?_
  obtain ⟨k, tp, l0, l, c, e1, e2, hp, hs, ta, h⟩ := state_at (Z := fun z => okR rB X.K p G H (fun c d H' => W c d σ H') z Q) r (fun z => z) h
  refine ⟨_, e2, l0, _, rfl, vCells ▸ DGet.k (k := .inr "cells") ta.d, Nat.zero_le _, fun q hq => ?_⟩
  have ne : c ≠ q := ne_of_none ta.c hq
  refine ⟨_, _, .lst (SqL.of (by rw [upd_ne ne]; exact ta.c)) (dp_ints _), .lst (SqL.of upd_same) .nil, shaped_ints _, shaped_ints [], _, rfl, ?_⟩
  rw [eqv_nil]
  exact h _ p _ _ rfl (r.rel.new (.lst []) hq).1 (r.rel.new (.lst []) hq).2
/-- len(state['cells']) -/
theorem de_lenCells (i : Nat) (hu : X.A.units + 1 < cLine) (hg : Gl X "len") (hm : X.mg "len" = none) (hN : X.N[i]? = some x := by rfl) (hv : Vis X.env.scope x := by first | exact Or.inl rfl | exact Or.inr (Or.inl rfl) | exact Or.inr (Or.inr rfl)) (hd : (x == ("__debug__" : Str)) = false := by decide)
    (hcd : (x == ("__classdict__" : Str)) = false := by decide) (he : starEach [.Subscript (.Name x p1) (.Constant (.str "cells") j p2) p3] X.env = [(false, eval (.Subscript (.Name x p1) (.Constant (.str "cells") j p2) p3) X.env)] := by rfl) :
    DE X W (.Call (.Name "len" p4) [.Subscript (.Name x p1) (.Constant (.str "cells") j p2) p3] [] pos) (fun t => do let o ← getV t i; let tp ← tapeOf o; pure (.int tp.cells.length)) := by
  refine PE.imp (pe_callB call_len hg hm boot_len (pa_cons (pe_dget hu (pe_var hN hv hd hcd) pe_str (fun _ _ => rfl)) pa_nil he) (by decide) (by decide) he rfl) fun σ H Q ⟨t, p, G, S, ow, r, h⟩ => ?_
  obtain ⟨k, tp, l0, l, c, e1, e2, hp, hs, ta, h⟩ := state_at (Z := fun z => okR (Den X.K) X.K p G H (fun c d H' => W c d σ H') z Q) r (fun z => z) h
  refine ⟨_, e2, l0, _, rfl, vCells ▸ DGet.k (k := .inr "cells") ta.d, V.ref c, (tp.cells.map V.int).length, rfl, (Or.inl ⟨_, SqL.of ta.c, rfl⟩ : LenV X.K (.ref c) H (tp.cells.map V.int).length), ?_⟩
  rw [List.length_map]
  exact okR.fin (v := V.int _) h rfl r.rel
/-- state['cells'][e] -/
def cellD (tp : Tape) : D → M D
  | .int k => match atI tp.cells k with
    | some n => pure (.int n)
    | none => stuck
  | _ => stuck
theorem de_cell (i : Nat) (hu : X.A.units + 1 < cLine) (he : DE X W e me) (hs : PlainIx e) (hN : X.N[i]? = some x := by rfl) (hv : Vis X.env.scope x := by first | exact Or.inl rfl | exact Or.inr (Or.inl rfl) | exact Or.inr (Or.inr rfl)) (hd : (x == ("__debug__" : Str)) = false := by decide)
    (hcd : (x == ("__classdict__" : Str)) = false := by decide) : DE X W (.Subscript (.Subscript (.Name x p1) (.Constant (.str "cells") j p2) p3) e pos) (fun t => do let o ← getV t i; let _ ← tapeOf o; let k ← me t; let tp ← tapeOf o; cellD tp k) := by
  refine PE.imp (pe_ix ix_list (pe_dget hu (pe_var hN hv hd hcd) pe_str (fun _ _ => rfl)) he hs) fun σ H Q ⟨t, p, G, S, ow, r, h⟩ => ?_
  obtain ⟨k, tp, l0, l, c, e1, e2, hp, hs, ta, h⟩ := state_at (f := fun o _ => do let k ← me t; let tp ← tapeOf o; cellD tp k) (Z := fun z => okR (Den X.K) X.K p G H (fun c d H' => W c d σ H') z Q) r (fun z => z) h
  refine ⟨_, e2, l0, _, rfl, vCells ▸ DGet.k (k := .inr "cells") ta.d, tD.next r (Ext.refl _ _ _) r.rel (okR.seq h fun y S1 yv p1 G1 H1 ey dy r1 x1 h1 => ?_)⟩
  have h2 : okR (Den X.K) X.K p1 G1 H1 (fun c d H' => W c d σ H') ((tapeOf (.mref k) S1).andThen fun tp => cellD tp y) Q := h1
  rcases tapeOf_of (.mref k) S1 with ⟨k2, tp2, ek, hs2, e4⟩ | e4
  · cases ek
    rw [e4] at h2
    have hp2 : p1[k]? = some [l0, l, c] := idx_ext x1.pp hp
    obtain ⟨l2, c2, eq, ta2⟩ := r1.tape hp2 hs2
    cases eq
    cases y <;> try exact h2.elim
    rename_i z
    have h3 : okR (Den X.K) X.K p1 G1 H1 (fun c d H' => W c d σ H') (cellD tp2 (.int z) S1) Q := h2
    unfold cellD at h3
    dsimp only at h3
    cases ea : atI tp2.cells z with
    | none => rw [ea] at h3; exact h3.elim
    | some nn =>
      rw [ea] at h3
      refine ⟨c, _, z, .int nn, rfl, dy, SqL.of ta2.c, ?_, okR.fin (v := V.int _) h3 rfl r1⟩
      unfold atI at ea ⊢
      obtain ⟨q, e5, e6⟩ := Option.bind_eq_some_iff.mp ea
      rw [List.length_map, e5]
      show (tp2.cells.map V.int)[q]? = _
      rw [List.getElem?_map, e6]
      rfl
  · rw [e4] at h2
    exact h2.elim
end
section
variable {X : Cx} {W : Wf} {e : Expr} {me : DSt → M D} {pos p1 p2 p3 : Pos} {j : Nat} {x : Str}
/-- state['rest'] = e, state['turn'] = e -/
def restD (o v : D) : M Unit := match v with
  | .int k => do let tp ← tapeOf o; tapeSet o { tp with rest := k }
  | _ => stuck
def turnD (o v : D) : M Unit := match v with
  | .int k => do let tp ← tapeOf o; tapeSet o { tp with turn := k }
  | _ => stuck
theorem ds_rest (i : Nat) (hu : X.A.units + 1 < cLine) (he : DE X W.x e me) (hs : swapsWith e (some (.Subscript (.Name x p1) (.Constant (.str "rest") j p2) p3)) pos.line X.env = pure false := by rfl) (hN : X.N[i]? = some x := by rfl) (hv : Vis X.env.scope x := by first | exact Or.inl rfl | exact Or.inr (Or.inl rfl) | exact Or.inr (Or.inr rfl)) (hd : (x == ("__debug__" : Str)) = false := by decide)
    (hcd : (x == ("__classdict__" : Str)) = false := by decide) : DS X W (.Assign [.Subscript (.Name x p1) (.Constant (.str "rest") j p2) p3] e pos) (fun t => do let v ← me t; let o ← getV t i; restD o v; pure (.nx t)) := by
  refine PS.imp (ps_dput hu (pe_var hN hv hd hcd) pe_str he hs) fun E σ H ⟨n, t, p, G, S, ow, r, h⟩ => ?_
  refine ⟨t, p, G, S, ow, r.rs, okS.seq h r fun y S1 yv p1 G1 H1 ey dy r1 x1 h1 => ?_⟩
  rcases getV_of t i with ⟨d, e, q⟩ | q
  · rw [q] at h1
    cases y <;> try exact h1.elim
    rename_i k
    have h2 : okS X.K W n ((((tapeOf d S1).andThen fun tp => tapeSet d { tp with rest := k })).andThen fun _ => pure (.nx t)) E := h1
    rcases tapeOf_of d S1 with ⟨m, tp, rfl, hs, e2⟩ | e2
    · rw [e2] at h2
      obtain ⟨v, ev, a, q2, hp, rfl⟩ := r1.rs.sl.get e
      obtain ⟨l, c, rfl, ta⟩ := r1.rs.rel.tape hp hs
      obtain ⟨n1, n2, n3⟩ := tape_apart r1.rs.rel hp
      refine ⟨_, ev, a, _, rfl, DPut.k (k := .inr "rest") ta.d (by show 4 < sizeLine; decide), ?_⟩
      rw [show yv = V.int k from dy, pRest]
      obtain ⟨rr, xx⟩ := r1.rs.rel.wind (t' := { tp with rest := k }) (H' := upd H1 a (.dK [(.inr "large", .ref l), (.inr "cells", .ref c), (.inr "rest", .int k), (.inr "turn", .int tp.turn)])) hp hs (fun b hb _ _ => upd_ne hb) ⟨upd_same, by rw [upd_ne n1.symm]; exact ta.l, by rw [upd_ne n2.symm]; exact ta.c⟩
      have h3 : okS X.K W n (((tapeSet (.mref m) { tp with rest := k }) S1).andThen fun _ => pure (.nx t)) E := h2
      unfold tapeSet at h3
      dsimp only at h3
      rw [hs] at h3
      exact h3 p1 G1 _ σ ow (r1.step xx rr)
    · rw [e2] at h2
      exact h2.elim
  · rw [q] at h1
    exact h1.elim
theorem ds_turn (i : Nat) (hu : X.A.units + 1 < cLine) (he : DE X W.x e me) (hs : swapsWith e (some (.Subscript (.Name x p1) (.Constant (.str "turn") j p2) p3)) pos.line X.env = pure false := by rfl) (hN : X.N[i]? = some x := by rfl) (hv : Vis X.env.scope x := by first | exact Or.inl rfl | exact Or.inr (Or.inl rfl) | exact Or.inr (Or.inr rfl)) (hd : (x == ("__debug__" : Str)) = false := by decide)
    (hcd : (x == ("__classdict__" : Str)) = false := by decide) : DS X W (.Assign [.Subscript (.Name x p1) (.Constant (.str "turn") j p2) p3] e pos) (fun t => do let v ← me t; let o ← getV t i; turnD o v; pure (.nx t)) := by
  refine PS.imp (ps_dput hu (pe_var hN hv hd hcd) pe_str he hs) fun E σ H ⟨n, t, p, G, S, ow, r, h⟩ => ?_
  refine ⟨t, p, G, S, ow, r.rs, okS.seq h r fun y S1 yv p1 G1 H1 ey dy r1 x1 h1 => ?_⟩
  rcases getV_of t i with ⟨d, e, q⟩ | q
  · rw [q] at h1
    cases y <;> try exact h1.elim
    rename_i k
    have h2 : okS X.K W n ((((tapeOf d S1).andThen fun tp => tapeSet d { tp with turn := k })).andThen fun _ => pure (.nx t)) E := h1
    rcases tapeOf_of d S1 with ⟨m, tp, rfl, hs, e2⟩ | e2
    · rw [e2] at h2
      obtain ⟨v, ev, a, q2, hp, rfl⟩ := r1.rs.sl.get e
      obtain ⟨l, c, rfl, ta⟩ := r1.rs.rel.tape hp hs
      obtain ⟨n1, n2, n3⟩ := tape_apart r1.rs.rel hp
      refine ⟨_, ev, a, _, rfl, DPut.k (k := .inr "turn") ta.d (by show 4 < sizeLine; decide), ?_⟩
      rw [show yv = V.int k from dy, pTurn]
      obtain ⟨rr, xx⟩ := r1.rs.rel.wind (t' := { tp with turn := k }) (H' := upd H1 a (.dK [(.inr "large", .ref l), (.inr "cells", .ref c), (.inr "rest", .int tp.rest), (.inr "turn", .int k)])) hp hs (fun b hb _ _ => upd_ne hb) ⟨upd_same, by rw [upd_ne n1.symm]; exact ta.l, by rw [upd_ne n2.symm]; exact ta.c⟩
      have h3 : okS X.K W n (((tapeSet (.mref m) { tp with turn := k }) S1).andThen fun _ => pure (.nx t)) E := h2
      unfold tapeSet at h3
      dsimp only at h3
      rw [hs] at h3
      exact h3 p1 G1 _ σ ow (r1.step xx rr)
    · rw [e2] at h2
      exact h2.elim
  · rw [q] at h1
    exact h1.elim
/-- state['rest'] = state['large'].pop(0) -/
def popLarge (o : D) : M Unit := do
  let tp ← tapeOf o
  match tp.large with
  | k :: r => tapeSet o { tp with rest := k, large := r }
  | [] => stuck
theorem ds_popL (i : Nat) {p4 p5 p6 p7 p8 p9 : Pos} {j2 j3 : Nat} (hu : X.A.units + 1 < cLine) (hs : swapsWith (.Call (.Attribute (.Subscript (.Name x p4) (.Constant (.str "large") j2 p5) p6) "pop" p7) [.Constant (.int 0) j3 p8] [] p9) (some (.Subscript (.Name x p1) (.Constant (.str "rest") j p2) p3)) pos.line X.env = pure false := by rfl)
    (hst : starEach [.Constant (.int 0) j3 p8] X.env = [(false, eval (.Constant (.int 0) j3 p8) X.env)] := by rfl) (hfew : ((backTo p9 (starEach [.Constant (.int 0) j3 p8] X.env)).all (fun x => !x.1) && (backToKw p9 (keywordEach [] X.env)).all (fun x => x.1.isSome)
      && decide ([Expr.Constant (.int 0) j3 p8].length + ([] : List Keyword).length + (if ([] : List Keyword).isEmpty then 0 else 1) < 30)) = true := by rfl) (hline : (p7.endLine == p9.line) = true := by rfl)
    (hbase : attributeBase (.Subscript (.Name x p4) (.Constant (.str "large") j2 p5) p6) "pop" X.env (eval (.Subscript (.Name x p4) (.Constant (.str "large") j2 p5) p6) X.env) = eval (.Subscript (.Name x p4) (.Constant (.str "large") j2 p5) p6) X.env := by rfl)
    (hN : X.N[i]? = some x := by rfl) (hv : Vis X.env.scope x := by first | exact Or.inl rfl | exact Or.inr (Or.inl rfl) | exact Or.inr (Or.inr rfl)) (hd : (x == ("__debug__" : Str)) = false := by decide) (hcd : (x == ("__classdict__" : Str)) = false := by decide) :
    DS X W (.Assign [.Subscript (.Name x p1) (.Constant (.str "rest") j p2) p3] (.Call (.Attribute (.Subscript (.Name x p4) (.Constant (.str "large") j2 p5) p6) "pop" p7) [.Constant (.int 0) j3 p8] [] p9) pos) (fun t => do let o ← getV t i; popLarge o; pure (.nx t)) := by
  refine PS.imp (ps_dput hu (pe_var hN hv hd hcd) pe_str (pe_bm PySem.F.plainAttrs_list PySem.F.slot_list_pop PySem.F.type_list_pop mt_popAt (pe_dget hu (pe_var hN hv hd hcd) pe_str (fun _ _ => rfl)) (pa_cons pe_int pa_nil hst) hbase hfew hline hst rfl) hs) fun E σ H ⟨n, t, p, G, S, ow, r, h⟩ => ?_
  have h : okS X.K W n ((do let o ← getV t i; popLarge o; pure (.nx t) : M Ctl) S) E := h
  rcases getV_of t i with ⟨d, e, q⟩ | q
  · rw [q] at h
    have h2 : okS X.K W n ((((tapeOf d S).andThen fun tp => match tp.large with
      | k :: r => tapeSet d { tp with rest := k, large := r }
      | [] => stuck)).andThen fun _ => pure (.nx t)) E := h
    rcases tapeOf_of d S with ⟨m, tp, rfl, hs, e2⟩ | e2
    · rw [e2] at h2
      obtain ⟨v, ev, a, q2, hp, rfl⟩ := r.rs.sl.get e
      obtain ⟨l, c, rfl, ta⟩ := r.rs.rel.tape hp hs
      obtain ⟨n1, n2, n3⟩ := tape_apart r.rs.rel hp
      obtain ⟨lg, cs, rs, tn⟩ := tp
      cases lg with
      | nil => exact h2.elim
      | cons k ks =>
        refine ⟨_, ev, a, V.ref l, rfl, vLarge ▸ DGet.k (k := .inr "large") ta.d, (Or.inl ⟨rfl, _, SqL.of ta.l⟩ : tyV X.K "list" (.ref l) H), l, _, 0, 0, .int k, rfl, rfl, ta.l, by decide, by decide, ?_, rfl, ?_⟩
        · rw [List.length_map, List.length_cons]
          show seqIndex? 0 (ks.length + 1) = some 0
          unfold seqIndex?
          simp
        · refine ⟨_, ev, a, _, rfl, DPut.k (k := .inr "rest") (by rw [upd_ne n1]; exact ta.d) (by show 4 < sizeLine; decide), ?_⟩
          rw [pRest]
          obtain ⟨rr, xx⟩ := r.rs.rel.wind (t' := ⟨ks, cs, k, tn⟩) (H' := upd (upd H l (.lst (ks.map V.int))) a (.dK [(.inr "large", .ref l), (.inr "cells", .ref c), (.inr "rest", .int k), (.inr "turn", .int tn)])) hp hs (fun b hb hb2 _ => by rw [upd_ne hb, upd_ne hb2]) ⟨upd_same, by rw [upd_ne n1.symm, upd_same], by rw [upd_ne n2.symm, upd_ne n3.symm]; exact ta.c⟩
          have h3 : okS X.K W n (((tapeSet (.mref m) ⟨ks, cs, k, tn⟩) S).andThen fun _ => pure (.nx t)) E := h2
          unfold tapeSet at h3
          dsimp only at h3
          rw [hs] at h3
          exact h3 p G _ σ ow (r.step xx rr)
    · rw [e2] at h2
      exact h2.elim
  · rw [q] at h
    exact h.elim
end
end RM

/-! RM: the law's source of draws is made. -/
namespace RM
open PySem PySem.Spec PyProof.Rows L2

def absI (i : Int) : Int := if i < 0 then -i else i
def begun (ns : List Int) : Tape := { large := ((ns.map absI).filter fun c => decide (10 ^ 18 ≤ c)).map fun c => c - 10 ^ 18, cells := ns.map absI, rest := 0, turn := 0 }
def begunD (ds : List D) : M D := fun S => match ds, S with
  | [.scr ns], [] => if ns.length ≤ 1000 then .ok (.mref 0) [.tape (begun ns)] else .stuck
  | _, _ => .stuck
abbrev rAbs : List V → Hp → VK → Prop := fun xs H Q => ∃ i, xs = [.int i] ∧ Q (.int (if i < 0 then -i else i)) H
abbrev rPow : R2 := rI CPow fun i j => .int (i ^ j.toNat)
abbrev rMinus : R2 := rI0 fun i j => .int (i - j)
abbrev rGeq : R2 := rI0 fun i j => .bl (decide (j ≤ i))
abbrev t1018 : TE := tOp rPow (tC (.int 10)) (tC (.int 18))
def tBegun (K : PySem.W.Frag) : TS := tSeq (tAsg (tLc (iList K (tVar 0)) (gName 2) tYes (tCB rAbs (tCons (tVar 2) tNil)) [2]) (gName 1))
  (tRet (tDisp [(tC (.str "large"), tLc (iList K (tVar 1)) (gName 2) (tTest (tOp rGeq (tVar 2) t1018)) (tOp rMinus (tVar 2) t1018) [2]), (tC (.str "cells"), tVar 1), (tC (.str "rest"), tC (.int 0)), (tC (.str "turn"), tC (.int 0))]))
theorem cpow1018 : CPow 10 18 := ⟨by decide, by decide, by decide⟩
theorem begun_read {K : PySem.W.Frag} {N : List Str} (hN : N.length = 3) (vs : List V) (H : Hp) (Q : VK) (E : XK) (h : spD K 1 begunD vs H Q E) : tBegun K { nx := fun _ H' => Q .non H', rt := Q } (L2.start N vs) H := by
  obtain ⟨ds, p, G, S, el, dn, r, h⟩ := h
  obtain ⟨d, rfl⟩ : ∃ d, ds = [d] := by
    match ds, el with
    | [d], _ => exact ⟨d, rfl⟩
  obtain ⟨v, rfl, dv⟩ := denL1 dn
  have hs : L2.start N [v] = [some v, none, none] := by
    unfold L2.start
    rw [hN]
    rfl
  rw [hs]
  cases d <;> try (cases S <;> exact h.elim)
  rename_i ns
  cases S with
  | cons _ _ => exact h.elim
  | nil =>
    obtain ⟨a, rfl, ha⟩ := dv
    have h1 : okR (Den K) K p G H E (if ns.length ≤ 1000 then .ok (.mref 0) [.tape (begun ns)] else .stuck) Q := h
    by_cases hl : ns.length ≤ 1000
    · rw [if_pos hl] at h1
      have pn : p = [] := List.length_eq_zero_iff.mp r.len
      subst pn
      have big : ∀ m : Nat, m ≤ 1000 → m < sizeLine := fun m hm => Nat.lt_of_le_of_lt hm (by decide)
      refine ⟨_, rfl, a, rfl, ⟨_, r.sub.seq ha⟩, fun C hC => ?_⟩
      refine lc_list (K := K) (a := a) (xs := ns.map V.int) (fun i H' => H' = upd H C (.lst ((ns.take i).map fun z => V.int (absI z)))) (by simp) (fun i H' _ e => ?_) (fun i x H' hx e => ?_) fun H' e => ?_
      · subst e
        exact (Same.upd_of hC).seq (r.sub.seq ha)
      · subst e
        rw [List.getElem?_map] at hx
        obtain ⟨z, ez, rfl⟩ := Option.map_eq_some_iff.mp hx
        have hi := (List.getElem?_eq_some_iff.mp ez).1
        refine ⟨rfl, ?_⟩
        refine ⟨_, rfl, z, rfl, _, upd_same, by rw [List.length_map, List.length_take]; exact big _ (by omega), ?_⟩
        rw [upd_upd, List.take_add_one, ez, List.map_append]
        rfl
      · subst e
        rw [List.length_map, List.take_length]
        show tDisp _ [some (.ref a), some (.ref C), none] _ Q
        intro T hT
        have nT : C ≠ T := fun e => by rw [← e, upd_same] at hT; cases hT
        have hT0 : H T = none := by rw [upd_ne nT.symm] at hT; exact hT
        refine ⟨_, rfl, C, rfl, ⟨_, SqL.of (by rw [upd_ne nT, upd_same])⟩, fun L hL => ?_⟩
        have nLT : L ≠ T := fun e => by rw [e, upd_same] at hL; cases hL
        have nLC : L ≠ C := fun e => by rw [e, upd_ne nT, upd_same] at hL; cases hL
        have hL0 : H L = none := by rw [upd_ne nLT, upd_ne nLC] at hL; exact hL
        refine lc_list (K := K) (a := C) (xs := ns.map fun z => V.int (absI z)) (fun i H' => H' = upd (upd (upd H C (.lst (ns.map fun z => V.int (absI z)))) T (.dK [])) L (.lst ((((ns.map absI).take i).filter fun c => decide (10 ^ 18 ≤ c)).map fun c => V.int (c - 10 ^ 18)))) (by simp) (fun i H' _ e => ?_) (fun i x H' hx e => ?_) fun H' e => ?_
        · subst e
          exact SqL.of (by rw [upd_ne nLC.symm, upd_ne nT, upd_same])
        · subst e
          rw [List.getElem?_map] at hx
          obtain ⟨z, ez, rfl⟩ := Option.map_eq_some_iff.mp hx
          have hi := (List.getElem?_eq_some_iff.mp ez).1
          have ez' : (ns.map absI)[i]? = some (absI z) := by rw [List.getElem?_map, ez]; rfl
          have len : ∀ j, ((((ns.map absI).take j).filter fun c => decide ((10 : Int) ^ 18 ≤ c)).map fun c => V.int (c - 10 ^ 18)).length < sizeLine := fun j => by
            rw [List.length_map]
            refine big _ (Nat.le_trans (List.length_filter_le _ _) ?_)
            rw [List.length_take, List.length_map]
            omega
          refine ⟨rfl, _, rfl, 10, 18, rfl, rfl, cpow1018, _, _, rfl, rfl, _, rfl, ?_⟩
          by_cases hc : (10 : Int) ^ 18 ≤ absI z
          · rw [show decide ((10 : Int) ^ (18 : Int).toNat ≤ absI z) = true from decide_eq_true hc]
            refine iteT ⟨_, rfl, 10, 18, rfl, rfl, cpow1018, _, _, rfl, rfl, _, upd_same, len i, ?_⟩
            rw [upd_upd, List.take_add_one, ez', List.filter_append]
            have : (Option.toList (some (absI z))).filter (fun c => decide ((10 : Int) ^ 18 ≤ c)) = [absI z] := by
              show List.filter _ [absI z] = _
              rw [List.filter_cons, decide_eq_true hc]; rfl
            rw [this, List.map_append]
            rfl
          · rw [show decide ((10 : Int) ^ (18 : Int).toNat ≤ absI z) = false from decide_eq_false hc]
            refine iteF ?_
            rw [List.take_add_one, ez', List.filter_append]
            have : (Option.toList (some (absI z))).filter (fun c => decide ((10 : Int) ^ 18 ≤ c)) = [] := by
              show List.filter _ [absI z] = _
              rw [List.filter_cons, decide_eq_false hc]; rfl
            rw [this, List.append_nil]
        · subst e
          rw [List.length_map]
          have et : (ns.map absI).take ns.length = ns.map absI := List.take_of_length_le (by rw [List.length_map]; exact Nat.le_refl _)
          rw [et]
          refine ⟨_, rfl, ?_⟩
          refine ⟨by rw [upd_ne nLT.symm, upd_same], [(.inr "large", .ref L), (.inr "cells", .ref C), (.inr "rest", .int 0), (.inr "turn", .int 0)], rfl, by show 4 ≤ 15; decide, ?_⟩
          have em : mergeK [] [(.inr "large", .ref L), (.inr "cells", .ref C), (.inr "rest", .int 0), (.inr "turn", .int 0)] = ([(.inr "large", .ref L), (.inr "cells", .ref C), (.inr "rest", .int 0), (.inr "turn", .int 0)] : List (Key × V)) := rfl
          rw [em]
          have far : ∀ b o, H b = some o → upd (upd (upd (upd H C (.lst (ns.map fun z => V.int (absI z)))) T (.dK [])) L (.lst (((ns.map absI).filter fun c => decide ((10 : Int) ^ 18 ≤ c)).map fun c => V.int (c - 10 ^ 18)))) T (.dK [(.inr "large", .ref L), (.inr "cells", .ref C), (.inr "rest", .int 0), (.inr "turn", .int 0)]) b = some o := fun b o e => by
            rw [upd_ne (ne_of_none e hT0), upd_ne (ne_of_none e hL0), upd_ne (ne_of_none e hT0), upd_ne (ne_of_none e hC)]
            exact e
          refine h1 (.ref T) [[T, L, C]] G _ ⟨T, [L, C], rfl, rfl⟩ ⟨fun b o e => far b o (r.sub b o e), rfl, fun i as o e1 e2 => ?_, ?_, fun b hb => ?_⟩ ⟨Same.refl _, fun _ z _ => z, fun b o e _ => far b o e, fun b e => ?_, [[T, L, C]], rfl, fun b hb => ?_⟩
          · match i, e1, e2 with
            | 0, e1, e2 =>
              cases e1
              cases e2
              refine ⟨upd_same, ?_, ?_⟩
              · rw [upd_ne nLT, upd_same]
                unfold begun
                rw [List.map_map]
                rfl
              · rw [upd_ne nT, upd_ne nLC.symm, upd_ne nT, upd_same]
                unfold begun
                rw [List.map_map]
                rfl
            | i + 1, e1, _ => simp at e1
          · simp
            exact ⟨⟨nLT.symm, nT.symm⟩, nLC⟩
          · simp at hb
            rcases hb with rfl | rfl | rfl
            · exact r.gfree hT0
            · exact r.gfree hL0
            · exact r.gfree hC
          · cases q : H b with
            | none => exact absurd q e
            | some o => rw [far b o q]; simp
          · simp at hb
            rcases hb with rfl | rfl | rfl
            · exact hT0
            · exact hL0
            · exact hC
    · rw [if_neg hl] at h1
      exact h1.elim
end RM

/-! RM: repr of data; an own list handed to a def; len and items of own lists. -/
namespace RM
open PySem PySem.Spec PyProof.Rows L2

def reprD : List D → M D
  | [d] => match toPy d with
    | some x => if x.showable = true ∧ x.depth ≤ 64 ∧ x.shown.length ≤ sizeLine then pure (.str x.shown) else stuck
    | none => stuck
  | _ => stuck
mutual
theorem toPy_noDict : ∀ {d : D} {x : PyData}, toPy d = some x → x.hasDict = false
  | .non, _, e => by cases e; rfl
  | .bl _, _, e => by cases e; rfl
  | .int _, _, e => by cases e; rfl
  | .str _, _, e => by cases e; rfl
  | .tup xs, _, e => by
    obtain ⟨ys, e1, e2⟩ := Option.map_eq_some_iff.mp (show (toPyL xs).map PyData.tuple = some _ from e)
    subst e2
    exact toPyL_noDict e1
  | .lst xs, _, e => by
    obtain ⟨ys, e1, e2⟩ := Option.map_eq_some_iff.mp (show (toPyL xs).map PyData.list = some _ from e)
    subst e2
    exact toPyL_noDict e1
  | .ins _ _ _, _, e => by cases e
  | .mref _, _, e => by cases e
  | .dic _ _, _, e => by cases e
  | .scr _, _, e => by cases e
theorem toPyL_noDict : ∀ {d : List D} {x : List PyData}, toPyL d = some x → PyData.hasDictAll x = false
  | [], _, e => by cases e; rfl
  | y :: ys, _, e => by
    have e' : (match toPy y, toPyL ys with
      | some y, some ys => some (y :: ys)
      | _, _ => none) = some _ := e
    cases q1 : toPy y with
    | none => rw [q1] at e'; cases e'
    | some z =>
      cases q2 : toPyL ys with
      | none => rw [q1, q2] at e'; cases e'
      | some zs =>
        rw [q1, q2] at e'
        cases e'
        show (z.hasDict || PyData.hasDictAll zs) = false
        rw [toPy_noDict q1, toPyL_noDict q2]
        rfl
end
def rRepr (K : PySem.W.Frag) : List V → Hp → VK → Prop := fun xs H Q => ∃ v d, xs = [v] ∧ Dp K H v d ∧ d.showable = true ∧ d.depth ≤ 64 ∧ d.shown.length ≤ sizeLine ∧ d.hasDict = false ∧ Q (.str d.shown) H
theorem call_repr {X : Cx} (hG : X.A.guards = some []) (hu : X.A.units + 66 < cLine) : CallR X (.builtin "repr") (rRepr X.K) := by
  intro pins s σ H xs us Q I r h
  obtain ⟨v, d, rfl, dp, h1, h2, h3, h4, q⟩ := h
  obtain ⟨u, rfl, rv⟩ := vals1 r
  obtain ⟨as, rd⟩ := Dp.reads I d v u dp rv
  have fin : ∀ {a : Addr}, Reads s.heap (.ref a) d as → wpAny (model X.prog X.w) X.A (call (.builtin "repr") [.ref a]) (EP X pins σ Q) X.xe s := fun {a} rd =>
    repr_of_reads' rd h1 (PyData.noDict_hsm h4) hG (by omega) (fun _ _ e => e) (fun h' u tk k => ⟨.str d.shown, H, I.kept k, ⟨_, rfl⟩, q⟩) h3
  cases dp with
  | non =>
    cases rv
    exact PySem.P.repr_of_none ⟨.str _, H, I.tok _, ⟨_, rfl⟩, q⟩
  | bl b =>
    cases rv
    exact PySem.P.repr_of_bool ⟨.str _, H, I.tok _, ⟨_, rfl⟩, q⟩
  | int i =>
    obtain ⟨t, rfl⟩ := rv
    exact PySem.P.repr_of_int (of_decide_eq_true h1) ⟨.str _, H, I.tok _, ⟨_, rfl⟩, q⟩
  | str x =>
    obtain ⟨t, rfl⟩ := rv
    exact PySem.P.repr_of_str ⟨.str _, H, I.tok _, ⟨_, rfl⟩, q⟩ h3
  | lst _ _ =>
    cases rv
    exact fin rd
  | tup _ _ =>
    cases rv
    exact fin rd
theorem by_repr {K : PySem.W.Frag} : ByA K (rRepr K) reprD := by
  intro ds vs p G H S W Q hd r h
  unfold reprD at h
  split at h
  · rename_i d
    obtain ⟨v, rfl, dv⟩ := denL1 hd
    cases e : toPy d with
    | none => rw [e] at h; exact h.elim
    | some x =>
      rw [e] at h
      dsimp only at h
      by_cases hz : x.showable = true ∧ x.depth ≤ 64 ∧ x.shown.length ≤ sizeLine
      · rw [if_pos hz] at h
        exact ⟨v, x, rfl, toPy_dp r.sub dv e, hz.1, hz.2.1, hz.2.2, toPy_noDict e, okR.fin (v := V.str _) h rfl r⟩
      · rw [if_neg hz] at h
        exact h.elim
  · exact h.elim
section
variable {X : Cx} {W : WX} {a b : Expr} {es : List Expr} {ma mb : DSt → M D} {ms : DSt → M (List D)} {pos p p1 p2 : Pos} {x : Str}
theorem de_repr (hG : X.A.guards = some []) (hu : X.A.units + 66 < cLine) (hg : Gl X "repr") (hm : X.mg "repr" = none) (ha : DA X W [a] ms) (he : starEach [a] X.env = [(false, eval a X.env)] := by rfl) : DE X W (.Call (.Name "repr" p) [a] [] pos) (fun t => do let xs ← ms t; reprD xs) :=
  de_callB (call_repr hG hu) by_repr hg hm (by decide +kernel) ha (by decide) (by decide) he rfl
/-! ### len(x), x[e] where x is an own list -/
theorem own_in {K : PySem.W.Frag} {p : List (List Addr)} {G H : Hp} {S : Sto} {t : DSt} {σ : L2.St} {ow : List Addr} {i : Nat} (r : RelS K p G S H t σ ow) {β : Type} {f : List D → M β} {Z : Res β → Prop} (hZ : ¬ Z .stuck) (h : Z ((do let xs ← getO t i; f xs : M β) S)) :
    ∃ xs a vs, t[i]? = some (some (.own xs)) ∧ σ[i]? = some (some (.ref a)) ∧ a ∈ ow ∧ H a = some (.lst vs) ∧ DenL K p G xs vs ∧ Z (f xs S) := by
  rcases getO_of t i with ⟨xs, e, q⟩ | q
  · rw [q] at h
    obtain ⟨a, vs, e1, e2, e3, e4⟩ := r.sl.getO e
    exact ⟨xs, a, vs, e, e1, e2, e3, e4, h⟩
  · rw [q] at h
    exact absurd h hZ
theorem de_lenO (i : Nat) (hg : Gl X "len") (hm : X.mg "len" = none) (hN : X.N[i]? = some x := by rfl) (hv : Vis X.env.scope x := by first | exact Or.inl rfl | exact Or.inr (Or.inl rfl) | exact Or.inr (Or.inr rfl)) (hd : (x == ("__debug__" : Str)) = false := by decide)
    (hcd : (x == ("__classdict__" : Str)) = false := by decide) (he : starEach [.Name x p1] X.env = [(false, eval (.Name x p1) X.env)] := by rfl) : DE X W (.Call (.Name "len" p2) [.Name x p1] [] pos) (fun t => do let xs ← getO t i; pure (.int xs.length)) := by
  refine PE.imp (pe_callB call_len hg hm boot_len (pa_cons (pe_var hN hv hd hcd) pa_nil he) (by decide) (by decide) he rfl) fun σ H Q ⟨t, p, G, S, ow, r, h⟩ => ?_
  obtain ⟨xs, l, vs, e1, e2, e3, e4, e5, h⟩ := own_in (Z := fun z => okR (Den X.K) X.K p G H (fun c d H' => W c d σ H') z Q) r (fun z => z) h
  refine ⟨_, e2, V.ref l, vs.length, rfl, (Or.inl ⟨_, SqL.of e4, rfl⟩ : LenV X.K (.ref l) H vs.length), ?_⟩
  rw [e5.length]
  exact okR.fin (v := V.int _) h rfl r.rel
theorem de_idxO (i : Nat) (hb : DE X W b mb) (hs : PlainIx b) (hN : X.N[i]? = some x := by rfl) (hv : Vis X.env.scope x := by first | exact Or.inl rfl | exact Or.inr (Or.inl rfl) | exact Or.inr (Or.inr rfl)) (hd : (x == ("__debug__" : Str)) = false := by decide)
    (hcd : (x == ("__classdict__" : Str)) = false := by decide) : DE X W (.Subscript (.Name x p1) b pos) (fun t => do let xs ← getO t i; let y ← mb t; idxD (.lst xs) y) := by
  refine PE.imp (pe_ix ix_list (pe_var hN hv hd hcd) hb hs) fun σ H Q ⟨t, p, G, S, ow, r, h⟩ => ?_
  obtain ⟨xs, l, vs, e1, e2, e3, e4, e5, h⟩ := own_in (Z := fun z => okR (Den X.K) X.K p G H (fun c d H' => W c d σ H') z Q) r (fun z => z) h
  refine ⟨_, e2, tD.next r (Ext.refl _ _ _) r.rel (okR.seq h fun y S1 yv p1 G1 H1 ey dy r1 x1 h1 => ?_)⟩
  have h1' : H1 l = some (.lst vs) := x1.h l _ e4 fun z => (List.nodup_append.mp r.nd).2.2 l z l e3 rfl
  cases y <;> try exact h1.elim
  rename_i k
  unfold idxD at h1
  dsimp only at h1
  cases q : atI xs k with
  | none => rw [q] at h1; exact h1.elim
  | some d =>
    rw [q] at h1
    obtain ⟨w, f1, f2⟩ := atI_den (e5.mono x1.pp x1.g) q
    exact ⟨l, vs, k, w, rfl, dy, SqL.of h1', f1, okR.fin h1 f2 r1⟩
end
/-! ### f(e, x): x an own list, the answer flat -/
def isTape : MO → Bool
  | .tape _ => true
  | _ => false
def flatOnly (d : D) : M D := fun S => if flatD d = true ∧ S.all isTape = true then .ok d S else .stuck
theorem MoAt.any {K : PySem.W.Frag} {p p' : List (List Addr)} {G G' H : Hp} : ∀ {as : List Addr} {o : MO}, MoAt K p G H as o → isTape o = true → MoAt K p' G' H as o
  | [_, _, _], .tape _, h, _ => h
  | [_], .inst _ _ _, _, e => by cases e
theorem flat_any {K : PySem.W.Frag} {p q : List (List Addr)} {G G' : Hp} {d : D} {v : V} (h : Den K p G d v) (f : flatD d = true) : Den K q G' d v := by
  cases d <;> first | exact h | cases f
section
variable {X : Cx} {W : WX} {a : Expr} {ma : DSt → M D} {pos p1 pp : Pos} {k : Nat} {f : Addr} {fd : FuncData} {ps : List Str} {g : List D → M D} {x y : Str}
theorem de_callO (i : Nat) (F : FnD X.prog X.w X.K X.mg X.base k f fd ps g) (hps : ps.length = 2) (hr : Room k X.A) (hG : X.A.guards = some []) (tk : Takes X W) (hg : Gl X y) (hm : X.mg y = some (.ref f)) (hk : PySem.W.keepIn X.K (.ref f) = true) (hb : Binds X.K fd ps [])
    (ha : DE X W a ma) (hN : X.N[i]? = some x := by rfl) (hv : Vis X.env.scope x := by first | exact Or.inl rfl | exact Or.inr (Or.inl rfl) | exact Or.inr (Or.inr rfl)) (hd : (x == ("__debug__" : Str)) = false := by decide) (hcd : (x == ("__classdict__" : Str)) = false := by decide)
    (hdb : (y == ("__debug__" : Str)) = false := by decide) (he : starEach [a, .Name x p1] X.env = (false, eval a X.env) :: starEach [.Name x p1] X.env := by rfl) (he2 : starEach [.Name x p1] X.env = [(false, eval (.Name x p1) X.env)] := by rfl) (hpl : (backTo pos (starEach [.Name x p1] X.env)).any (·.1) = false := by rfl) :
    DE X W (.Call (.Name y pp) [a, .Name x p1] [] pos) (fun t => do let d ← ma t; let xs ← getO t i; let v ← noE (g [d, .lst xs]); flatOnly v) := by
  refine ⟨fun pins s σ H Q I ⟨t, q, G, S, ow, r, h⟩ => ?_⟩
  refine wpAny_Call_Name_kw (ld_glob I hg hm (PySem.W.callWith_K (h₀ := X.base) I.ok.mod.kin hk ?_ he hpl) hdb)
  refine thn ((pa_cons ha (pa_cons (pe_var hN hv hd hcd) pa_nil he2) he).run pos pins s σ H (fun vs H1 => spD X.K ps.length g (vs ++ []) H1 Q fun c d H' => W c d σ H') I ⟨t, q, G, S, ow, r, okR.seq h fun d S1 v q1 G1 H1 e1 dn r1 x1 h1 => ?_⟩) fun us s1 ⟨vs, H1, I1, rv, q1⟩ => ⟨I1.kIn, ?_⟩
  · have rs1 := r.ext x1 r1
    obtain ⟨xs, l, ws, f1, f2, f3, f4, f5, h1⟩ := own_in (Z := fun z => okR (Den X.K) X.K q1 G1 H1 (fun c d H' => W c d σ H') z Q) rs1 (fun z => z) h1
    refine ⟨_, f2, ?_⟩
    show spD X.K ps.length g [v, V.ref l] H1 Q fun c d H' => W c d σ H'
    have gl := rs1.gn l f3
    have pl : l ∉ q1.flatten := fun z => (List.nodup_append.mp rs1.nd).2.2 l z l f3 rfl
    have sm : Same G1 (upd G1 l (.lst ws)) := Same.upd_of gl
    refine ⟨[d, .lst xs], q1, upd G1 l (.lst ws), S1, hps.symm, DenL.cons (dn.upd gl) (DenL.one ⟨l, ws, rfl, upd_same, f5.upd gl⟩), ⟨fun b o z => ?_, r1.len, fun j as o z1 z2 => (r1.mo j as o z1 z2).ice sm, r1.nd, fun b hb => ?_⟩, ?_⟩
    · by_cases w : b = l
      · subst w; rw [upd_same] at z; cases z; exact f4
      · rw [upd_ne w] at z; exact r1.sub b o z
    · rw [upd_ne (by rintro rfl; exact pl hb)]; exact r1.gn b hb
    · have h2 : okR (Den X.K) X.K q1 G1 H1 (fun c d H' => W c d σ H') ((noE (g [d, .lst xs]) S1).andThen flatOnly) Q := h1
      unfold noE at h2
      cases eg : g [d, .lst xs] S1 with
      | stuck => rw [eg] at h2; exact h2.elim
      | exc z S2 => rw [eg] at h2; exact h2.elim
      | ok w S2 =>
        rw [eg] at h2
        have h3 : okR (Den X.K) X.K q1 G1 H1 (fun c d H' => W c d σ H') (flatOnly w S2) Q := h2
        unfold flatOnly at h3
        by_cases hf : flatD w = true ∧ S2.all isTape = true
        · rw [if_pos hf] at h3
          intro v2 p2 G2 H2 dv r2 x2
          obtain ⟨rr, ep, fr⟩ := x2.p
          refine h3 v2 p2 G1 H2 (flat_any dv hf.1) ⟨fun b o z => x2.h b o (r1.sub b o z) (fun w => by rw [r1.gn b w] at z; cases z), r2.len, fun j as o z1 z2 => (r2.mo j as o z1 z2).any (List.all_eq_true.mp hf.2 o (List.mem_of_getElem? z2)), r2.nd, fun b hb => ?_⟩ ⟨Same.refl _, fun _ z _ => z, x2.h, x2.d, x2.p⟩
          rw [ep, List.flatten_append, List.mem_append] at hb
          rcases hb with z | z
          · exact r1.gn b z
          · exact r1.gfree (fr b z)
        · rw [if_neg hf] at h3
          exact h3.elim
  · exact call_G F hr hG tk I1 (hb s1 us I1.kIn (by rw [List.append_nil, ← rv.length]; simpa using F.arity _ _ _ _ q1)) (rv.append .nil) q1
end
end RM

/-! RM: tuple targets, chains of comparisons, dict displays. -/
namespace RM
open PySem PySem.Spec PyProof.Rows L2
section
variable {X : Cx} {W : Wf} {e tg : Expr} {pos : Pos} {ma mb mc : DSt → M D}
/-- target = e, the target names or a tuple of names -/
theorem ds_asg (T : Tgt) (he : DE X W.x e ma) (hg : PG X tg (T.tg X.K)) (hs : swapsWithSole [tg] e pos.line X.env = pure false := by rfl) (hw : swappedStores [tg] e X.env = pure none := by rfl) (h1 : (assignEach [tg] X.env).map (·.2) = [assign tg X.env] := by rfl) :
    DS X W (.Assign [tg] e pos) (fun t => do let d ← ma t; let t' ← liftO (T.set d t); pure (.nx t')) := by
  refine PS.imp (ps_asg he (dg_tgt (W := W) hg) hs hw h1) fun E σ H ⟨n, t, p, G, S, ow, r, h⟩ => ?_
  refine ⟨t, p, G, S, ow, r.rs, okS.seq h r fun d S1 v p1 G1 H1 e1 dn r1 x1 h1 => ?_⟩
  cases eg : T.set d t with
  | none =>
    rw [eg] at h1
    exact h1.elim
  | some t' =>
    rw [eg] at h1
    exact ⟨n, d, t, p1, G1, S1, ow, r1, dn, t', eg, fun p' G' H' σ' ow' r' => h1 p' G' H' σ' ow' r'⟩
theorem setVs_ok {K : PySem.W.Frag} {n : Snap} {p : List (List Addr)} {G H : Hp} {S : Sto} : ∀ {is : List Nat} {t t' : DSt} {σ : L2.St} {ow : List Addr} {ds : List D} {vs : List V}, RelF K n p G S H t σ ow → DenL K p G ds vs → setVs t is ds = some t' →
    ∃ ow', RelF K n p G S H t' ((is.zip vs).foldl (fun s q => s.set q.1 (some q.2)) σ) ow'
  | [], t, t', σ, ow, ds, vs, r, dn, e => by
    cases ds with
    | nil =>
      cases e
      exact ⟨ow, r⟩
    | cons => cases e
  | i :: is, t, t', σ, ow, [], vs, r, dn, e => by cases e
  | i :: is, t, t', σ, ow, d :: ds, _, r, ⟨v, vs, rfl, dv, dn⟩, e => by
    unfold setVs setV at e
    by_cases hi : i < t.length
    · rw [if_pos hi] at e
      obtain ⟨ow', r'⟩ := r.set0 hi (s := some (.val d)) (v := some v) ⟨rfl, v, rfl, dv⟩
      exact setVs_ok (is := is) r' dn (show setVs (t.set i (some (.val d))) is ds = some t' from e)
    · rw [if_neg hi] at e
      cases e
theorem setVs_length : ∀ {is : List Nat} {t t' : DSt} {ds : List D}, setVs t is ds = some t' → ds.length = is.length
  | [], _, _, [], _ => rfl
  | [], _, _, _ :: _, e => by cases e
  | _ :: _, _, _, [], e => by cases e
  | i :: is, t, t', d :: ds, e => by
    unfold setVs at e
    cases h : setV t i d with
    | none => rw [h] at e; cases e
    | some t2 =>
      rw [h] at e
      rw [List.length_cons, List.length_cons, setVs_length (show setVs t2 is ds = some t' from e)]
theorem len2 {α : Type} {l : List α} (h : l.length = 2) : ∃ a b, l = [a, b] := by
  match l, h with
  | [a, b], _ => exact ⟨a, b, rfl⟩
theorem len3 {α : Type} {l : List α} (h : l.length = 3) : ∃ a b c, l = [a, b, c] := by
  match l, h with
  | [a, b, c], _ => exact ⟨a, b, c, rfl⟩
/-- a, b = e, f -/
theorem ds_par2 (i j : Nat) {x y : Str} {a b : Expr} {ms : DSt → M (List D)} {px py pt : Pos} {kt k2 pt2} (hc : X.calm = true) (hN : X.N.Nodup) (hi : X.N[i]? = some x) (hj : X.N[j]? = some y) (hij : i ≠ j) (hx : X.env.scope.names.lookup x = some .local) (hy : X.env.scope.names.lookup y = some .local) (ha : DA X W.x [a, b] ms)
    (hw : swappedStores [.Tuple [.Name x px, .Name y py] kt pt] (.Tuple [a, b] k2 pt2) X.env = pure (some [x, y]) := by rfl) (hs : swapsWithSole [.Tuple [.Name x px, .Name y py] kt pt] (.Tuple [a, b] k2 pt2) pos.line X.env = pure false := by rfl) :
    DS X W (.Assign [.Tuple [.Name x px, .Name y py] kt pt] (.Tuple [a, b] k2 pt2) pos) (fun t => do let xs ← ms t; let t' ← liftO (setVs t [i, j] xs); pure (.nx t')) := by
  refine PS.imp (ps_par hc hN hi hj hij hx hy ha hw hs) fun E σ H ⟨n, t, p, G, S, ow, r, h⟩ => ?_
  refine ⟨t, p, G, S, ow, r.rs, okS.seq h r fun d S1 v p1 G1 H1 e1 dn r1 x1 h1 => ?_⟩
  cases eg : setVs t [i, j] d with
  | none =>
    rw [eg] at h1
    exact h1.elim
  | some t' =>
    rw [eg] at h1
    obtain ⟨ow', r'⟩ := setVs_ok r1 dn eg
    obtain ⟨d1, d2, rfl⟩ := len2 (setVs_length eg)
    obtain ⟨v1, w1, rfl, _, dn⟩ := dn
    obtain ⟨v2, w2, rfl, _, dn⟩ := dn
    cases (show w2 = [] from dn)
    exact ⟨v1, v2, rfl, h1 p1 G1 H1 _ ow' r'⟩
/-- a, b, c = e, f, g -/
theorem ds_par3 (i j l : Nat) {x y z : Str} {a b c : Expr} {ms : DSt → M (List D)} {px py pz pt : Pos} {kt k2 pt2} (hc : X.calm = true) (hN : X.N.Nodup) (hi : X.N[i]? = some x) (hj : X.N[j]? = some y) (hl : X.N[l]? = some z) (hij : i ≠ j) (hil : i ≠ l) (hjl : j ≠ l) (hx : X.env.scope.names.lookup x = some .local) (hy : X.env.scope.names.lookup y = some .local) (hz : X.env.scope.names.lookup z = some .local) (ha : DA X W.x [a, b, c] ms)
    (hw : swappedStores [.Tuple [.Name x px, .Name y py, .Name z pz] kt pt] (.Tuple [a, b, c] k2 pt2) X.env = pure (some [x, y, z]) := by rfl) (hs : swapsWithSole [.Tuple [.Name x px, .Name y py, .Name z pz] kt pt] (.Tuple [a, b, c] k2 pt2) pos.line X.env = pure false := by rfl) :
    DS X W (.Assign [.Tuple [.Name x px, .Name y py, .Name z pz] kt pt] (.Tuple [a, b, c] k2 pt2) pos) (fun t => do let xs ← ms t; let t' ← liftO (setVs t [i, j, l] xs); pure (.nx t')) := by
  refine PS.imp (ps_par3 hc hN hi hj hl hij hil hjl hx hy hz ha hw hs) fun E σ H ⟨n, t, p, G, S, ow, r, h⟩ => ?_
  refine ⟨t, p, G, S, ow, r.rs, okS.seq h r fun d S1 v p1 G1 H1 e1 dn r1 x1 h1 => ?_⟩
  cases eg : setVs t [i, j, l] d with
  | none =>
    rw [eg] at h1
    exact h1.elim
  | some t' =>
    rw [eg] at h1
    obtain ⟨ow', r'⟩ := setVs_ok r1 dn eg
    obtain ⟨d1, d2, d3, rfl⟩ := len3 (setVs_length eg)
    obtain ⟨v1, w1, rfl, _, dn⟩ := dn
    obtain ⟨v2, w2, rfl, _, dn⟩ := dn
    obtain ⟨v3, w3, rfl, _, dn⟩ := dn
    cases (show w3 = [] from dn)
    exact ⟨v1, v2, v3, rfl, h1 p1 G1 H1 _ ow' r'⟩
end
section
variable {X : Cx} {W : WX} {a b c : Expr} {pos : Pos} {ma mb mc : DSt → M D} {op op' : CmpOp} {r r' : R2} {f f' : D → D → M D}
/-- a op b op' c -/
abbrev mChain (f f' : D → D → M D) (ma mb mc : DSt → M D) : DSt → M D := fun t => do let x ← ma t; let y ← mb t; let z ← f x y; if ← asB z then (do let w ← mc t; f' y w) else pure (.bl false)
theorem tChain_ok {K : PySem.W.Frag} (hb : By2 K r f) (hb' : By2 K r' f') {σ : L2.St} {H : Hp} {Q : VK} (h : tD K W (mChain f f' ma mb mc) σ H Q) : tChain r r' (tD K W ma) (tD K W mb) (tD K W mc) σ H Q := by
  obtain ⟨t, p, G, S, ow, rs, h⟩ := h
  refine ⟨t, p, G, S, ow, rs, okR.seq h fun d S1 v p1 G1 H1 e1 dn r1 x1 h1 => ?_⟩
  refine tD.next rs x1 r1 (okR.seq h1 fun d2 S2 v2 p2 G2 H2 e2 dn2 r2 x2 h2 => ?_)
  refine hb d d2 v v2 p2 G2 H2 S2 _ _ (dn.mono x2.pp x2.g) dn2 r2 (okR.seq h2 fun d3 S3 v3 p3 G3 H3 e3 dn3 r3 x3 h3 => ?_)
  cases d3 with
  | bl k =>
    cases (show v3 = V.bl k from dn3)
    refine ⟨k, rfl, ?_⟩
    cases k with
    | true =>
      rw [if_pos rfl]
      refine tD.next rs ((x1.trans x2).trans x3) r3 (okR.seq (show okR (Den K) K p3 G3 H3 _ ((do let w ← mc t; f' d2 w : M D) S3) Q from h3) fun d4 S4 v4 p4 G4 H4 e4 dn4 r4 x4 h4 => ?_)
      exact hb' d2 d4 v2 v4 p4 G4 H4 S4 _ Q (dn2.mono (x3.trans x4).pp (x3.trans x4).g) dn4 r4 h4
    | false =>
      rw [if_neg (by decide)]
      exact okR.fin (d := D.bl false) h3 rfl r3
  | _ => exact (h3 : False).elim
theorem de_chain (ho : OpR X (compareOp op) r) (ho' : OpR X (compareOp op') r') (hb : By2 X.K r f) (hb' : By2 X.K r' f') (h1 : DE X W a ma) (h2 : DE X W b mb) (h3 : DE X W c mc) (hm : lastMarks [op, op'] [b, c] = false := by with_unfolding_all rfl) :
    DE X W (.Compare a [op, op'] [b, c] pos) (mChain f f' ma mb mc) := PE.imp (pe_chain ho ho' h1 h2 h3 hm) fun _ _ _ h => tChain_ok hb hb' h
theorem dt_chain (ho : OpR X (compareOp op) r) (ho' : OpR X (compareOp op') r') (hb : By2 X.K r f) (hb' : By2 X.K r' f') (h1 : DE X W a ma) (h2 : DE X W b mb) (h3 : DE X W c mc) (hm : lastMarks [op, op'] [b, c] = false := by with_unfolding_all rfl) :
    DT X W (.Compare a [op, op'] [b, c] pos) (fun t => do let x ← mChain f f' ma mb mc t; asB x) := by
  refine PT.imp (pt_chain ho ho' h1 h2 h3 hm) fun σ H Q ⟨t, p, G, S, ow, rs, h⟩ => ?_
  refine tChain_ok hb hb' ⟨t, p, G, S, ow, rs, okR.seq h fun d S1 v p1 G1 H1 e1 dn r1 x1 h1 => ?_⟩
  cases d with
  | bl k => exact ⟨k, dn, okR.fin (d := k) h1 rfl r1⟩
  | _ => exact (h1 : False).elim
end
/-! ### dict displays -/
section
variable {X : Cx} {W : WX} {pos : Pos}
def dicD (ks : List Key) (xs : List D) : M D := if ks.Nodup ∧ ks.length ≤ 15 ∧ xs.length = ks.length then pure (.dic ks xs) else stuck
theorem mergeK_nodup : ∀ {ks : List Key} {vs : List V} {acc : List (Key × V)}, ks.Nodup → (∀ k ∈ ks, valV acc k = none) → mergeK acc (ks.zip vs) = acc ++ ks.zip vs
  | [], vs, acc, _, _ => by simp [mergeK]
  | k :: ks, [], acc, _, _ => by simp [mergeK]
  | k :: ks, v :: vs, acc, nd, h => by
    have nd' := List.nodup_cons.mp nd
    show mergeK (putK acc k v) (ks.zip vs) = _
    rw [putK_new v (h k (by simp)), mergeK_nodup nd'.2 fun z hz => ?_]
    · simp
    · have h1 := h z (by simp [hz])
      have ne : k ≠ z := by rintro rfl; exact nd'.1 hz
      unfold valV at h1 ⊢
      rw [List.find?_append]
      cases q : List.find? (fun kv => decide (kv.1 = z)) acc with
      | none => simp [List.find?_cons, ne]
      | some y => rw [q] at h1; simp at h1
theorem frozen_at {K : PySem.W.Frag} {p p' : List (List Addr)} {G H G' H' : Hp} {S' : Sto} {a : Addr} (o : HO) (x : Ext p G H p' G' H') (r : Rel0 K p' S' G' H') (h0 : H a = none) (h3 : G' a = none) (h4 : a ∉ p'.flatten) : Rel0 K p' S' (upd G' a o) (upd H' a o) ∧ Ext p G H p' (upd G' a o) (upd H' a o) := by
  refine ⟨⟨fun b u e => ?_, r.len, fun i as u e1 e2 => (r.mo i as u e1 e2).mono ⟨[], by simp⟩ (Same.upd_of h3) fun b hb => ?_, r.nd, fun b hb => ?_⟩, ⟨x.g.trans (Same.upd_of h3), fun b hb1 hb2 => ?_, fun b u hb1 hb2 => ?_, fun b hb => ?_, x.p⟩⟩
  · by_cases q : b = a
    · subst q; rw [upd_same] at e ⊢; exact e
    · rw [upd_ne q] at e ⊢; exact r.sub b u e
  · have : b ≠ a := by
      rintro rfl
      exact h4 (List.mem_flatten.mpr ⟨as, List.mem_of_getElem? e1, hb⟩)
    exact upd_ne this
  · have : b ≠ a := by rintro rfl; exact h4 hb
    rw [upd_ne this]; exact r.gn b hb
  · have : b ≠ a := by rintro rfl; exact hb2 h0
    rw [upd_ne this]; exact x.gn b hb1 hb2
  · have : b ≠ a := by rintro rfl; rw [h0] at hb1; cases hb1
    rw [upd_ne this]; exact x.h b u hb1 hb2
  · by_cases q : b = a
    · subst q; rw [upd_same]; simp
    · rw [upd_ne q]; exact x.d b hb
structure DP (X : Cx) (W : WX) (pos : Pos) (keys : List (Option Expr)) (values : List Expr) (ks : List Key) (m : DSt → M (List D)) : Prop where
  ex : ∃ trs, PPs X pos keys values trs ∧ ∀ σ H Q, (tDA X.K W m) σ H (fun vs H' => vs.length = ks.length → Q ((ks.zip vs).map fun kv => (kV kv.1, kv.2)) H') → tPairs trs σ H Q
  len : ∀ t S xs S', m t S = .ok xs S' → xs.length = ks.length
theorem dp_nil : DP X W pos [] [] [] (fun _ => pure []) := ⟨⟨[], pps_nil, fun σ H Q ⟨t, p, G, S, ow, r, h⟩ => okR.fin (d := []) h DenL.nil r.rel rfl⟩, fun t S xs S' e => by cases e; rfl⟩
theorem dp_cons {ke ve : Expr} {keys : List (Option Expr)} {values : List Expr} {k : Key} {ks : List Key} {mv : DSt → M D} {m : DSt → M (List D)} (hk : PE X ke (tC (kV k))) (hv : DE X W ve mv) (hr : DP X W pos keys values ks m) :
    DP X W pos (some ke :: keys) (ve :: values) (k :: ks) (fun t => do let x ← mv t; let xs ← m t; pure (x :: xs)) := by
  obtain ⟨⟨trs, h1, h2⟩, hl⟩ := hr
  refine ⟨⟨_, pps_cons hk hv h1, fun σ H Q ⟨t, p, G, S, ow, r, h⟩ => ?_⟩, fun t S xs S' e => ?_⟩
  · refine ⟨t, p, G, S, ow, r, okR.seq h fun d S1 v p1 G1 H1 e1 dn r1 x1 h1 => ?_⟩
    refine h2 _ _ _ (tDA.next r x1 r1 (okR.seq h1 fun d2 S2 v2 p2 G2 H2 e2 dn2 r2 x2 h3 => ?_))
    intro hz
    exact okR.fin (d := d :: d2) h3 (DenL.cons (dn.mono x2.pp x2.g) dn2) r2 (by rw [List.length_cons, List.length_cons, hz])
  · have e' : ((mv t S).andThen fun x => (do let xs ← m t; pure (x :: xs) : M (List D))) = .ok xs S' := e
    cases q : mv t S with
    | ok x S1 =>
      rw [q] at e'
      have e2 : ((m t S1).andThen fun xs => (pure (x :: xs) : M (List D))) = .ok xs S' := e'
      cases q2 : m t S1 with
      | ok ys S2 =>
        rw [q2] at e2
        cases e2
        rw [List.length_cons, List.length_cons, hl _ _ _ _ q2]
      | exc z S2 => rw [q2] at e2; cases e2
      | stuck => rw [q2] at e2; cases e2
    | exc z S1 => rw [q] at e'; cases e'
    | stuck => rw [q] at e'; cases e'
theorem de_dict {keys : List (Option Expr)} {values : List Expr} {ks : List Key} {m : DSt → M (List D)} (h : DP X W pos keys values ks m) (hall : keys.all (·.isSome) = true := by rfl) (hl : keys.length = values.length := by rfl) (h0 : keys ≠ [] := by intro h; cases h) (h15 : keys.length ≤ 15 := by decide) :
    DE X W (.Dict keys values pos) (fun t => do let xs ← m t; dicD ks xs) := by
  obtain ⟨⟨trs, h1, h2⟩, hlen⟩ := h
  refine PE.imp (pe_disp h1 hall hl h0 h15) fun σ H Q ⟨t, p, G, S, ow, r, h⟩ a ha => ?_
  have ga := r.rel.gfree ha
  have pa : a ∉ p.flatten := fun z => r.rel.dom z ha
  have aow : a ∉ ow := fun z => r.sl.dom a z ha
  have x0 : Ext p G H p G (upd H a (.dK [])) := ⟨Same.refl _, fun _ h _ => h, fun b o e _ => by rw [upd_ne (ne_of_none e ha)]; exact e, fun b hb => by
    by_cases q : b = a
    · subst q; rw [upd_same]; simp
    · rw [upd_ne q]; exact hb, [], by simp, by simp⟩
  have r0 := r.rel.own (.dK []) pa ga
  have rs0 := r.ext x0 r0
  refine h2 _ _ _ ⟨t, p, G, S, ow, rs0, ?_⟩
  have h' : okR (Den X.K) X.K p G H (fun c d H' => W c d σ H') ((m t S).andThen (dicD ks)) Q := h
  cases e : m t S with
  | stuck =>
    rw [e] at h'
    exact h'
  | exc z S1 =>
    rw [e] at h'
    exact fun cls dd p' G' H' y1 y2 y3 => h' cls dd p' G' H' y1 y2 (x0.trans y3)
  | ok xs S1 =>
    rw [e] at h'
    intro vs p' G' H' dn r' x' hvl
    have hH : H' a = some (.dK []) := x'.h a _ upd_same pa
    have hG : G' a = none := x'.gn a ga (by rw [upd_same]; simp)
    obtain ⟨q, eq, fq⟩ := x'.p
    have hp : a ∉ p'.flatten := by
      rw [eq, List.flatten_append, List.mem_append]
      rintro (z | z)
      · exact pa z
      · have := fq a z
        rw [upd_same] at this
        cases this
    have h3 : okR (Den X.K) X.K p G H (fun c d H' => W c d σ H') (dicD ks xs S1) Q := h'
    unfold dicD at h3
    split at h3
    · rename_i cond
      have zz := List.length_zip (l₁ := ks) (l₂ := vs)
      refine ⟨hH, ks.zip vs, rfl, by omega, ?_⟩
      rw [mergeK_nodup cond.1 (fun _ _ => rfl), List.nil_append]
      obtain ⟨R1, R2⟩ := frozen_at (.dK (ks.zip vs)) (x0.trans x') r' ha hG hp
      exact h3 (.ref a) p' _ _ ⟨a, vs, rfl, upd_same, hvl, dn.upd hG⟩ R1 R2
    · exact (h3 : False).elim
theorem de_dict0 : DE X W (.Dict [] [] pos) (fun _ => pure (.dic [] [])) := by
  refine PE.imp pe_dnewK fun σ H Q ⟨t, p, G, S, ow, r, h⟩ a ha => ?_
  obtain ⟨R1, R2⟩ := r.rel.new (.dK []) ha
  exact h (.ref a) p _ _ ⟨a, [], rfl, upd_same, rfl, rfl⟩ R1 R2
end
end RM

/-! RM: the end of a law, the head's facts. -/
namespace RM
open PySem PySem.Spec PyProof.Rows L2

/-- the law's call, by its promise over data -/
theorem law_G {P : Program} {w : World} {K : PySem.W.Frag} {mg mb : Str → Option Value} {k : Nat} {fa a : Addr} {fd : FuncData} {x : Str} {g : List D → M D} {s : Shared} {us : List Value} {ns : List Int} {S' : Sto}
    (kin : K.In s.heap) (gl : s.heap.Ns mainGlobals mg) (bl : s.heap.Ns builtinsNs mb) (bb : ∀ x : Str, x ≠ "__name__" → mb x = bootBuiltins x) (lim : s.heap.NoLimit) (gens : s.gens = #[])
    (ha : s.heap.get? a = some { cls := .type "list", data := .seq us.toArray }) (hi : IntsAre us ns) (hl : ns.length ≤ sizeLine) (hr : Room k callerA)
    (F : ∀ base : Heap, K.In base → base.Ns mainGlobals mg → FnD P w K mg base k fa fd [x] g) (bd : ∀ (s : Shared) (u : Value), BindsTo s fd ⟨[u], []⟩ [(x, u)]) (hm : g [.scr ns] [] = .ok (.bl true) S') :
    codeAny (model P w) callerA (.call (.ref fa) ⟨[.ref a], []⟩) (fun r s' => r = .ok (.ret (.bool true)) ∧ OldK s.heap s'.heap ∧ s'.os = s.os ∧ AllBare s'.gens) s := by
  have rv := vals_ints hi
  -- only the script may be tracked; its place
  have main : ∀ H : Hp, (∀ b o, H b = some o → b = a ∧ o = .frz { cls := .type "list", data := .seq us.toArray } (.lst (ns.map V.int))) → SqL K H a (ns.map V.int) → (H a ≠ none → K.lookup a = none) →
      codeAny (model P w) callerA (.call (.ref fa) ⟨[.ref a], []⟩) (fun r s' => r = .ok (.ret (.bool true)) ∧ OldK s.heap s'.heap ∧ s'.os = s.os ∧ AllBare s'.gens) s := by
    intro H only seq far
    have hok : HOk P w H s.heap := fun b o e => by
      obtain ⟨rfl, rfl⟩ := only b o e
      exact ⟨ha, by rw [List.length_map]; exact hl, us, _, rv, ha⟩
    have free : ∀ {b : Addr} {o : Obj}, s.heap.get? b = some o → (∀ es ep, o.data = .dict es ep → H b = none) := fun {b o} e es ep d => by
      cases q : H b with
      | none => rfl
      | some u =>
        obtain ⟨rfl, _⟩ := only b u q
        rw [ha] at e
        cases e
        cases d
    have nsK : ∀ {b : Addr} {m : Str → Option Value}, s.heap.Ns b m → (hidT s.heap H).Ns b m := fun {b m} h => by
      obtain ⟨o, es, ep, e, d, rest⟩ := h
      exact ⟨o, es, ep, hidT_get e (free e es ep d), d, rest⟩
    have kb : K.In (hidT s.heap H) := fun b o e => by
      refine hidT_get (kin b o e) ?_
      cases q : H b with
      | none => rfl
      | some u =>
        obtain ⟨rfl, _⟩ := only b u q
        rw [far (by rw [q]; simp)] at e
        cases e
    obtain ⟨mc, l1, l2⟩ := lim
    have hM : Mod K mg (hidT s.heap H) := ⟨kb, nsK gl, ⟨mb, nsK bl, bb⟩, ⟨mc, nsK l1, l2⟩⟩
    have e0 : Env0 P w K mg (hidT s.heap H) callerA [] s H := ⟨rfl, hM, fun b o e => of_hidT e, Nat.le_of_eq (hidT_size _ _), trivial, (fun b hb => nomatch (show b ∈ ([] : List Addr) from hb)), hok, AllBare.of_eq gens⟩
    have want : spD K 1 g [.ref a] H (fun v _ => v = .bl true) fun _ _ _ => False := by
      refine ⟨[.scr ns], [], H, [], rfl, DenL.one ⟨a, rfl, seq⟩, ⟨Same.refl _, rfl, fun i as o e1 _ => by simp at e1, by simp, by simp⟩, ?_⟩
      rw [hm]
      exact fun v p' G' H' dv _ _ => dv
    refine codeAny_mono ((F _ kb (nsK gl)).go callerA [] s H ⟨[.ref a], []⟩ [.ref a] [.ref a] _ _ rfl hr e0 (bd s (.ref a)) (.cons rfl .nil) want) fun r s2 q => ?_
    match r, q with
    | .error e, q =>
      obtain ⟨_, _, _, _, _, _, _, _, _, _, _, _, z⟩ := q
      exact z.elim
    | .ok .next, q => exact False.elim q
    | .ok .brk, q => exact False.elim q
    | .ok .cont, q => exact False.elim q
    | .ok (.ret u), ⟨v, H', os, bare, un, hok', r', q⟩ =>
      have q' : v = .bl true := q
      subst q'
      cases (show u = Value.bool true from r')
      refine ⟨rfl, OldK.of_keep fun b o e => ?_, os, bare⟩
      cases q : H b with
      | none => exact un.keep b o e q (fun z => nomatch (show b ∈ ([] : List Addr) from z)) (by simp)
      | some z =>
        obtain ⟨rfl, rfl⟩ := only b z q
        obtain ⟨e2, _⟩ := hok' b _ (un.frzs b _ _ q)
        rw [ha] at e
        cases e
        exact e2
  cases hk : K.lookup a with
  | some o =>
    have e := kin a o hk
    rw [ha] at e
    cases e
    exact main (fun _ => none) (fun b o z => nomatch (show (none : Option HO) = some o from z)) (.inr ⟨_, us.toArray, _, hk, rfl, rfl, rfl, by rw [List.size_toArray, hi.length]; exact hl, by simpa using rv⟩) fun z => absurd rfl z
  | none =>
    refine main (fun b => if b = a then some (.frz { cls := .type "list", data := .seq us.toArray } (.lst (ns.map V.int))) else none) (fun b o z => ?_) (.inl (.inr ⟨_, if_pos rfl⟩)) fun _ => hk
    by_cases hb : b = a
    · have z' := (if_pos hb).symm.trans z
      cases z'
      exact ⟨hb, rfl⟩
    · have z' := (if_neg hb).symm.trans z
      cases z'
/-- a law row by its mirror -/
theorem walk_G {l : PySem.W.OpenLaw} {n k : Nat} {q : Program} {loose : List Str} {XP : (Str → Option Value) → Heap → Prop} {YP : World → Heap → Prop} {d : DefRec} {x : Str} {g : List D → M D}
    (hn : l.most = some n) (hn2 : n ≤ sizeLine) (hdf : d.params.defaults = []) (hr : Room k callerA)
    (F : ∀ (w : World) (mg : Str → Option Value) (fa : Addr) (h : Heap), YP w h → h.Ns mainGlobals mg → mg d.name = some (.ref fa) →
      ∃ (K : PySem.W.Frag) (fd : FuncData), K.In h ∧ (∀ (s : Shared) (u : Value), BindsTo s fd ⟨[u], []⟩ [(x, u)]) ∧ ∀ base : Heap, K.In base → base.Ns mainGlobals mg → FnD l.prog w K mg base k fa fd [x] g)
    (law : ∀ ns : List Int, ns.length ≤ n → (∀ z ∈ ns, Builtin.Int.intBits z ≤ 1048576) → ∃ S', g [.scr ns] [] = .ok (.bl true) S') :
    PySem.W.WalkO q loose XP YP l.row.toRowW d [] (fun f vs => PySem.call f vs) := by
  refine Att.attach_callB hn hdf fun w s₀ s₁ mg mb fa o pm cd doc a vs ns G Y ho hd hcd hmg hobj hints hlen hbits hg => ?_
  obtain ⟨K, fd, kin, hb, hF⟩ := F w mg fa _ Y G.T.g hmg
  obtain ⟨S', e⟩ := law ns hlen hbits
  exact law_G kin G.T.g G.T.b G.T.builtins G.T.nolimit hg hobj hints (Nat.le_trans hlen hn2) hr hF hb e
/-! ### the head's facts with a check of one's own -/
abbrev AlR : Type := He.AlD × Bool
def obsR (fa : List He.Fa) (fn : List He.DefD) (chk : PySem.W.Frag → Bool) (K : PySem.W.Frag) : AlR := (He.obsD fa fn K, chk K)
def obsRG (n : Nat) (fa : List He.Fa) (fn : List He.DefD) (chk : PySem.W.Frag → Bool) (g : Addr → Option Obj) : AlR := obsR fa fn chk (He.frG g (He.asD g n))
structure SaysR (fa : List He.Fa) (fn : List He.DefD) (chk : PySem.W.Frag → Bool) (K : PySem.W.Frag) : Prop where
  d : He.SaysD fa fn K
  c : chk K = true
def hookR (n : Nat) (fa : List He.Fa) (fn : List He.DefD) (chk : PySem.W.Frag → Bool) : PySem.W.Hook where
  α := AlR
  obs := fun s => obsRG n fa fn chk s.heap.get?
  val := fun _ => (He.valD fn, true)
  says := fun _ h => ∃ K : PySem.W.Frag, K.In h ∧ SaysR fa fn chk K
  of := fun _ _ e => ⟨_, He.frG_in, congrArg Prod.fst e, congrArg Prod.snd e⟩
  keeps := fun _ _ _ ⟨K, hK, c⟩ k => ⟨K, PySem.W.Frag.In.keeps hK k, c⟩
theorem obsRG_eq {n : Nat} {fa : List He.Fa} {fn : List He.DefD} {chk : PySem.W.Frag → Bool} {g : Addr → Option Obj} {s : Shared} (h : ∀ a, g a = s.heap.get? a) : obsRG n fa fn chk g = (hookR n fa fn chk).obs s := by
  have e : g = s.heap.get? := funext h
  rw [e] <;> rfl
/-- a written tuple at an address -/
def tupAt (K : PySem.W.Frag) (a : Addr) (vs : List V) : Bool := match K.lookup a with
  | some ⟨.type c, _, .seq its _, _⟩ => decide (c = "tuple") && (decide (its.size ≤ sizeLine) && He.relAll vs its.toList)
  | _ => false
theorem tupAt_ok {K : PySem.W.Frag} {a : Addr} {vs : List V} (h : tupAt K a vs = true) (H : Hp) : SqT K H a vs := by
  unfold tupAt at h
  split at h
  · rename_i c dd its n sl e
    have h1 := Bool.and_eq_true_iff.mp h
    have h2 := Bool.and_eq_true_iff.mp h1.2
    exact .inr ⟨_, its, n, e, congrArg Value.type (of_decide_eq_true h1.1), rfl, of_decide_eq_true h2.1, He.relAll_ok h2.2⟩
  · cases h
/-! ### the mirror's words -/
abbrev MD := DSt → M D
abbrev mVar (i : Nat) : MD := fun t => getV t i
abbrev mC (d : D) : MD := fun _ => pure d
abbrev m1 (f : D → M D) (a : MD) : MD := fun t => do let x ← a t; f x
abbrev m2 (f : D → D → M D) (a b : MD) : MD := fun t => do let x ← a t; let y ← b t; f x y
abbrev mNil : DSt → M (List D) := fun _ => pure []
abbrev mCons (a : MD) (b : DSt → M (List D)) : DSt → M (List D) := fun t => do let x ← a t; let xs ← b t; pure (x :: xs)
abbrev mA (f : List D → M D) (a : DSt → M (List D)) : MD := fun t => do let xs ← a t; f xs
abbrev mT (a : MD) : DSt → M Bool := fun t => do let x ← a t; asB x
abbrev tNotM (a : DSt → M Bool) : DSt → M Bool := fun t => do let x ← a t; pure (!x)
abbrev tAndM (a b : DSt → M Bool) : DSt → M Bool := fun t => do if ← a t then b t else pure false
abbrev tOrM (a b : DSt → M Bool) : DSt → M Bool := fun t => do if ← a t then pure true else b t
abbrev mAnd (a b : MD) : MD := fun t => do let x ← a t; if ← asB x then b t else pure (.bl false)
abbrev mOr (a b : MD) : MD := fun t => do let x ← a t; if ← asB x then pure (.bl true) else b t
abbrev mNot (a : MD) : MD := fun t => do let x ← a t; let b ← asB x; pure (.bl (!b))
abbrev mIf (c : DSt → M Bool) (a b : MD) : MD := fun t => do if ← c t then a t else b t
abbrev SD := DSt → M Ctl
abbrev sSeq (a b : SD) : SD := fun t => do let c ← a t; seqC b c
abbrev sNil : SD := fun t => pure (.nx t)
abbrev sRet (a : MD) : SD := fun t => do let x ← a t; pure (.rt x)
abbrev sExpr (a : MD) : SD := fun t => do let _ ← a t; pure (.nx t)
abbrev sIf (c : DSt → M Bool) (a b : SD) : SD := fun t => do if ← c t then a t else b t
abbrev sSet (i : Nat) (a : MD) : SD := fun t => do let d ← a t; let t' ← liftO (setV t i d); pure (.nx t')
abbrev sSetO (i : Nat) (a : DSt → M (List D)) : SD := fun t => do let xs ← a t; let t' ← liftO (setO t i xs); pure (.nx t')
abbrev sFor (T : Tgt) (it : DSt → M (List D)) (b : SD) : SD := fun t => do let ds ← it t; forD (stepD T.set b) ds t
abbrev sIce (i : Nat) (a : SD) : SD := fun t => a (freeze i t)
abbrev iAny (a : MD) : DSt → M (List D) := fun t => do let x ← a t; iterD x
abbrev iRange1 (a : MD) : DSt → M (List D) := fun t => do let x ← a t; rangeD [x]
abbrev iRange2 (a b : MD) : DSt → M (List D) := fun t => do let x ← a t; let y ← b t; rangeD [x, y]
abbrev lcF (ws : List Nat) (T : Tgt) (it : DSt → M (List D)) (c : DSt → M Bool) (e : MD) : DSt → M (List D) := fun t => do let ds ← it t; noE (lcD ws T c e ds [] t)
abbrev mLst (a : DSt → M (List D)) : MD := fun t => do let xs ← a t; pure (.lst xs)
abbrev tYesM : DSt → M Bool := fun _ => pure true
abbrev mCall (n : Nat) (g : List D → M D) (a : DSt → M (List D)) (dds : List D) : MD := fun t => do let xs ← a t; argsD n g (xs ++ dds)
abbrev mMake (n : Nat) (c : Str) (g : List D → M D) (a : DSt → M (List D)) (dds : List D) : MD := fun t => do let xs ← a t; argsM n c g (xs ++ dds)
abbrev oNone : DSt → M (Option Int) := fun _ => pure none
abbrev oSome (a : MD) : DSt → M (Option Int) := fun t => do let x ← a t; partD x
abbrev mSlice (a : MD) (l h : DSt → M (Option Int)) : MD := fun t => do let x ← a t; let l ← l t; let h ← h t; sliceD x l h
/-- a test that is always met -/
theorem pts_yes {X : Cx} : PTs X [] (tDT X.K W0 tYesM) := ⟨fun pins s σ H Q I ⟨t, p, G, S, ow, r, h⟩ => pts_nil.run pins s σ H Q I (okR.fin (d := true) h rfl r.rel)⟩
theorem pts_of {X : Cx} {c : Expr} {m : DSt → M Bool} (h : DT X W0 c m) : PTs X [c] (tDT X.K W0 m) := pts_one h
end RM

/-! RM: what the printed walk leans on. -/
namespace RM
open PySem PySem.Spec PyProof.Rows L2
section
variable {K : PySem.W.Frag} {x qual : Str} {params : Arguments} {body : List Stmt} {scope : Scope} {dvs : List V} {kws : List (Str × V)} {f : Addr} {fd : FuncData} {ps : List Str}
/-- an own def with its promise -/
structure Own (P : Program) (w : World) (K : PySem.W.Frag) (mg : Str → Option Value) (base : Heap) (k : Nat) (f : Addr) (fd : FuncData) (ps : List Str) (g : List D → M D) : Prop where
  fn : FnD P w K mg base k f fd ps g
  kp : PySem.W.keepIn K (.ref f) = true
theorem funSame {x' qual' : Str} {params' : Arguments} {body' : List Stmt} {scope' : Scope} {dvs' : List V} {kws' : List (Str × V)} {fd' : FuncData} (F : FunD K x qual params body scope dvs kws f fd) (F' : FunD K x' qual' params' body' scope' dvs' kws' f fd') : fd' = fd := by
  obtain ⟨oc, od, dV, kV, doc, pm, an, cdv, ct, osl, _, lk, _⟩ := F.ex
  obtain ⟨oc', od', dV', kV', doc', pm', an', cdv', ct', osl', _, lk', _⟩ := F'.ex
  rw [lk] at lk'
  cases lk'
  rfl
def arK : {α : Type} → List α → List α → List α → List α := fun _ ws _ => ws
theorem kwAll (F : FunD K x qual params body scope [] kws f fd)
    (h : ∀ (kV doc pm : Value) (an : Option Addr) (cdv ct : Value) (ws : List Value), ws.length = ps.length → bindArgs (PySem.W.fnOf x qual params body scope .none kV doc pm an cdv ct) ⟨[], ps.zip ws⟩ = pure (ps.zip ws)) : KwTo K fd ps ps 0 arK [] [] := by
  refine ⟨fun s us ws _ h1 h2 => ?_, fun {vs zs us ws} _ _ _ r => r, fun {q G xs ys dd vs zs} _ _ _ d _ => d⟩
  obtain ⟨oc, od, dV, kV, doc, pm, an, cdv, ct, osl, rfl, lk, hcd, hD, hK⟩ := F.ex
  rcases hD with ⟨_, rfl⟩ | ⟨e, _⟩
  · cases (List.length_eq_zero_iff.mp h1)
    exact .of_eq (h kV doc pm an cdv ct ws h2)
  · exact absurd rfl e
end
abbrev mIdxO (i : Nat) (b : MD) : MD := fun t => do let xs ← getO t i; let y ← b t; idxD (.lst xs) y
abbrev mLenO (i : Nat) : MD := fun t => do let xs ← getO t i; pure (.int xs.length)
abbrev mCallK (n : Nat) (g : List D → M D) (a : DSt → M (List D)) : MD := fun t => do let ys ← a t; argsK 0 n n arK [] g [] ys
abbrev mCallO (i : Nat) (g : List D → M D) (a : MD) : MD := fun t => do let d ← a t; let xs ← getO t i; let v ← noE (g [d, .lst xs]); flatOnly v
abbrev sPar (is : List Nat) (a : DSt → M (List D)) : SD := fun t => do let xs ← a t; let t' ← liftO (setVs t is xs); pure (.nx t')
abbrev sAsg (T : Tgt) (a : MD) : SD := fun t => do let d ← a t; let t' ← liftO (T.set d t); pure (.nx t')
abbrev sFldT (tab : List (Str × Str)) (f : Str) (o e : MD) : SD := fun t => do let d ← e t; let o ← o t; putFld tab f d o; pure (.nx t)
abbrev sPut (i : Nat) (e b : MD) : SD := fun t => do let y ← e t; let xs ← getO t i; let k ← b t; let zs ← liftO (putO xs y k); pure (.nx (t.set i (some (.own zs))))
abbrev sApp (i : Nat) (e : MD) : SD := fun t => do let xs ← getO t i; let y ← e t; if xs.length < sizeLine then pure (.nx (t.set i (some (.own (xs ++ [y]))))) else stuck
abbrev sPop (i : Nat) (e : MD) : SD := fun t => do let xs ← getO t i; let k ← e t; let r ← liftO (popO xs k); pure (.nx (t.set i (some (.own r.2))))
abbrev mJoin (a b : MD) : MD := fun t => do let x ← a t; let s ← strD x; let y ← b t; joinD (.str s) y
theorem units1 {k : Nat} {A : Around} (r : Room k A) : A.units + 1 < cLine := by have := r.un; omega
theorem units66 {k : Nat} {A : Around} (r : Room k A) : A.units + 66 < cLine := by have := r.un; omega
/-- one draw: the mirror -/
def drawB : SD :=
  sSeq (fun t => whileD (tAndM (mT (m2 eqD (fun t => do let o ← getV t 0; let tp ← tapeOf o; pure (.int tp.rest)) (mC (.int 0)))) (fun t => do let o ← getV t 0; let tp ← tapeOf o; pure (!tp.large.isEmpty))) (fun t => do let o ← getV t 0; popLarge o; pure (.nx t)) 1100 t)
  (sSeq (sIf (mT (m2 gtD (fun t => do let o ← getV t 0; let tp ← tapeOf o; pure (.int tp.rest)) (mC (.int 0))))
    (sSeq (sSet 2 (m2 modD (mA intD (mCons (fun t => do let o ← getV t 0; let tp ← tapeOf o; pure (.int tp.rest)) mNil)) (mVar 1)))
      (sSeq (fun t => do let v ← m2 fdivD (fun t => do let o ← getV t 0; let tp ← tapeOf o; pure (.int tp.rest)) (mVar 1) t; let o ← getV t 0; restD o v; pure (.nx t))
        (sRet (mVar 2)))) sNil)
  (sSeq (sSet 3 (m2 addD (fun t => do let o ← getV t 0; let tp ← tapeOf o; pure (.int tp.turn)) (mC (.int 1))))
  (sSeq (fun t => do let v ← mVar 3 t; let o ← getV t 0; turnD o v; pure (.nx t))
  (sSeq (sSet 4 (mIf (fun t => do let o ← getV t 0; let tp ← tapeOf o; pure (!tp.cells.isEmpty)) (fun t => do let o ← getV t 0; let _ ← tapeOf o; let k ← m2 modD (mA intD (mCons (mVar 3) mNil)) (fun t => do let o ← getV t 0; let tp ← tapeOf o; pure (.int tp.cells.length)) t; let tp ← tapeOf o; cellD tp k) (mC (.int 0))))
  (sSeq (sSet 5 (m2 modD (mA intD (mCons (m2 powD (m2 addD (m2 addD (m2 modD (mA intD (mCons (mVar 4) mNil)) (mC (.int 2147483629))) (m2 mulD (mC (.int 48271)) (mVar 3))) (mC (.int 13579))) (mC (.int 3))) mNil)) (mC (.int 2147483647))))
  (sRet (m2 modD (mA intD (mCons (m2 fdivD (m2 modD (mA intD (mCons (m2 powD (m2 addD (mVar 5) (m2 mulD (mC (.int 99991)) (mVar 3))) (mC (.int 5))) mNil)) (mC (.int 2147483587))) (mC (.int 23))) mNil)) (mVar 1))))))))
def drawM : List D → M D := runB 6 drawB
end RM

/-! RM: the plain side: no program in sight. -/
namespace RM
open PySem PySem.Spec PyProof.Rows L2
@[simp] theorem run_bind {a b : Type} (m : M a) (f : a → M b) (s : Sto) : (m >>= f) s = (m s).andThen f := rfl
@[simp] theorem run_pure {a : Type} (x : a) (s : Sto) : (pure x : M a) s = .ok x s := rfl
@[simp] theorem run_stuck {a : Type} (s : Sto) : (stuck : M a) s = .stuck := rfl
@[simp] theorem getV_0 (d : D) (t : DSt) : getV (some (.val d) :: t) 0 = pure d := rfl
@[simp] theorem getV_s (x : Option DV) (t : DSt) (i : Nat) : getV (x :: t) (i + 1) = getV t i := rfl
@[simp] theorem getO_0 (d : List D) (t : DSt) : getO (some (.own d) :: t) 0 = pure d := rfl
@[simp] theorem getO_s (x : Option DV) (t : DSt) (i : Nat) : getO (x :: t) (i + 1) = getO t i := rfl
@[simp] theorem setV_0 (d : D) (x : Option DV) (t : DSt) : setV (x :: t) 0 d = some (some (.val d) :: t) := rfl
@[simp] theorem setV_s (d : D) (x : Option DV) (t : DSt) (i : Nat) : setV (x :: t) (i + 1) d = (setV t i d).map (x :: ·) := by
  unfold setV
  rw [List.length_cons]
  by_cases h : i < t.length
  · rw [if_pos h, if_pos (by omega)]; rfl
  · rw [if_neg h, if_neg (by omega)]; rfl
@[simp] theorem setO_0 (d : List D) (x : Option DV) (t : DSt) : setO (x :: t) 0 d = some (some (.own d) :: t) := rfl
@[simp] theorem setO_s (d : List D) (x : Option DV) (t : DSt) (i : Nat) : setO (x :: t) (i + 1) d = (setO t i d).map (x :: ·) := by
  unfold setO
  rw [List.length_cons]
  by_cases h : i < t.length
  · rw [if_pos h, if_pos (by omega)]; rfl
  · rw [if_neg h, if_neg (by omega)]; rfl
@[simp] theorem liftO_some {α : Type} (x : α) : (liftO (some x) : M α) = pure x := rfl
@[simp] theorem seqC_nx (u : DSt → M Ctl) (t : DSt) : seqC u (.nx t) = u t := rfl
@[simp] theorem seqC_rt (u : DSt → M Ctl) (d : D) : seqC u (.rt d) = pure (.rt d) := rfl
@[simp] theorem endC_rt (d : D) : endC (.rt d) = pure d := rfl
@[simp] theorem endC_nx (t : DSt) : endC (.nx t) = pure .non := rfl
@[simp] theorem asB_bl (b : Bool) : asB (.bl b) = pure b := rfl
@[simp] theorem tapeOf_0 (tp : Tape) (r : Sto) : tapeOf (.mref 0) (.tape tp :: r) = .ok tp (.tape tp :: r) := rfl
@[simp] theorem tapeSet_0 (tp tq : Tape) (r : Sto) : tapeSet (.mref 0) tq (.tape tp :: r) = .ok () (.tape tq :: r) := rfl
@[simp] theorem freeze_own (xs : List D) (t : DSt) : freeze 0 (some (.own xs) :: t) = some (.val (.lst xs)) :: t := rfl
@[simp] theorem freeze_s (x : Option DV) (t : DSt) (i : Nat) : freeze (i + 1) (x :: t) = x :: freeze i t := by
  unfold freeze
  show (match (x :: t)[i + 1]? with | some (some (.own xs)) => _ | _ => _) = _
  rw [List.getElem?_cons_succ]
  cases h : t[i]? with
  | none => rfl
  | some o =>
    cases o with
    | none => rfl
    | some v => cases v <;> rfl
@[simp] theorem run_map {a b : Type} (f : a → b) (m : M a) (s : Sto) : (f <$> m) s = (m s).andThen fun x => pure (f x) := rfl
@[simp] theorem eqD_int (i j : Int) : eqD (.int i) (.int j) = pure (.bl (i == j)) := rfl
@[simp] theorem eqD_str (i j : Str) : eqD (.str i) (.str j) = pure (.bl (i == j)) := rfl
@[simp] theorem eqD_bl (i j : Bool) : eqD (.bl i) (.bl j) = pure (.bl (i == j)) := rfl
@[simp] theorem neD_int (i j : Int) : neD (.int i) (.int j) = pure (.bl (!(i == j))) := rfl
@[simp] theorem neD_str (i j : Str) : neD (.str i) (.str j) = pure (.bl (!(i == j))) := rfl
@[simp] theorem neD_bl (i j : Bool) : neD (.bl i) (.bl j) = pure (.bl (!(i == j))) := rfl
@[simp] theorem ltD_int (i j : Int) : ltD (.int i) (.int j) = pure (.bl (decide (i < j))) := rfl
@[simp] theorem leD_int (i j : Int) : leD (.int i) (.int j) = pure (.bl (decide (i ≤ j))) := rfl
@[simp] theorem gtD_int (i j : Int) : gtD (.int i) (.int j) = pure (.bl (decide (j < i))) := rfl
@[simp] theorem geD_int (i j : Int) : geD (.int i) (.int j) = pure (.bl (decide (j ≤ i))) := rfl
@[simp] theorem addD_int (i j : Int) : addD (.int i) (.int j) = pure (.int (i + j)) := rfl
@[simp] theorem subD_int (i j : Int) : subD (.int i) (.int j) = pure (.int (i - j)) := rfl
@[simp] theorem negD_int (i : Int) : negD (.int i) = pure (.int (-i)) := rfl
@[simp] theorem intD_int (i : Int) : intD [.int i] = pure (.int i) := rfl
@[simp] theorem notD (d : D) (h : d ≠ .non) : notNonD d .non = pure (.bl true) := by cases d <;> first | rfl | exact absurd rfl h
@[simp] theorem isD_non : isNonD .non .non = pure (.bl true) := rfl
@[simp] theorem notD_non : notNonD .non .non = pure (.bl false) := rfl
theorem modD_int {i j : Int} (h : 0 < j) : modD (.int i) (.int j) = pure (.int (i % j)) := if_pos h
theorem fdivD_int {i j : Int} (h : 0 < j) (h2 : j.natAbs.log2 < 9000) : fdivD (.int i) (.int j) = pure (.int (i / j)) := if_pos ⟨h, h2⟩
theorem powD_int {i j : Int} (h : 0 ≤ j) (h2 : j ≤ 1000000) (h3 : i.natAbs < 2 ^ 64) : powD (.int i) (.int j) = pure (.int (i ^ j.toNat)) := if_pos ⟨h, h2, h3⟩
theorem mulD_int {i j : Int} (h : -(2 ^ 64) < i ∧ i < 2 ^ 64) : mulD (.int i) (.int j) = pure (.int (i * j)) := if_pos (.inl h)
theorem atI_in {α : Type} {xs : List α} {i : Int} (h0 : 0 ≤ i) (h1 : i < xs.length) : ∃ x, x ∈ xs ∧ xs[i.toNat]? = some x ∧ atI xs i = some x := by
  have hlt : i.toNat < xs.length := by omega
  refine ⟨xs[i.toNat], List.getElem_mem hlt, List.getElem?_eq_getElem hlt, ?_⟩
  unfold atI ixN
  rw [if_pos h0, if_pos h1]
  exact List.getElem?_eq_getElem hlt
@[simp] theorem argsD_ok {n : Nat} {g : List D → M D} {xs : List D} (h : xs.length = n) : argsD n g xs = g xs := if_pos h
@[simp] theorem argsK_ok {n : Nat} {g : List D → M D} {xs : List D} (h : xs.length = n) : argsK 0 n n arK [] g [] xs = g xs := by
  unfold argsK
  rw [if_pos ⟨rfl, h⟩]
  exact argsD_ok h
@[simp] theorem partD_int (i : Int) : partD (.int i) = pure (some i) := rfl
@[simp] theorem strD_str (x : Str) : strD (.str x) = pure x := rfl
theorem lstD_ok {xs : List D} (h : xs.length ≤ sizeLine) : lstD xs = pure (.lst xs) := if_pos h
theorem tupD_ok {xs : List D} (h : xs.length ≤ sizeLine) : tupD xs = pure (.tup xs) := if_pos h
theorem sizeL_ok {xs : List D} (h : xs.length ≤ sizeLine) : sizeL xs = pure xs := if_pos h
theorem size_big (n : Nat) (h : n ≤ 1000000) : n ≤ sizeLine := Nat.le_trans h (by decide)
theorem addD_str {x y : Str} (h : x.length + y.length ≤ sizeLine) : addD (.str x) (.str y) = pure (.str (x ++ y)) := if_pos h
theorem addD_lst {x y : List D} (h : x.length + y.length ≤ sizeLine) : addD (.lst x) (.lst y) = pure (.lst (x ++ y)) := if_pos h
theorem lenD_str {x : Str} (h : x.length ≤ sizeLine) : lenD [.str x] = pure (.int x.length) := if_pos h
@[simp] theorem lenD_lst (xs : List D) : lenD [.lst xs] = pure (.int xs.length) := rfl
@[simp] theorem lenD_tup (xs : List D) : lenD [.tup xs] = pure (.int xs.length) := rfl
@[simp] theorem lenD_scr (xs : List Int) : lenD [.scr xs] = pure (.int xs.length) := rfl
@[simp] theorem iterD_str (x : Str) : iterD (.str x) = pure (signs x) := rfl
@[simp] theorem iterD_lst (x : List D) : iterD (.lst x) = pure x := rfl
@[simp] theorem iterD_tup (x : List D) : iterD (.tup x) = pure x := rfl
/-- the tape is in order -/
structure Good (t : Tape) : Prop where
  large : ∀ z ∈ t.large, 0 ≤ z
  cells : ∀ z ∈ t.cells, 0 ≤ z
  rest : 0 ≤ t.rest
  turn : 0 ≤ t.turn
  len : t.large.length ≤ 1000
/-- m draws at most n times and ends with a P -/
def HT {α : Type} (n : Nat) (m : M α) (P : α → Prop) : Prop := ∀ t : Tape, Good t → t.turn + n ≤ 1000000000000 → ∃ a t', m [.tape t] = .ok a [.tape t'] ∧ Good t' ∧ t'.turn ≤ t.turn + n ∧ P a
theorem HT.mono {α : Type} {n k : Nat} {m : M α} {P Q : α → Prop} (h : HT n m P) (hn : n ≤ k) (hp : ∀ a, P a → Q a) : HT k m Q := fun t g b =>
  let ⟨a, t', e, g', b', p⟩ := h t g (by omega)
  ⟨a, t', e, g', by omega, hp a p⟩
theorem HT.pure {α : Type} {P : α → Prop} {x : α} (h : P x) : HT 0 (pure x : M α) P := fun t g _ => ⟨x, t, rfl, g, by omega, h⟩
theorem HT.bind {α β : Type} {n k : Nat} {m : M α} {f : α → M β} {P : α → Prop} {Q : β → Prop} (h : HT n m P) (hf : ∀ a, P a → HT k (f a) Q) : HT (n + k) (m >>= f) Q := fun t g b => by
  obtain ⟨a, t1, e1, g1, b1, p1⟩ := h t g (by omega)
  obtain ⟨c, t2, e2, g2, b2, p2⟩ := hf a p1 t1 g1 (by omega)
  refine ⟨c, t2, ?_, g2, by omega, p2⟩
  rw [run_bind, e1]
  exact e2
theorem HT.noE {α : Type} {n : Nat} {m : M α} {P : α → Prop} (h : HT n m P) : HT n (RM.noE m) P := fun t g b => by
  obtain ⟨a, t', e, r⟩ := h t g b
  exact ⟨a, t', by unfold RM.noE; rw [e], r⟩
theorem ht_lc {ws : List Nat} {T : Tgt} {me : DSt → M D} {n : Nat} {P : D → Prop} {t : DSt} : ∀ (ds acc : List D), (∀ d ∈ ds, ∃ t', T.set d (wipeD t ws) = some t' ∧ HT n (me t') P) → acc.length + ds.length ≤ sizeLine →
    HT (ds.length * n) (lcD ws T tYesM me ds acc t) fun r => ∃ ys, r = acc ++ ys ∧ ys.length = ds.length ∧ ∀ y ∈ ys, P y
  | [], acc, _, _ => fun t g b => ⟨acc, t, rfl, g, by simp, [], by simp, rfl, fun y hy => by cases hy⟩
  | d :: ds, acc, h, hl => fun tp g b => by
    obtain ⟨t', e1, e2⟩ := h d (List.mem_cons_self ..)
    rw [List.length_cons] at hl
    have sz : (d :: ds).length * n = n + ds.length * n := by rw [List.length_cons, Nat.add_mul, Nat.one_mul, Nat.add_comm]
    rw [sz] at b ⊢
    obtain ⟨y, tp1, f1, f2, f3, f4⟩ := e2 tp g (by omega)
    obtain ⟨r, tp2, k1, k2, k3, ys, k4, k5, k6⟩ := ht_lc (ws := ws) (T := T) (me := me) (t := t) ds (acc ++ [y]) (fun z hz => h z (List.mem_cons_of_mem _ hz)) (by rw [List.length_append]; simp; omega) tp1 f2 (by omega)
    refine ⟨r, tp2, ?_, k2, by omega, y :: ys, by rw [k4]; simp, by rw [List.length_cons, k5, List.length_cons], fun z hz => ?_⟩
    · unfold lcD
      rw [e1]
      simp only [liftO_some, run_bind, run_pure, andThen_ok]
      rw [if_pos trivial, run_bind, f1, andThen_ok, if_pos (by omega)]
      exact k1
    · rcases List.mem_cons.mp hz with rfl | hz
      · exact f4
      · exact k6 z hz
theorem lc_pure {ws : List Nat} {T : Tgt} {mt : DSt → M Bool} {me : DSt → M D} {t : DSt} {S : Sto} (f : D → D) (c : D → Bool) : ∀ (ds acc : List D), (∀ d ∈ ds, ∃ t', T.set d (wipeD t ws) = some t' ∧ mt t' S = .ok (c d) S ∧ (c d = true → me t' S = .ok (f d) S)) → acc.length + ds.length ≤ sizeLine →
    lcD ws T mt me ds acc t S = .ok (acc ++ (ds.filter c).map f) S
  | [], acc, _, _ => by simp [lcD]
  | d :: ds, acc, h, hl => by
    obtain ⟨t', e1, e2, e3⟩ := h d (List.mem_cons_self ..)
    rw [List.length_cons] at hl
    unfold lcD
    rw [e1]
    simp only [liftO_some, run_bind, run_pure, andThen_ok]
    rw [e2, andThen_ok]
    by_cases q : c d = true
    · rw [if_pos q, run_bind, e3 q, andThen_ok, if_pos (by omega), lc_pure f c ds (acc ++ [f d]) (fun z hz => h z (List.mem_cons_of_mem _ hz)) (by rw [List.length_append]; simp; omega), List.filter_cons_of_pos q]
      simp
    · rw [if_neg q, lc_pure f c ds acc (fun z hz => h z (List.mem_cons_of_mem _ hz)) (by omega), List.filter_cons_of_neg q]
theorem ht_for {step : D → DSt → M Ctl} {I : DSt → Prop} {n : Nat} : ∀ (ds : List D) (t : DSt), I t → (∀ d ∈ ds, ∀ t, I t → HT n (step d t) fun c => ∃ t', c = .nx t' ∧ I t') → HT (ds.length * n) (forD step ds t) fun c => ∃ t', c = .nx t' ∧ I t'
  | [], t, i, _ => fun tp g b => ⟨.nx t, tp, rfl, g, by simp, t, rfl, i⟩
  | d :: ds, t, i, h => fun tp g b => by
    have sz : (d :: ds).length * n = n + ds.length * n := by rw [List.length_cons, Nat.add_mul, Nat.one_mul, Nat.add_comm]
    rw [sz] at b ⊢
    obtain ⟨_, tp1, f1, f2, f3, t', rfl, i'⟩ := h d (List.mem_cons_self ..) t i tp g (by omega)
    obtain ⟨c, tp2, k1, k2, k3, k4⟩ := ht_for ds t' i' (fun z hz => h z (List.mem_cons_of_mem _ hz)) tp1 f2 (by omega)
    refine ⟨c, tp2, ?_, k2, by omega, k4⟩
    unfold forD
    rw [run_bind, f1]
    exact k1
theorem draw_while {c : DSt → M Bool} {b : DSt → M Ctl} {t : DSt} (hc : ∀ tp r, c t (.tape tp :: r) = .ok (tp.rest == 0 && !tp.large.isEmpty) (.tape tp :: r)) (hb : ∀ tp k l r, tp.large = k :: l → b t (.tape tp :: r) = .ok (.nx t) (.tape { tp with rest := k, large := l } :: r)) :
    ∀ (fuel : Nat) (tp : Tape), Good tp → tp.large.length < fuel → ∃ tp', whileD c b fuel t [.tape tp] = .ok (.nx t) [.tape tp'] ∧ Good tp' ∧ tp'.turn = tp.turn
  | 0, tp, _, h => by omega
  | n + 1, tp, g, h => by
    unfold whileD
    rw [run_bind, hc, andThen_ok]
    by_cases q : (tp.rest == 0 && !tp.large.isEmpty) = true
    · rw [if_pos q]
      cases hl : tp.large with
      | nil => rw [hl] at q; simp at q
      | cons k l =>
        rw [run_bind, hb tp k l [] hl, andThen_ok]
        obtain ⟨tp', e, g', tu⟩ := draw_while hc hb n { tp with rest := k, large := l } ⟨fun z hz => g.large z (by rw [hl]; exact List.mem_cons_of_mem _ hz), g.cells, g.large k (by rw [hl]; exact List.mem_cons_self ..), g.turn, by have := g.len; rw [hl] at this; simp at this ⊢; omega⟩ (by rw [hl] at h; simp at h ⊢; omega)
        exact ⟨tp', e, g', tu⟩
    · rw [if_neg q]
      exact ⟨tp, rfl, g, rfl⟩
theorem drawM_ok {n : Int} (hn : 0 < n) (hl : n.natAbs.log2 < 9000) : HT 1 (drawM [.mref 0, .int n]) fun d => ∃ k, d = .int k ∧ 0 ≤ k ∧ k < n := by
  intro tp g hb
  unfold drawM runB drawB
  obtain ⟨tp1, e1, g1, tu⟩ := draw_while (t := startD 6 [.mref 0, .int n]) (c := tAndM (mT (m2 eqD (fun t => do let o ← getV t 0; let tp ← tapeOf o; pure (.int tp.rest)) (mC (.int 0)))) (fun t => do let o ← getV t 0; let tp ← tapeOf o; pure (!tp.large.isEmpty))) (b := fun t => do let o ← getV t 0; popLarge o; pure (.nx t))
    (fun tp r => by
      by_cases q : tp.rest = 0
      · simp [startD, q]
      · simp [startD, q]) (fun tp k l r h => by simp [startD, popLarge, h]) 1100 tp g (by have := g.len; omega)
  have tt := g1.turn
  simp only [run_bind, e1, andThen_ok, seqC_nx]
  by_cases q : 0 < tp1.rest
  · exact ⟨.int (tp1.rest % n), { tp1 with rest := tp1.rest / n }, by simp [startD, q, modD_int hn, fdivD_int hn hl, restD], ⟨g1.large, g1.cells, Int.ediv_nonneg (by omega) (by omega), g1.turn, g1.len⟩, by show tp1.turn ≤ _; omega, _, rfl, Int.emod_nonneg _ (by omega), Int.emod_lt_of_pos _ hn⟩
  · have tail : ∀ c : Int, 0 ≤ c → ∃ m k : Int, 0 ≤ k ∧ k < n ∧ powD (.int (c % 2147483629 + 48271 * (tp1.turn + 1) + 13579)) (.int 3) = pure (.int ((c % 2147483629 + 48271 * (tp1.turn + 1) + 13579) ^ 3)) ∧ (c % 2147483629 + 48271 * (tp1.turn + 1) + 13579) ^ 3 % 2147483647 = m
        ∧ powD (.int (m + 99991 * (tp1.turn + 1))) (.int 5) = pure (.int ((m + 99991 * (tp1.turn + 1)) ^ 5)) ∧ ((m + 99991 * (tp1.turn + 1)) ^ 5 % 2147483587 / 23) % n = k := by
      intro c hc
      have a1 := Int.emod_nonneg c (b := 2147483629) (by omega)
      have a2 := Int.emod_lt_of_pos c (b := 2147483629) (by omega)
      have p1 : powD (.int (c % 2147483629 + 48271 * (tp1.turn + 1) + 13579)) (.int 3) = pure (.int ((c % 2147483629 + 48271 * (tp1.turn + 1) + 13579) ^ 3)) := powD_int (by omega) (by omega) (by omega)
      obtain ⟨m, em⟩ : ∃ m, m = (c % 2147483629 + 48271 * (tp1.turn + 1) + 13579) ^ 3 % 2147483647 := ⟨_, rfl⟩
      have a3 := Int.emod_nonneg ((c % 2147483629 + 48271 * (tp1.turn + 1) + 13579) ^ 3) (b := 2147483647) (by omega)
      have a4 := Int.emod_lt_of_pos ((c % 2147483629 + 48271 * (tp1.turn + 1) + 13579) ^ 3) (b := 2147483647) (by omega)
      rw [← em] at a3 a4
      have p2 : powD (.int (m + 99991 * (tp1.turn + 1))) (.int 5) = pure (.int ((m + 99991 * (tp1.turn + 1)) ^ 5)) := powD_int (by omega) (by omega) (by omega)
      exact ⟨m, _, Int.emod_nonneg _ (by omega), Int.emod_lt_of_pos _ hn, p1, em.symm, p2, rfl⟩
    have mo : ∀ i : Int, modD (.int i) (.int 2147483629) = pure (.int (i % 2147483629)) ∧ modD (.int i) (.int 2147483647) = pure (.int (i % 2147483647)) ∧ modD (.int i) (.int 2147483587) = pure (.int (i % 2147483587)) ∧ modD (.int i) (.int n) = pure (.int (i % n)) ∧ fdivD (.int i) (.int 23) = pure (.int (i / 23)) ∧ mulD (.int 48271) (.int i) = pure (.int (48271 * i)) ∧ mulD (.int 99991) (.int i) = pure (.int (99991 * i)) := fun i =>
      ⟨modD_int (by omega), modD_int (by omega), modD_int (by omega), modD_int hn, fdivD_int (by omega) (by decide), mulD_int (by decide), mulD_int (by decide)⟩
    have g2 : Good { tp1 with turn := tp1.turn + 1 } := ⟨g1.large, g1.cells, g1.rest, by show 0 ≤ tp1.turn + 1; omega, g1.len⟩
    cases hcs : tp1.cells with
    | nil =>
      obtain ⟨m, k, k0, k1, p1, em, p2, ek⟩ := tail 0 (by omega)
      refine ⟨.int k, { tp1 with turn := tp1.turn + 1 }, ?_, g2, by show tp1.turn + 1 ≤ _; omega, k, rfl, k0, k1⟩
      have p1' : powD (.int (0 % 2147483629 + 48271 * (tp1.turn + 1) + 13579)) (.int 3) = pure (.int ((0 % 2147483629 + 48271 * (tp1.turn + 1) + 13579) ^ 3)) := p1
      simp only [show (0 : Int) % 2147483629 = 0 from rfl, Int.zero_add] at p1' em
      simp [startD, q, turnD, hcs, mo, p1', em, p2, ek]
    | cons x xs =>
      have h1 := Int.emod_lt_of_pos (tp1.turn + 1) (b := ((x :: xs).length : Int)) (by rw [List.length_cons]; omega)
      have h2 := Int.emod_nonneg (tp1.turn + 1) (b := ((x :: xs).length : Int)) (by rw [List.length_cons]; omega)
      obtain ⟨c, hm, _, ha⟩ := atI_in h2 h1
      obtain ⟨m, k, k0, k1, p1, em, p2, ek⟩ := tail c (g1.cells c (by rw [hcs]; exact hm))
      refine ⟨.int k, { tp1 with turn := tp1.turn + 1 }, ?_, g2, by show tp1.turn + 1 ≤ _; omega, k, rfl, k0, k1⟩
      have ha' : atI (x :: xs) ((tp1.turn + 1) % ((xs.length : Int) + 1)) = some c := by rw [List.length_cons] at ha; simpa using ha
      simp [startD, q, turnD, hcs, modD_int (show (0 : Int) < (xs.length : Int) + 1 by omega), cellD, ha', mo, p1, em, p2, ek]
end RM

/-! ### rowsmeet_k01_names_sales_and_stretches: the text -/
namespace LW
open PySem PySem.Spec PyProof.Rows L2 RM
def top (i : Nat) : Stmt := PySem.Challenge.pw_rowsmeet_k01_names_sales_and_stretches.main.body.getD i (.Pass ⟨0, 0, 0, 0⟩)
abbrev s_law_begun : Stmt := top 17
def d_law_begun : He.DefD := ⟨("_law_begun", none), "_law_begun", "_law_begun", defArgs s_law_begun, defBody s_law_begun, defScope s_law_begun, [], []⟩
abbrev s_law_draw : Stmt := top 18
def d_law_draw : He.DefD := ⟨("_law_draw", none), "_law_draw", "_law_draw", defArgs s_law_draw, defBody s_law_draw, defScope s_law_draw, [], []⟩
abbrev s_law_pick : Stmt := top 19
def d_law_pick : He.DefD := ⟨("_law_pick", none), "_law_pick", "_law_pick", defArgs s_law_pick, defBody s_law_pick, defScope s_law_pick, [], []⟩
abbrev s_law_odd : Stmt := top 23
def d_law_odd : He.DefD := ⟨("_law_odd", none), "_law_odd", "_law_odd", defArgs s_law_odd, defBody s_law_odd, defScope s_law_odd, [], []⟩
abbrev s_law_near_span : Stmt := top 30
def d_law_near_span : He.DefD := ⟨("_law_near_span", none), "_law_near_span", "_law_near_span", defArgs s_law_near_span, defBody s_law_near_span, defScope s_law_near_span, [], []⟩
abbrev s_law_letters : Stmt := top 20
def d_law_letters : He.DefD := ⟨("_law_letters", none), "_law_letters", "_law_letters", defArgs s_law_letters, defBody s_law_letters, defScope s_law_letters, [], []⟩
abbrev s_law_called : Stmt := top 22
def d_law_called : He.DefD := ⟨("_law_called", none), "_law_called", "_law_called", defArgs s_law_called, defBody s_law_called, defScope s_law_called, [], []⟩
abbrev s_law_signs : Stmt := top 21
def d_law_signs : He.DefD := ⟨("_law_signs", none), "_law_signs", "_law_signs", defArgs s_law_signs, defBody s_law_signs, defScope s_law_signs, [], []⟩
abbrev s_law_near_name : Stmt := top 28
def d_law_near_name : He.DefD := ⟨("_law_near_name", none), "_law_near_name", "_law_near_name", defArgs s_law_near_name, defBody s_law_near_name, defScope s_law_near_name, [], []⟩
abbrev s_law_near_deal : Stmt := top 29
def d_law_near_deal : He.DefD := ⟨("_law_near_deal", none), "_law_near_deal", "_law_near_deal", defArgs s_law_near_deal, defBody s_law_near_deal, defScope s_law_near_deal, [], []⟩
abbrev s_law_is_count : Stmt := top 24
def d_law_is_count : He.DefD := ⟨("_law_is_count", none), "_law_is_count", "_law_is_count", defArgs s_law_is_count, defBody s_law_is_count, defScope s_law_is_count, [], []⟩
abbrev s_law_is_span : Stmt := top 27
def d_law_is_span : He.DefD := ⟨("_law_is_span", none), "_law_is_span", "_law_is_span", defArgs s_law_is_span, defBody s_law_is_span, defScope s_law_is_span, [], []⟩
abbrev s_law_is_called : Stmt := top 25
def d_law_is_called : He.DefD := ⟨("_law_is_called", none), "_law_is_called", "_law_is_called", defArgs s_law_is_called, defBody s_law_is_called, defScope s_law_is_called, [], []⟩
abbrev s_law_is_dealt : Stmt := top 26
def d_law_is_dealt : He.DefD := ⟨("_law_is_dealt", none), "_law_is_dealt", "_law_is_dealt", defArgs s_law_is_dealt, defBody s_law_is_dealt, defScope s_law_is_dealt, [], []⟩
abbrev s_is_number : Stmt := top 6
def d_is_number : He.DefD := ⟨("is_number", none), "is_number", "is_number", defArgs s_is_number, defBody s_is_number, defScope s_is_number, [], []⟩
abbrev s_is_day : Stmt := top 7
def d_is_day : He.DefD := ⟨("is_day", none), "is_day", "is_day", defArgs s_is_day, defBody s_is_day, defScope s_is_day, [], []⟩
abbrev s_is_stretch : Stmt := top 10
def d_is_stretch : He.DefD := ⟨("is_stretch", none), "is_stretch", "is_stretch", defArgs s_is_stretch, defBody s_is_stretch, defScope s_is_stretch, [], []⟩
abbrev s_is_name : Stmt := top 8
def d_is_name : He.DefD := ⟨("is_name", none), "is_name", "is_name", defArgs s_is_name, defBody s_is_name, defScope s_is_name, [], []⟩
abbrev s_is_sale : Stmt := top 9
def d_is_sale : He.DefD := ⟨("is_sale", none), "is_sale", "is_sale", defArgs s_is_sale, defBody s_is_sale, defScope s_is_sale, [], []⟩
abbrev s_Box_init : Stmt := inClass (top 15) 0
def d_Box_init : He.DefD := ⟨("Box", some "__init__"), "__init__", "Box.__init__", defArgs s_Box_init, defBody s_Box_init, defScope s_Box_init, [.non, .non, .adr (He.dflAt ("Box", some "__init__") 2), .adr (He.dflAt ("Box", some "__init__") 3)], []⟩
abbrev s_law : Stmt := top 31
def d_law : He.DefD := ⟨("law", none), "law", "law", defArgs s_law, defBody s_law, defScope s_law, [], []⟩
def fn0 : List He.DefD := [d_law_begun, d_law_draw, d_law_pick, d_law_odd, d_law_near_span, d_law_letters, d_law_called, d_law_signs, d_law_near_name, d_law_near_deal, d_law_is_count, d_law_is_span, d_law_is_called, d_law_is_dealt, d_is_number, d_is_day, d_is_stretch, d_is_name, d_is_sale, d_Box_init, d_law]
def fn : List He.DefD := fn0
def fa0 : List He.Fa := [.glo "Box", .glo "_law_begun", .glo "_law_called", .glo "_law_draw", .glo "_law_is_called", .glo "_law_is_count", .glo "_law_is_dealt", .glo "_law_is_span", .glo "_law_letters", .glo "_law_near_deal", .glo "_law_near_name", .glo "_law_near_span", .glo "_law_odd", .glo "_law_pick", .glo "_law_signs", .glo "is_day", .glo "is_name", .glo "is_number", .glo "is_sale", .glo "is_stretch", .glo "law", .free "abs", .free "all", .free "bool", .free "int", .free "isinstance", .free "len", .free "list", .free "min", .free "range"]
def fa1 : List He.Fa := [.free "repr", .free "str", .free "tuple", .str "LETTERS" "abcdefghijklmnopqrstuvwxyz", .mkr "Box"]
def fa : List He.Fa := fa0 ++ fa1
def loose0 : List Str := ["_wall", "PriceError", "BadBox", "LETTERS", "is_number", "is_day", "is_name", "is_sale", "is_stretch", "is_in_stretch", "common_stretch", "are_names_alike", "common_box", "Box", "_law_begun", "_law_draw", "_law_pick", "_law_letters", "_law_signs", "_law_called", "_law_odd", "_law_is_count", "_law_is_called", "_law_is_dealt", "_law_is_span", "_law_near_name", "_law_near_deal", "_law_near_span"]
def loose : List Str := loose0
def clsL : List Str := ["Box"]
def tab : List (Str × Str) := [("Box", "box_who"), ("Box", "box_what"), ("Box", "box_days"), ("Box", "box_amounts")]
def chk (K : PySem.W.Frag) : Bool := (clsB K clsL) && (fldB K tab) && (tupAt K (He.dflAt ("Box", some "__init__") 2 K) [(.int 0), .non]) && (tupAt K (He.dflAt ("Box", some "__init__") 3 K) [(.int 0), .non])
abbrev R : PySem.W.OpenRow := PySem.W.OpenLaw.row PySem.Challenge.rw_rowsmeet_k01_names_sales_and_stretches
abbrev hk : PySem.W.Hook := hookR 5 fa fn chk
def ob (s : PySem.W.SharedT) : AlR := obsRG 5 fa fn chk (HandSHeadRun.getT s)
theorem ob_eq (s : PySem.W.SharedT) : ob s = hk.obs s.abs := obsRG_eq (HandSHeadRun.getT_eq s)
theorem run (w : World) : HandSHeadRun.RunEq R (PySem.W.view R.prog [31]) hk ob 4000 loose w := by
  intro os
  kernel_rfl
structure TextF (K : PySem.W.Frag) (mg : Str → Option Value) : Prop where
  says : SaysR fa fn chk K
  cls : ClsT K clsL
  fld : FldT K tab
  g_Box : mg "Box" = some (.ref (He.ga K "Box"))
  g_law_begun : mg "_law_begun" = some (.ref (He.ga K "_law_begun"))
  g_law_called : mg "_law_called" = some (.ref (He.ga K "_law_called"))
  g_law_draw : mg "_law_draw" = some (.ref (He.ga K "_law_draw"))
  g_law_is_called : mg "_law_is_called" = some (.ref (He.ga K "_law_is_called"))
  g_law_is_count : mg "_law_is_count" = some (.ref (He.ga K "_law_is_count"))
  g_law_is_dealt : mg "_law_is_dealt" = some (.ref (He.ga K "_law_is_dealt"))
  g_law_is_span : mg "_law_is_span" = some (.ref (He.ga K "_law_is_span"))
  g_law_letters : mg "_law_letters" = some (.ref (He.ga K "_law_letters"))
  g_law_near_deal : mg "_law_near_deal" = some (.ref (He.ga K "_law_near_deal"))
  g_law_near_name : mg "_law_near_name" = some (.ref (He.ga K "_law_near_name"))
  g_law_near_span : mg "_law_near_span" = some (.ref (He.ga K "_law_near_span"))
  g_law_odd : mg "_law_odd" = some (.ref (He.ga K "_law_odd"))
  g_law_pick : mg "_law_pick" = some (.ref (He.ga K "_law_pick"))
  g_law_signs : mg "_law_signs" = some (.ref (He.ga K "_law_signs"))
  g_is_day : mg "is_day" = some (.ref (He.ga K "is_day"))
  g_is_name : mg "is_name" = some (.ref (He.ga K "is_name"))
  g_is_number : mg "is_number" = some (.ref (He.ga K "is_number"))
  g_is_sale : mg "is_sale" = some (.ref (He.ga K "is_sale"))
  g_is_stretch : mg "is_stretch" = some (.ref (He.ga K "is_stretch"))
  g_law : mg "law" = some (.ref (He.ga K "law"))
  n_abs : mg "abs" = none
  n_all : mg "all" = none
  n_bool : mg "bool" = none
  n_int : mg "int" = none
  n_isinstance : mg "isinstance" = none
  n_len : mg "len" = none
  n_list : mg "list" = none
  n_min : mg "min" = none
  n_range : mg "range" = none
  n_repr : mg "repr" = none
  n_str : mg "str" = none
  n_tuple : mg "tuple" = none
  v_LETTERS : ∃ t, mg "LETTERS" = some (.str "abcdefghijklmnopqrstuvwxyz" t)
  mk_Box : Mk K (He.ga K "Box") (He.ma K (He.ga K "Box") "__init__")
  tp_Box_init_2 : ∀ H : Hp, SqT K H (He.dflAt ("Box", some "__init__") 2 K) [(.int 0), .non]
  tp_Box_init_3 : ∀ H : Hp, SqT K H (He.dflAt ("Box", some "__init__") 3 K) [(.int 0), .non]
theorem txt {K : PySem.W.Frag} {h : Heap} {mg : Str → Option Value} (X : K.In h) (G : h.Ns mainGlobals mg) (c : SaysR fa fn chk K) : TextF K mg := by
  have e : chk K = true := c.c
  unfold chk at e
  simp only [Bool.and_eq_true] at e
  obtain ⟨⟨⟨e0, e1⟩, e2⟩, e3⟩ := e
  exact ⟨c, clsB_ok e0, fldB_ok e1, He.glo_ok X G (c.d.fact 0 (f := .glo "Box") rfl), He.glo_ok X G (c.d.fact 1 (f := .glo "_law_begun") rfl), He.glo_ok X G (c.d.fact 2 (f := .glo "_law_called") rfl), He.glo_ok X G (c.d.fact 3 (f := .glo "_law_draw") rfl), He.glo_ok X G (c.d.fact 4 (f := .glo "_law_is_called") rfl), He.glo_ok X G (c.d.fact 5 (f := .glo "_law_is_count") rfl), He.glo_ok X G (c.d.fact 6 (f := .glo "_law_is_dealt") rfl), He.glo_ok X G (c.d.fact 7 (f := .glo "_law_is_span") rfl), He.glo_ok X G (c.d.fact 8 (f := .glo "_law_letters") rfl), He.glo_ok X G (c.d.fact 9 (f := .glo "_law_near_deal") rfl), He.glo_ok X G (c.d.fact 10 (f := .glo "_law_near_name") rfl), He.glo_ok X G (c.d.fact 11 (f := .glo "_law_near_span") rfl), He.glo_ok X G (c.d.fact 12 (f := .glo "_law_odd") rfl), He.glo_ok X G (c.d.fact 13 (f := .glo "_law_pick") rfl), He.glo_ok X G (c.d.fact 14 (f := .glo "_law_signs") rfl), He.glo_ok X G (c.d.fact 15 (f := .glo "is_day") rfl), He.glo_ok X G (c.d.fact 16 (f := .glo "is_name") rfl), He.glo_ok X G (c.d.fact 17 (f := .glo "is_number") rfl), He.glo_ok X G (c.d.fact 18 (f := .glo "is_sale") rfl), He.glo_ok X G (c.d.fact 19 (f := .glo "is_stretch") rfl), He.glo_ok X G (c.d.fact 20 (f := .glo "law") rfl), He.free_ok X G (c.d.fact 21 (f := .free "abs") rfl), He.free_ok X G (c.d.fact 22 (f := .free "all") rfl), He.free_ok X G (c.d.fact 23 (f := .free "bool") rfl), He.free_ok X G (c.d.fact 24 (f := .free "int") rfl), He.free_ok X G (c.d.fact 25 (f := .free "isinstance") rfl), He.free_ok X G (c.d.fact 26 (f := .free "len") rfl), He.free_ok X G (c.d.fact 27 (f := .free "list") rfl), He.free_ok X G (c.d.fact 28 (f := .free "min") rfl), He.free_ok X G (c.d.fact 29 (f := .free "range") rfl), He.free_ok X G (c.d.fact 30 (f := .free "repr") rfl), He.free_ok X G (c.d.fact 31 (f := .free "str") rfl), He.free_ok X G (c.d.fact 32 (f := .free "tuple") rfl), He.str_ok X G (c.d.fact 33 (f := .str "LETTERS" "abcdefghijklmnopqrstuvwxyz") rfl), He.mkr_ok (c.d.fact 34 (f := .mkr "Box") rfl), fun H => tupAt_ok e2 H, fun H => tupAt_ok e3 H⟩
variable {P : Program} {w : World} {K : PySem.W.Frag} {mg : Str → Option Value} {base : Heap}
/-! _law_begun -/
theorem sc_law_begun : FnScope ["_law_script", "_law_cells", "_law_cell"] ["_law_script"] (defScope s_law_begun) := ⟨rfl, rfl, rfl, by decide +kernel, rfl, by decide +kernel, by decide +kernel⟩
abbrev FP_law_begun (K : PySem.W.Frag) (fd : FuncData) : Prop := FunD K "_law_begun" "_law_begun" (defArgs s_law_begun) (defBody s_law_begun) (defScope s_law_begun) ([]) [] (He.ga K "_law_begun") fd
abbrev mr_law_begun : List D → M D := begunD
theorem ok_law_begun (T : TextF K mg) : ∃ fd, FP_law_begun K fd ∧ Own P w K mg base 1 (He.ga K "_law_begun") fd ["_law_script"] mr_law_begun := by
  obtain ⟨fd, F⟩ := T.says.d.def_ 0 (d := d_law_begun) rfl
  have F : FP_law_begun K fd := F
  refine ⟨fd, F, fnG_of F sc_law_begun (fun vs H Q E h => spD.len vs H Q _ h) (fun cdv A fr s H vs Q E hG hr h => ⟨tBegun K, ?_, begun_read rfl vs H Q E h⟩), F.kp⟩
  exact pss_cons (ps_setLc (own := [("_law_cell", 2)]) rfl sc_law_begun.nd rfl rfl (sw_true rfl rfl rfl (by decide +kernel)) (pi_list (pv 0)) (blkOk_by (by first | decide +kernel | kernel_rfl)) (fun _ _ _ _ _ => pg_name sc_law_begun.nd rfl (by first | exact .inl rfl | exact .inr rfl)) (fun _ _ _ _ _ => pts_nil) (fun _ _ _ _ _ => pe_callB call_abs rfl T.n_abs (by decide +kernel) (pa_cons (pv 2) pa_nil)))
    (pss_one (ps_ret (pe_disp (pps_cons pe_str (pe_lc (own := [("_law_cell", 2)]) rfl sc_law_begun.nd (pi_list (pv 1)) (blkOk_by (by first | decide +kernel | kernel_rfl)) (fun _ _ _ _ _ => pg_name sc_law_begun.nd rfl (by first | exact .inl rfl | exact .inr rfl)) (fun _ _ _ _ _ => pts_one (pt_cmpR op_ge (pv 2) (pe_op op_pow pe_int pe_int) (nomark _))) (fun _ _ _ _ _ => pe_op op_sub (pv 2) (pe_op op_pow pe_int pe_int))) (pps_cons pe_str (pv 1) (pps_cons pe_str pe_int (pps_cons pe_str pe_int pps_nil)))) rfl rfl (by intro h; cases h) (by decide))))
/-! _law_draw -/
theorem sc_law_draw : FnScope ["_law_state", "_law_size", "_law_found", "_law_turn", "_law_cell", "_law_mixed"] ["_law_state", "_law_size"] (defScope s_law_draw) := ⟨rfl, rfl, rfl, by decide +kernel, rfl, by decide +kernel, by decide +kernel⟩
abbrev FP_law_draw (K : PySem.W.Frag) (fd : FuncData) : Prop := FunD K "_law_draw" "_law_draw" (defArgs s_law_draw) (defBody s_law_draw) (defScope s_law_draw) ([]) [] (He.ga K "_law_draw") fd
abbrev mr_law_draw : List D → M D := drawM
theorem ok_law_draw (T : TextF K mg) : ∃ fd, FP_law_draw K fd ∧ Own P w K mg base 1 (He.ga K "_law_draw") fd ["_law_state", "_law_size"] mr_law_draw := by
  obtain ⟨fd, F⟩ := T.says.d.def_ 1 (d := d_law_draw) rfl
  have F : FP_law_draw K fd := F
  refine ⟨fd, F, fnD_of F sc_law_draw (fun cdv A fr s H E B => ?_) rfl, F.kp⟩
  exact ds_cons (ds_while 1100 B.po (DW.dt (dw_and (dt_eq B.room.units (de_rest 0 (units1 B.room)) de_int) (dw_and1 (dt_large 0 B.room.units)))) (ds_one (ds_popL 0 (units1 B.room))))
    (ds_cons (ds_if (dt_gt (de_rest 0 (units1 B.room)) de_int) (ds_cons (ds_set 2 sc_law_draw.nd rfl (.inl rfl) (de_mod (de_int_ rfl T.n_int (da_cons (de_rest 0 (units1 B.room)) da_nil)) (de_var 1))) (ds_cons (ds_rest 0 (units1 B.room) (de_fdiv (de_rest 0 (units1 B.room)) (de_var 1))) (ds_one (ds_ret (de_var 2))))) ds_nil)
    (ds_cons (ds_set 3 sc_law_draw.nd rfl (.inl rfl) (de_add (de_turn 0 (units1 B.room)) de_int))
    (ds_cons (ds_turn 0 (units1 B.room) (de_var 3))
    (ds_cons (ds_set 4 sc_law_draw.nd rfl (.inl rfl) (de_if (dt_cells 0 B.room.units) (de_cell 0 (units1 B.room) (de_mod (de_int_ rfl T.n_int (da_cons (de_var 3) da_nil)) (de_lenCells 0 (units1 B.room) rfl T.n_len)) (fun _ _ => rfl)) de_int))
    (ds_cons (ds_set 5 sc_law_draw.nd rfl (.inl rfl) (de_mod (de_int_ rfl T.n_int (da_cons (de_pow (de_add (de_add (de_mod (de_int_ rfl T.n_int (da_cons (de_var 4) da_nil)) de_int) (de_mul de_int (de_var 3))) de_int) de_int) da_nil)) de_int))
    (ds_one (ds_ret (de_mod (de_int_ rfl T.n_int (da_cons (de_fdiv (de_mod (de_int_ rfl T.n_int (da_cons (de_pow (de_add (de_var 5) (de_mul de_int (de_var 3))) de_int) da_nil)) de_int) de_int) da_nil)) (de_var 1)))))))))
/-! _law_pick -/
theorem sc_law_pick : FnScope ["_law_state", "_law_several"] ["_law_state", "_law_several"] (defScope s_law_pick) := ⟨rfl, rfl, rfl, by decide +kernel, rfl, by decide +kernel, by decide +kernel⟩
abbrev FP_law_pick (K : PySem.W.Frag) (fd : FuncData) : Prop := FunD K "_law_pick" "_law_pick" (defArgs s_law_pick) (defBody s_law_pick) (defScope s_law_pick) ([]) [] (He.ga K "_law_pick") fd
def mr_law_pick : List D → M D := runB 2 (sRet (m2 idxD (mVar 1) (mCall 2 mr_law_draw (mCons (mVar 0) (mCons (mA lenD (mCons (mVar 1) mNil)) mNil)) [])))
theorem ok_law_pick (T : TextF K mg) : ∃ fd, FP_law_pick K fd ∧ Own P w K mg base 2 (He.ga K "_law_pick") fd ["_law_state", "_law_several"] mr_law_pick := by
  obtain ⟨fd, F⟩ := T.says.d.def_ 2 (d := d_law_pick) rfl
  have F : FP_law_pick K fd := F
  obtain ⟨fd_law_draw, F_law_draw, O_law_draw⟩ := ok_law_draw (P := P) (w := w) (base := base) T
  have b_law_draw : Binds K fd_law_draw ["_law_state", "_law_size"] [] := F_law_draw.bindsN fun _ _ _ _ _ _ us hl => match us, hl with | [_, _], _ => rfl
  refine ⟨fd, F, fnD_of (k := 1) F sc_law_pick (fun cdv A fr s H E B => ?_) rfl, F.kp⟩
  exact (by exact ds_one (by exact ds_ret (by exact de_idx (by exact de_var 1) (by exact de_call (x := "_law_draw") (ps := ["_law_state", "_law_size"]) (g := mr_law_draw) (dds := []) (by exact O_law_draw.fn) (by exact B.room.mono (by decide)) (by exact B.gd) (by exact B.tk) (by rfl) (by exact T.g_law_draw) (by exact O_law_draw.kp) (by exact b_law_draw) (by exact .nil) (by exact fun _ _ => DenL.nil) (by exact da_cons (by exact de_var 0) (by exact da_cons (by exact de_len (by rfl) (by exact T.n_len) (by exact da_cons (by exact de_var 1) da_nil)) da_nil))) (by exact fun _ _ => rfl))))
/-! _law_odd -/
theorem sc_law_odd : FnScope ["_law_state", "_law_several"] ["_law_state"] (defScope s_law_odd) := ⟨rfl, rfl, rfl, by decide +kernel, rfl, by decide +kernel, by decide +kernel⟩
abbrev FP_law_odd (K : PySem.W.Frag) (fd : FuncData) : Prop := FunD K "_law_odd" "_law_odd" (defArgs s_law_odd) (defBody s_law_odd) (defScope s_law_odd) ([]) [] (He.ga K "_law_odd") fd
def mr_law_odd : List D → M D := runB 2 (sSeq (sSet 1 (mA lstD (mCons (mC .non) (mCons (mC (.bl true)) (mCons (mC (.bl false)) (mCons (m1 negD (mC (.int 1))) (mCons (mC (.int 0)) (mCons (mC (.int 1)) (mCons (mC (.int 7)) (mCons (m2 subD (m2 powD (mC (.int 10)) (mC (.int 9))) (mC (.int 99))) (mCons (m1 negD (m2 powD (mC (.int 10)) (mC (.int 9)))) (mCons (mC (.str "")) (mCons (mC (.str "a")) (mCons (mC (.str "A")) (mCons (mC (.str "abcdefghi")) (mCons (mC (.str "a b")) (mCons (mC (.str "days")) mNil)))))))))))))))))
    (sSeq (sSet 1 (m2 addD (mVar 1) (mA lstD (mCons (mA tupD mNil) (mCons (mA lstD mNil) (mCons (mC (.dic [] [])) (mCons (mA tupD (mCons (mC (.str "a")) mNil)) (mCons (mA lstD (mCons (mC (.str "a")) mNil)) (mCons (mA tupD (mCons (mC (.int 0)) (mCons (mC (.int 0)) mNil))) (mCons (mA lstD (mCons (mC (.int 0)) (mCons (mC .non) mNil))) (mCons (mA tupD (mCons (mC (.int 0)) (mCons (mC .non) mNil))) (mCons (mA tupD (mCons (mC (.int 0)) mNil)) (mCons (mA tupD (mCons (mA tupD mNil) mNil)) (mCons (mA (dicD [.inr "a"]) (mCons (mC (.int 0)) mNil)) (mCons (mA tupD (mCons (mC (.int 1)) (mCons (mC (.int 0)) mNil))) mNil)))))))))))))))
    (sRet (mCall 2 mr_law_pick (mCons (mVar 0) (mCons (m2 addD (mVar 1) (mA lstD (mCons (mA tupD (mCons (mC (.int 0)) (mCons (mC (.int 1)) (mCons (mC (.int 2)) mNil)))) (mCons (mA lstD (mCons (mC (.int 1)) (mCons (mC (.int 0)) mNil))) mNil)))) mNil)) []))))
theorem ok_law_odd (T : TextF K mg) : ∃ fd, FP_law_odd K fd ∧ Own P w K mg base 3 (He.ga K "_law_odd") fd ["_law_state"] mr_law_odd := by
  obtain ⟨fd, F⟩ := T.says.d.def_ 3 (d := d_law_odd) rfl
  have F : FP_law_odd K fd := F
  obtain ⟨fd_law_pick, F_law_pick, O_law_pick⟩ := ok_law_pick (P := P) (w := w) (base := base) T
  have b_law_pick : Binds K fd_law_pick ["_law_state", "_law_several"] [] := F_law_pick.bindsN fun _ _ _ _ _ _ us hl => match us, hl with | [_, _], _ => rfl
  refine ⟨fd, F, fnD_of (k := 2) F sc_law_odd (fun cdv A fr s H E B => ?_) rfl, F.kp⟩
  exact (by exact ds_cons (by exact ds_set 1 (by exact sc_law_odd.nd) (by rfl) (by first | exact .inl rfl | exact .inr rfl) (by exact de_lst (by exact da_cons de_non (by exact da_cons de_bl (by exact da_cons de_bl (by exact da_cons (by exact de_neg de_int) (by exact da_cons de_int (by exact da_cons de_int (by exact da_cons de_int (by exact da_cons (by exact de_sub (by exact de_pow de_int de_int) de_int) (by exact da_cons (by exact de_neg (by exact de_pow de_int de_int)) (by exact da_cons de_str (by exact da_cons de_str (by exact da_cons de_str (by exact da_cons de_str (by exact da_cons de_str (by exact da_cons de_str da_nil))))))))))))))))) (by exact ds_cons (by exact ds_set 1 (by exact sc_law_odd.nd) (by rfl) (by first | exact .inl rfl | exact .inr rfl) (by exact de_add (by exact de_var 1) (by exact de_lst (by exact da_cons (by exact de_tup da_nil) (by exact da_cons (by exact de_lst da_nil) (by exact da_cons de_dict0 (by exact da_cons (by exact de_tup (by exact da_cons de_str da_nil)) (by exact da_cons (by exact de_lst (by exact da_cons de_str da_nil)) (by exact da_cons (by exact de_tup (by exact da_cons de_int (by exact da_cons de_int da_nil))) (by exact da_cons (by exact de_lst (by exact da_cons de_int (by exact da_cons de_non da_nil))) (by exact da_cons (by exact de_tup (by exact da_cons de_int (by exact da_cons de_non da_nil))) (by exact da_cons (by exact de_tup (by exact da_cons de_int da_nil)) (by exact da_cons (by exact de_tup (by exact da_cons (by exact de_tup da_nil) da_nil)) (by exact da_cons (by exact de_dict (dp_cons (k := .inr "a") pe_str de_int dp_nil)) (by exact da_cons (by exact de_tup (by exact da_cons de_int (by exact da_cons de_int da_nil))) da_nil))))))))))))))) (by exact ds_one (by exact ds_ret (by exact de_call (x := "_law_pick") (ps := ["_law_state", "_law_several"]) (g := mr_law_pick) (dds := []) (by exact O_law_pick.fn) (by exact B.room.mono (by decide)) (by exact B.gd) (by exact B.tk) (by rfl) (by exact T.g_law_pick) (by exact O_law_pick.kp) (by exact b_law_pick) (by exact .nil) (by exact fun _ _ => DenL.nil) (by exact da_cons (by exact de_var 0) (by exact da_cons (by exact de_add (by exact de_var 1) (by exact de_lst (by exact da_cons (by exact de_tup (by exact da_cons de_int (by exact da_cons de_int (by exact da_cons de_int da_nil)))) (by exact da_cons (by exact de_lst (by exact da_cons de_int (by exact da_cons de_int da_nil))) da_nil)))) da_nil)))))))
/-! _law_near_span -/
theorem sc_law_near_span : FnScope ["_law_state", "_law_first", "_law_way", "_law_half", "_law_found"] ["_law_state"] (defScope s_law_near_span) := ⟨rfl, rfl, rfl, by decide +kernel, rfl, by decide +kernel, by decide +kernel⟩
abbrev FP_law_near_span (K : PySem.W.Frag) (fd : FuncData) : Prop := FunD K "_law_near_span" "_law_near_span" (defArgs s_law_near_span) (defBody s_law_near_span) (defScope s_law_near_span) ([]) [] (He.ga K "_law_near_span") fd
def mr_law_near_span : List D → M D := runB 5 (sSeq (sPar [1, 2, 3] (mCons (mCall 2 mr_law_draw (mCons (mVar 0) (mCons (mCall 2 mr_law_pick (mCons (mVar 0) (mCons (mA lstD (mCons (mC (.int 3)) (mCons (m2 subD (m2 powD (mC (.int 10)) (mC (.int 9))) (mC (.int 99))) mNil))) mNil)) []) mNil)) []) (mCons (mCall 2 mr_law_draw (mCons (mVar 0) (mCons (mC (.int 7)) mNil)) []) (mCons (mCall 2 mr_law_draw (mCons (mVar 0) (mCons (mC (.int 2)) mNil)) []) mNil))))
    (sSeq (sSetO 4 (fun t => do let xs ← (mCons (mVar 1) (mCons (mCall 2 mr_law_pick (mCons (mVar 0) (mCons (mA lstD (mCons (mC .non) (mCons (mVar 1) (mCons (m2 addD (mVar 1) (mC (.int 1))) (mCons (m2 subD (mVar 1) (mC (.int 1))) (mCons (m2 subD (m2 powD (mC (.int 10)) (mC (.int 9))) (mC (.int 99))) mNil)))))) mNil)) []) mNil)) t; sizeL xs))
    (sSeq (sIf (mT (m2 (eqD) (mVar 2) (mC (.int 0)))) (sPut 4 (mCall 1 mr_law_odd (mCons (mVar 0) mNil) []) (mVar 3)) sNil)
    (sSeq (sIf (mT (m2 (eqD) (mVar 2) (mC (.int 1)))) (sApp 4 (mC .non)) sNil)
    (sSeq (sIf (mT (m2 (eqD) (mVar 2) (mC (.int 2)))) (sPop 4 (mVar 3)) sNil)
    (sIce 4 (sRet (mIf (mT (m2 (eqD) (mVar 2) (mC (.int 3)))) (mA listD (mCons (mVar 4) mNil)) (mA tupleD (mCons (mVar 4) mNil))))))))))
theorem ok_law_near_span (T : TextF K mg) : ∃ fd, FP_law_near_span K fd ∧ Own P w K mg base 4 (He.ga K "_law_near_span") fd ["_law_state"] mr_law_near_span := by
  obtain ⟨fd, F⟩ := T.says.d.def_ 4 (d := d_law_near_span) rfl
  have F : FP_law_near_span K fd := F
  obtain ⟨fd_law_draw, F_law_draw, O_law_draw⟩ := ok_law_draw (P := P) (w := w) (base := base) T
  have b_law_draw : Binds K fd_law_draw ["_law_state", "_law_size"] [] := F_law_draw.bindsN fun _ _ _ _ _ _ us hl => match us, hl with | [_, _], _ => rfl
  obtain ⟨fd_law_pick, F_law_pick, O_law_pick⟩ := ok_law_pick (P := P) (w := w) (base := base) T
  have b_law_pick : Binds K fd_law_pick ["_law_state", "_law_several"] [] := F_law_pick.bindsN fun _ _ _ _ _ _ us hl => match us, hl with | [_, _], _ => rfl
  obtain ⟨fd_law_odd, F_law_odd, O_law_odd⟩ := ok_law_odd (P := P) (w := w) (base := base) T
  have b_law_odd : Binds K fd_law_odd ["_law_state"] [] := F_law_odd.bindsN fun _ _ _ _ _ _ us hl => match us, hl with | [_], _ => rfl
  refine ⟨fd, F, fnD_of (k := 3) F sc_law_near_span (fun cdv A fr s H E B => ?_) rfl, F.kp⟩
  exact (by exact ds_cons (by exact ds_par3 1 2 3 (by exact B.calm) (by exact sc_law_near_span.nd) (by rfl) (by rfl) (by rfl) (by decide) (by decide) (by decide) (by rfl) (by rfl) (by rfl) (by exact da_cons (by exact de_call (x := "_law_draw") (ps := ["_law_state", "_law_size"]) (g := mr_law_draw) (dds := []) (by exact O_law_draw.fn) (by exact B.room.mono (by decide)) (by exact B.gd) (by exact B.tk) (by rfl) (by exact T.g_law_draw) (by exact O_law_draw.kp) (by exact b_law_draw) (by exact .nil) (by exact fun _ _ => DenL.nil) (by exact da_cons (by exact de_var 0) (by exact da_cons (by exact de_call (x := "_law_pick") (ps := ["_law_state", "_law_several"]) (g := mr_law_pick) (dds := []) (by exact O_law_pick.fn) (by exact B.room.mono (by decide)) (by exact B.gd) (by exact B.tk) (by rfl) (by exact T.g_law_pick) (by exact O_law_pick.kp) (by exact b_law_pick) (by exact .nil) (by exact fun _ _ => DenL.nil) (by exact da_cons (by exact de_var 0) (by exact da_cons (by exact de_lst (by exact da_cons de_int (by exact da_cons (by exact de_sub (by exact de_pow de_int de_int) de_int) da_nil))) da_nil))) da_nil))) (by exact da_cons (by exact de_call (x := "_law_draw") (ps := ["_law_state", "_law_size"]) (g := mr_law_draw) (dds := []) (by exact O_law_draw.fn) (by exact B.room.mono (by decide)) (by exact B.gd) (by exact B.tk) (by rfl) (by exact T.g_law_draw) (by exact O_law_draw.kp) (by exact b_law_draw) (by exact .nil) (by exact fun _ _ => DenL.nil) (by exact da_cons (by exact de_var 0) (by exact da_cons de_int da_nil))) (by exact da_cons (by exact de_call (x := "_law_draw") (ps := ["_law_state", "_law_size"]) (g := mr_law_draw) (dds := []) (by exact O_law_draw.fn) (by exact B.room.mono (by decide)) (by exact B.gd) (by exact B.tk) (by rfl) (by exact T.g_law_draw) (by exact O_law_draw.kp) (by exact b_law_draw) (by exact .nil) (by exact fun _ _ => DenL.nil) (by exact da_cons (by exact de_var 0) (by exact da_cons de_int da_nil))) da_nil)))) (by exact ds_cons (by exact ds_setO 4 (by exact sc_law_near_span.nd) (by rfl) (by first | exact .inl rfl | exact .inr rfl) (df_lst (by exact da_cons (by exact de_var 1) (by exact da_cons (by exact de_call (x := "_law_pick") (ps := ["_law_state", "_law_several"]) (g := mr_law_pick) (dds := []) (by exact O_law_pick.fn) (by exact B.room.mono (by decide)) (by exact B.gd) (by exact B.tk) (by rfl) (by exact T.g_law_pick) (by exact O_law_pick.kp) (by exact b_law_pick) (by exact .nil) (by exact fun _ _ => DenL.nil) (by exact da_cons (by exact de_var 0) (by exact da_cons (by exact de_lst (by exact da_cons de_non (by exact da_cons (by exact de_var 1) (by exact da_cons (by exact de_add (by exact de_var 1) de_int) (by exact da_cons (by exact de_sub (by exact de_var 1) de_int) (by exact da_cons (by exact de_sub (by exact de_pow de_int de_int) de_int) da_nil)))))) da_nil))) da_nil)))) (by exact ds_cons (by exact ds_if (by exact dt_eq (by exact B.room.units) (by exact de_var 2) de_int) (by exact ds_one (by exact ds_setitem 4 (he := (by exact de_call (x := "_law_odd") (ps := ["_law_state"]) (g := mr_law_odd) (dds := []) (by exact O_law_odd.fn) (by exact B.room.mono (by decide)) (by exact B.gd) (by exact B.tk) (by rfl) (by exact T.g_law_odd) (by exact O_law_odd.kp) (by exact b_law_odd) (by exact .nil) (by exact fun _ _ => DenL.nil) (by exact da_cons (by exact de_var 0) da_nil))) (hb := (by exact de_var 3)))) ds_nil) (by exact ds_cons (by exact ds_if (by exact dt_eq (by exact B.room.units) (by exact de_var 2) de_int) (by exact ds_one (by exact ds_append 4 (he := de_non))) ds_nil) (by exact ds_cons (by exact ds_if (by exact dt_eq (by exact B.room.units) (by exact de_var 2) de_int) (by exact ds_one (by exact ds_popAt 4 (he := (by exact de_var 3)))) ds_nil) (by exact ds_freeze 4 (by exact ds_one (by exact ds_ret (by exact de_if (by exact dt_eq (by exact B.room.units) (by exact de_var 2) de_int) (by exact de_list_ (by rfl) (by exact T.n_list) (by exact da_cons (by exact de_var 4) da_nil)) (by exact de_tuple_ (by rfl) (by exact T.n_tuple) (by exact da_cons (by exact de_var 4) da_nil)))))))))))
/-! _law_letters -/
theorem sc_law_letters : FnScope [] [] (defScope s_law_letters) := ⟨rfl, rfl, rfl, by decide +kernel, rfl, by decide +kernel, by decide +kernel⟩
abbrev FP_law_letters (K : PySem.W.Frag) (fd : FuncData) : Prop := FunD K "_law_letters" "_law_letters" (defArgs s_law_letters) (defBody s_law_letters) (defScope s_law_letters) ([]) [] (He.ga K "_law_letters") fd
def mr_law_letters : List D → M D := runB 0 (sRet (mC (.str "abcdefghijklmnopqrstuvwxyz")))
theorem ok_law_letters (T : TextF K mg) : ∃ fd, FP_law_letters K fd ∧ Own P w K mg base 1 (He.ga K "_law_letters") fd [] mr_law_letters := by
  obtain ⟨fd, F⟩ := T.says.d.def_ 5 (d := d_law_letters) rfl
  have F : FP_law_letters K fd := F
  refine ⟨fd, F, fnD_of (k := 0) F sc_law_letters (fun cdv A fr s H E B => ?_) rfl, F.kp⟩
  exact (by exact ds_one (by exact ds_ret de_str))
/-! _law_called -/
theorem sc_law_called : FnScope ["_law_state", "_law_several", "_law_turn"] ["_law_state"] (defScope s_law_called) := ⟨rfl, rfl, rfl, by decide +kernel, rfl, by decide +kernel, by decide +kernel⟩
abbrev FP_law_called (K : PySem.W.Frag) (fd : FuncData) : Prop := FunD K "_law_called" "_law_called" (defArgs s_law_called) (defBody s_law_called) (defScope s_law_called) ([]) [] (He.ga K "_law_called") fd
def mr_law_called : List D → M D := runB 3 (sSeq (sSet 1 (mA lstD (mCons (mC (.str "a")) (mCons (mC (.str "b")) (mCons (mC (.str "ab")) (mCons (mC (.str "ann")) (mCons (mC (.str "tea")) (mCons (mC (.str "put")) (mCons (mC (.str "take")) (mCons (mC (.str "end")) (mCons (mC (.str "none")) (mCons (mC (.str "all")) (mCons (mC (.str "row")) (mCons (mC (.str "newest")) (mCons (mC (.str "zzzzzzzz")) mNil)))))))))))))))
    (sSeq (sIf (mT (m2 (gtD) (mCall 2 mr_law_draw (mCons (mVar 0) (mCons (mC (.int 3)) mNil)) []) (mC (.int 0)))) (sRet (mCall 2 mr_law_pick (mCons (mVar 0) (mCons (m2 addD (mVar 1) (mA lstD (mCons (mC (.str "zzzzzzz")) mNil))) mNil)) [])) sNil)
    (sRet (mJoin (mC (.str "")) (mLst (lcF [2] (.nm 2) (iRange1 (m2 addD (mC (.int 1)) (mCall 2 mr_law_draw (mCons (mVar 0) (mCons (mC (.int 8)) mNil)) []))) tYesM (mCall 2 mr_law_pick (mCons (mVar 0) (mCons (fun _ => argsD 0 mr_law_letters []) mNil)) [])))))))
theorem ok_law_called (T : TextF K mg) : ∃ fd, FP_law_called K fd ∧ Own P w K mg base 3 (He.ga K "_law_called") fd ["_law_state"] mr_law_called := by
  obtain ⟨fd, F⟩ := T.says.d.def_ 6 (d := d_law_called) rfl
  have F : FP_law_called K fd := F
  obtain ⟨fd_law_draw, F_law_draw, O_law_draw⟩ := ok_law_draw (P := P) (w := w) (base := base) T
  have b_law_draw : Binds K fd_law_draw ["_law_state", "_law_size"] [] := F_law_draw.bindsN fun _ _ _ _ _ _ us hl => match us, hl with | [_, _], _ => rfl
  obtain ⟨fd_law_pick, F_law_pick, O_law_pick⟩ := ok_law_pick (P := P) (w := w) (base := base) T
  have b_law_pick : Binds K fd_law_pick ["_law_state", "_law_several"] [] := F_law_pick.bindsN fun _ _ _ _ _ _ us hl => match us, hl with | [_, _], _ => rfl
  obtain ⟨fd_law_letters, F_law_letters, O_law_letters⟩ := ok_law_letters (P := P) (w := w) (base := base) T
  have b_law_letters : Binds K fd_law_letters [] [] := F_law_letters.bindsN fun _ _ _ _ _ _ us hl => match us, hl with | [], _ => rfl
  refine ⟨fd, F, fnD_of (k := 2) F sc_law_called (fun cdv A fr s H E B => ?_) rfl, F.kp⟩
  exact (by exact ds_cons (by exact ds_set 1 (by exact sc_law_called.nd) (by rfl) (by first | exact .inl rfl | exact .inr rfl) (by exact de_lst (by exact da_cons de_str (by exact da_cons de_str (by exact da_cons de_str (by exact da_cons de_str (by exact da_cons de_str (by exact da_cons de_str (by exact da_cons de_str (by exact da_cons de_str (by exact da_cons de_str (by exact da_cons de_str (by exact da_cons de_str (by exact da_cons de_str (by exact da_cons de_str da_nil))))))))))))))) (by exact ds_cons (by exact ds_if (by exact dt_gt (by exact de_call (x := "_law_draw") (ps := ["_law_state", "_law_size"]) (g := mr_law_draw) (dds := []) (by exact O_law_draw.fn) (by exact B.room.mono (by decide)) (by exact B.gd) (by exact B.tk) (by rfl) (by exact T.g_law_draw) (by exact O_law_draw.kp) (by exact b_law_draw) (by exact .nil) (by exact fun _ _ => DenL.nil) (by exact da_cons (by exact de_var 0) (by exact da_cons de_int da_nil))) de_int) (by exact ds_one (by exact ds_ret (by exact de_call (x := "_law_pick") (ps := ["_law_state", "_law_several"]) (g := mr_law_pick) (dds := []) (by exact O_law_pick.fn) (by exact B.room.mono (by decide)) (by exact B.gd) (by exact B.tk) (by rfl) (by exact T.g_law_pick) (by exact O_law_pick.kp) (by exact b_law_pick) (by exact .nil) (by exact fun _ _ => DenL.nil) (by exact da_cons (by exact de_var 0) (by exact da_cons (by exact de_add (by exact de_var 1) (by exact de_lst (by exact da_cons de_str da_nil))) da_nil))))) ds_nil) (by exact ds_one (by exact ds_ret (by exact de_join de_str (by exact DF.de (by exact df_lc (T := (.nm 2)) (by exact B.calm) (by exact sc_law_called.nd) (by exact di_range1 (by rfl) (by exact T.n_range) (by exact de_add de_int (by exact de_call (x := "_law_draw") (ps := ["_law_state", "_law_size"]) (g := mr_law_draw) (dds := []) (by exact O_law_draw.fn) (by exact B.room.mono (by decide)) (by exact B.gd) (by exact B.tk) (by rfl) (by exact T.g_law_draw) (by exact O_law_draw.kp) (by exact b_law_draw) (by exact .nil) (by exact fun _ _ => DenL.nil) (by exact da_cons (by exact de_var 0) (by exact da_cons de_int da_nil))))) (blkOk_by (own := [("_law_turn", 2)]) (by first | decide +kernel | kernel_rfl)) (by intro _ _ _ _ _; exact (by exact pg_name (by exact sc_law_called.nd) (by rfl) (by first | exact .inl rfl | exact .inr rfl))) (by intro _ _ _ _ _; exact pts_yes) (by intro _ _ _ _ _; exact (by exact de_call (x := "_law_pick") (ps := ["_law_state", "_law_several"]) (g := mr_law_pick) (dds := []) (by exact O_law_pick.fn) (by exact B.room.mono (by decide)) (by exact B.gd) (by exact takes0) (by rfl) (by exact T.g_law_pick) (by exact O_law_pick.kp) (by exact b_law_pick) (by exact .nil) (by exact fun _ _ => DenL.nil) (by exact da_cons (by exact de_var 0) (by exact da_cons (by exact de_call0 (x := "_law_letters") (ps := []) (g := mr_law_letters) (dds := []) (by exact O_law_letters.fn) (by exact B.room.mono (by decide)) (by exact B.gd) (by exact takes0) (by rfl) (by exact T.g_law_letters) (by exact O_law_letters.kp) (by exact b_law_letters) (by exact .nil) (by exact fun _ _ => DenL.nil)) da_nil)))) (by decide))))))))
/-! _law_signs -/
theorem sc_law_signs : FnScope ["_law_signs_here"] [] (defScope s_law_signs) := ⟨rfl, rfl, rfl, by decide +kernel, rfl, by decide +kernel, by decide +kernel⟩
abbrev FP_law_signs (K : PySem.W.Frag) (fd : FuncData) : Prop := FunD K "_law_signs" "_law_signs" (defArgs s_law_signs) (defBody s_law_signs) (defScope s_law_signs) ([]) [] (He.ga K "_law_signs") fd
def mr_law_signs : List D → M D := runB 1 (sSeq (sSet 0 (mC (.str "\n !#$&'()*+,-./0123456789:;<=>?@ABCDEFGHIJKLMNOPQRSTUVWXYZ[]^_`")))
    (sRet (m2 addD (m2 addD (mVar 0) (fun _ => argsD 0 mr_law_letters [])) (mC (.str "{|}~")))))
theorem ok_law_signs (T : TextF K mg) : ∃ fd, FP_law_signs K fd ∧ Own P w K mg base 2 (He.ga K "_law_signs") fd [] mr_law_signs := by
  obtain ⟨fd, F⟩ := T.says.d.def_ 7 (d := d_law_signs) rfl
  have F : FP_law_signs K fd := F
  obtain ⟨fd_law_letters, F_law_letters, O_law_letters⟩ := ok_law_letters (P := P) (w := w) (base := base) T
  have b_law_letters : Binds K fd_law_letters [] [] := F_law_letters.bindsN fun _ _ _ _ _ _ us hl => match us, hl with | [], _ => rfl
  refine ⟨fd, F, fnD_of (k := 1) F sc_law_signs (fun cdv A fr s H E B => ?_) rfl, F.kp⟩
  exact (by exact ds_cons (by exact ds_set 0 (by exact sc_law_signs.nd) (by rfl) (by first | exact .inl rfl | exact .inr rfl) de_str) (by exact ds_one (by exact ds_ret (by exact de_add (by exact de_add (by exact de_var 0) (by exact de_call0 (x := "_law_letters") (ps := []) (g := mr_law_letters) (dds := []) (by exact O_law_letters.fn) (by exact B.room.mono (by decide)) (by exact B.gd) (by exact B.tk) (by rfl) (by exact T.g_law_letters) (by exact O_law_letters.kp) (by exact b_law_letters) (by exact .nil) (by exact fun _ _ => DenL.nil))) de_str))))
/-! _law_near_name -/
theorem sc_law_near_name : FnScope ["_law_state", "_law_found", "_law_way", "_law_spot"] ["_law_state"] (defScope s_law_near_name) := ⟨rfl, rfl, rfl, by decide +kernel, rfl, by decide +kernel, by decide +kernel⟩
abbrev FP_law_near_name (K : PySem.W.Frag) (fd : FuncData) : Prop := FunD K "_law_near_name" "_law_near_name" (defArgs s_law_near_name) (defBody s_law_near_name) (defScope s_law_near_name) ([]) [] (He.ga K "_law_near_name") fd
def mr_law_near_name : List D → M D := runB 4 (sSeq (sPar [1, 2] (mCons (mCall 1 mr_law_called (mCons (mVar 0) mNil) []) (mCons (mCall 2 mr_law_draw (mCons (mVar 0) (mCons (mC (.int 4)) mNil)) []) mNil)))
    (sSeq (sSet 3 (mCall 2 mr_law_draw (mCons (mVar 0) (mCons (m2 addD (mA lenD (mCons (mVar 1) mNil)) (mC (.int 1))) mNil)) []))
    (sSeq (sIf (mT (m2 (eqD) (mVar 2) (mC (.int 0)))) (sRet (m2 addD (m2 addD (mSlice (mVar 1) oNone (oSome (mVar 3))) (mCall 2 mr_law_pick (mCons (mVar 0) (mCons (fun _ => argsD 0 mr_law_signs []) mNil)) [])) (mSlice (mVar 1) (oSome (mVar 3)) oNone))) sNil)
    (sSeq (sIf (mT (m2 (eqD) (mVar 2) (mC (.int 1)))) (sRet (mSlice (m2 addD (mVar 1) (mC (.str "abcdefghi"))) oNone (oSome (m2 addD (mC (.int 7)) (mCall 2 mr_law_draw (mCons (mVar 0) (mCons (mC (.int 3)) mNil)) []))))) sNil)
    (sRet (mIf (mT (m2 (eqD) (mVar 2) (mC (.int 2)))) (mSlice (mVar 1) oNone (oSome (mVar 3))) (mVar 1)))))))
theorem ok_law_near_name (T : TextF K mg) : ∃ fd, FP_law_near_name K fd ∧ Own P w K mg base 4 (He.ga K "_law_near_name") fd ["_law_state"] mr_law_near_name := by
  obtain ⟨fd, F⟩ := T.says.d.def_ 8 (d := d_law_near_name) rfl
  have F : FP_law_near_name K fd := F
  obtain ⟨fd_law_draw, F_law_draw, O_law_draw⟩ := ok_law_draw (P := P) (w := w) (base := base) T
  have b_law_draw : Binds K fd_law_draw ["_law_state", "_law_size"] [] := F_law_draw.bindsN fun _ _ _ _ _ _ us hl => match us, hl with | [_, _], _ => rfl
  obtain ⟨fd_law_called, F_law_called, O_law_called⟩ := ok_law_called (P := P) (w := w) (base := base) T
  have b_law_called : Binds K fd_law_called ["_law_state"] [] := F_law_called.bindsN fun _ _ _ _ _ _ us hl => match us, hl with | [_], _ => rfl
  obtain ⟨fd_law_pick, F_law_pick, O_law_pick⟩ := ok_law_pick (P := P) (w := w) (base := base) T
  have b_law_pick : Binds K fd_law_pick ["_law_state", "_law_several"] [] := F_law_pick.bindsN fun _ _ _ _ _ _ us hl => match us, hl with | [_, _], _ => rfl
  obtain ⟨fd_law_signs, F_law_signs, O_law_signs⟩ := ok_law_signs (P := P) (w := w) (base := base) T
  have b_law_signs : Binds K fd_law_signs [] [] := F_law_signs.bindsN fun _ _ _ _ _ _ us hl => match us, hl with | [], _ => rfl
  refine ⟨fd, F, fnD_of (k := 3) F sc_law_near_name (fun cdv A fr s H E B => ?_) rfl, F.kp⟩
  exact (by exact ds_cons (by exact ds_par2 1 2 (by exact B.calm) (by exact sc_law_near_name.nd) (by rfl) (by rfl) (by decide) (by rfl) (by rfl) (by exact da_cons (by exact de_call (x := "_law_called") (ps := ["_law_state"]) (g := mr_law_called) (dds := []) (by exact O_law_called.fn) (by exact B.room.mono (by decide)) (by exact B.gd) (by exact B.tk) (by rfl) (by exact T.g_law_called) (by exact O_law_called.kp) (by exact b_law_called) (by exact .nil) (by exact fun _ _ => DenL.nil) (by exact da_cons (by exact de_var 0) da_nil)) (by exact da_cons (by exact de_call (x := "_law_draw") (ps := ["_law_state", "_law_size"]) (g := mr_law_draw) (dds := []) (by exact O_law_draw.fn) (by exact B.room.mono (by decide)) (by exact B.gd) (by exact B.tk) (by rfl) (by exact T.g_law_draw) (by exact O_law_draw.kp) (by exact b_law_draw) (by exact .nil) (by exact fun _ _ => DenL.nil) (by exact da_cons (by exact de_var 0) (by exact da_cons de_int da_nil))) da_nil))) (by exact ds_cons (by exact ds_set 3 (by exact sc_law_near_name.nd) (by rfl) (by first | exact .inl rfl | exact .inr rfl) (by exact de_call (x := "_law_draw") (ps := ["_law_state", "_law_size"]) (g := mr_law_draw) (dds := []) (by exact O_law_draw.fn) (by exact B.room.mono (by decide)) (by exact B.gd) (by exact B.tk) (by rfl) (by exact T.g_law_draw) (by exact O_law_draw.kp) (by exact b_law_draw) (by exact .nil) (by exact fun _ _ => DenL.nil) (by exact da_cons (by exact de_var 0) (by exact da_cons (by exact de_add (by exact de_len (by rfl) (by exact T.n_len) (by exact da_cons (by exact de_var 1) da_nil)) de_int) da_nil)))) (by exact ds_cons (by exact ds_if (by exact dt_eq (by exact B.room.units) (by exact de_var 2) de_int) (by exact ds_one (by exact ds_ret (by exact de_add (by exact de_add (by exact de_slice (by exact de_var 1) do_none (do_some (by exact de_var 3))) (by exact de_call (x := "_law_pick") (ps := ["_law_state", "_law_several"]) (g := mr_law_pick) (dds := []) (by exact O_law_pick.fn) (by exact B.room.mono (by decide)) (by exact B.gd) (by exact B.tk) (by rfl) (by exact T.g_law_pick) (by exact O_law_pick.kp) (by exact b_law_pick) (by exact .nil) (by exact fun _ _ => DenL.nil) (by exact da_cons (by exact de_var 0) (by exact da_cons (by exact de_call0 (x := "_law_signs") (ps := []) (g := mr_law_signs) (dds := []) (by exact O_law_signs.fn) (by exact B.room.mono (by decide)) (by exact B.gd) (by exact B.tk) (by rfl) (by exact T.g_law_signs) (by exact O_law_signs.kp) (by exact b_law_signs) (by exact .nil) (by exact fun _ _ => DenL.nil)) da_nil)))) (by exact de_slice (by exact de_var 1) (do_some (by exact de_var 3)) do_none)))) ds_nil) (by exact ds_cons (by exact ds_if (by exact dt_eq (by exact B.room.units) (by exact de_var 2) de_int) (by exact ds_one (by exact ds_ret (by exact de_slice (by exact de_add (by exact de_var 1) de_str) do_none (do_some (by exact de_add de_int (by exact de_call (x := "_law_draw") (ps := ["_law_state", "_law_size"]) (g := mr_law_draw) (dds := []) (by exact O_law_draw.fn) (by exact B.room.mono (by decide)) (by exact B.gd) (by exact B.tk) (by rfl) (by exact T.g_law_draw) (by exact O_law_draw.kp) (by exact b_law_draw) (by exact .nil) (by exact fun _ _ => DenL.nil) (by exact da_cons (by exact de_var 0) (by exact da_cons de_int da_nil)))))))) ds_nil) (by exact ds_one (by exact ds_ret (by exact de_if (by exact dt_eq (by exact B.room.units) (by exact de_var 2) de_int) (by exact de_slice (by exact de_var 1) do_none (do_some (by exact de_var 3))) (by exact de_var 1))))))))
/-! _law_near_deal -/
theorem sc_law_near_deal : FnScope ["_law_state", "_law_found", "_law_way", "_law_spot", "_law_half"] ["_law_state"] (defScope s_law_near_deal) := ⟨rfl, rfl, rfl, by decide +kernel, rfl, by decide +kernel, by decide +kernel⟩
abbrev FP_law_near_deal (K : PySem.W.Frag) (fd : FuncData) : Prop := FunD K "_law_near_deal" "_law_near_deal" (defArgs s_law_near_deal) (defBody s_law_near_deal) (defScope s_law_near_deal) ([]) [] (He.ga K "_law_near_deal") fd
def mr_law_near_deal : List D → M D := runB 5 (sSeq (sSetO 1 (fun t => do let xs ← (mCons (mCall 1 mr_law_called (mCons (mVar 0) mNil) []) (mCons (mCall 1 mr_law_called (mCons (mVar 0) mNil) []) (mCons (mCall 2 mr_law_draw (mCons (mVar 0) (mCons (mC (.int 5)) mNil)) []) (mCons (mCall 2 mr_law_draw (mCons (mVar 0) (mCons (m2 addD (m2 powD (mC (.int 10)) (mC (.int 12))) (mC (.int 1))) mNil)) []) mNil)))) t; sizeL xs))
    (sSeq (sPar [2, 3, 4] (mCons (mCall 2 mr_law_draw (mCons (mVar 0) (mCons (mC (.int 8)) mNil)) []) (mCons (mCall 2 mr_law_draw (mCons (mVar 0) (mCons (mC (.int 4)) mNil)) []) (mCons (mCall 2 mr_law_draw (mCons (mVar 0) (mCons (mC (.int 2)) mNil)) []) mNil))))
    (sSeq (sIf (mT (m2 (eqD) (mVar 2) (mC (.int 0)))) (sPut 1 (mCall 1 mr_law_odd (mCons (mVar 0) mNil) []) (mVar 3)) sNil)
    (sSeq (sIf (mT (m2 (eqD) (mVar 2) (mC (.int 1)))) (sPut 1 (mCall 1 mr_law_near_name (mCons (mVar 0) mNil) []) (mVar 4)) sNil)
    (sSeq (sIf (mT (m2 (eqD) (mVar 2) (mC (.int 2)))) (sPut 1 (mCall 2 mr_law_pick (mCons (mVar 0) (mCons (mA lstD (mCons (m1 negD (mC (.int 1))) (mCons (mC (.int 0)) (mCons (mC (.bl true)) (mCons (mC .non) (mCons (mC (.str "1")) (mCons (mA tupD (mCons (mC (.int 0)) mNil)) mNil))))))) mNil)) []) (m2 addD (mC (.int 2)) (mVar 4))) sNil)
    (sSeq (sIf (mT (m2 (eqD) (mVar 2) (mC (.int 3)))) (sApp 1 (mCallO 1 mr_law_pick (mVar 0))) sNil)
    (sSeq (sIf (mT (m2 (eqD) (mVar 2) (mC (.int 4)))) (sPop 1 (mVar 3)) sNil)
    (sIce 1 (sRet (mIf (mT (m2 (eqD) (mVar 2) (mC (.int 5)))) (mA listD (mCons (mVar 1) mNil)) (mA tupleD (mCons (mVar 1) mNil))))))))))))
theorem ok_law_near_deal (T : TextF K mg) : ∃ fd, FP_law_near_deal K fd ∧ Own P w K mg base 5 (He.ga K "_law_near_deal") fd ["_law_state"] mr_law_near_deal := by
  obtain ⟨fd, F⟩ := T.says.d.def_ 9 (d := d_law_near_deal) rfl
  have F : FP_law_near_deal K fd := F
  obtain ⟨fd_law_draw, F_law_draw, O_law_draw⟩ := ok_law_draw (P := P) (w := w) (base := base) T
  have b_law_draw : Binds K fd_law_draw ["_law_state", "_law_size"] [] := F_law_draw.bindsN fun _ _ _ _ _ _ us hl => match us, hl with | [_, _], _ => rfl
  obtain ⟨fd_law_called, F_law_called, O_law_called⟩ := ok_law_called (P := P) (w := w) (base := base) T
  have b_law_called : Binds K fd_law_called ["_law_state"] [] := F_law_called.bindsN fun _ _ _ _ _ _ us hl => match us, hl with | [_], _ => rfl
  obtain ⟨fd_law_odd, F_law_odd, O_law_odd⟩ := ok_law_odd (P := P) (w := w) (base := base) T
  have b_law_odd : Binds K fd_law_odd ["_law_state"] [] := F_law_odd.bindsN fun _ _ _ _ _ _ us hl => match us, hl with | [_], _ => rfl
  obtain ⟨fd_law_near_name, F_law_near_name, O_law_near_name⟩ := ok_law_near_name (P := P) (w := w) (base := base) T
  have b_law_near_name : Binds K fd_law_near_name ["_law_state"] [] := F_law_near_name.bindsN fun _ _ _ _ _ _ us hl => match us, hl with | [_], _ => rfl
  obtain ⟨fd_law_pick, F_law_pick, O_law_pick⟩ := ok_law_pick (P := P) (w := w) (base := base) T
  have b_law_pick : Binds K fd_law_pick ["_law_state", "_law_several"] [] := F_law_pick.bindsN fun _ _ _ _ _ _ us hl => match us, hl with | [_, _], _ => rfl
  refine ⟨fd, F, fnD_of (k := 4) F sc_law_near_deal (fun cdv A fr s H E B => ?_) rfl, F.kp⟩
  exact (by exact ds_cons (by exact ds_setO 1 (by exact sc_law_near_deal.nd) (by rfl) (by first | exact .inl rfl | exact .inr rfl) (df_lst (by exact da_cons (by exact de_call (x := "_law_called") (ps := ["_law_state"]) (g := mr_law_called) (dds := []) (by exact O_law_called.fn) (by exact B.room.mono (by decide)) (by exact B.gd) (by exact B.tk) (by rfl) (by exact T.g_law_called) (by exact O_law_called.kp) (by exact b_law_called) (by exact .nil) (by exact fun _ _ => DenL.nil) (by exact da_cons (by exact de_var 0) da_nil)) (by exact da_cons (by exact de_call (x := "_law_called") (ps := ["_law_state"]) (g := mr_law_called) (dds := []) (by exact O_law_called.fn) (by exact B.room.mono (by decide)) (by exact B.gd) (by exact B.tk) (by rfl) (by exact T.g_law_called) (by exact O_law_called.kp) (by exact b_law_called) (by exact .nil) (by exact fun _ _ => DenL.nil) (by exact da_cons (by exact de_var 0) da_nil)) (by exact da_cons (by exact de_call (x := "_law_draw") (ps := ["_law_state", "_law_size"]) (g := mr_law_draw) (dds := []) (by exact O_law_draw.fn) (by exact B.room.mono (by decide)) (by exact B.gd) (by exact B.tk) (by rfl) (by exact T.g_law_draw) (by exact O_law_draw.kp) (by exact b_law_draw) (by exact .nil) (by exact fun _ _ => DenL.nil) (by exact da_cons (by exact de_var 0) (by exact da_cons de_int da_nil))) (by exact da_cons (by exact de_call (x := "_law_draw") (ps := ["_law_state", "_law_size"]) (g := mr_law_draw) (dds := []) (by exact O_law_draw.fn) (by exact B.room.mono (by decide)) (by exact B.gd) (by exact B.tk) (by rfl) (by exact T.g_law_draw) (by exact O_law_draw.kp) (by exact b_law_draw) (by exact .nil) (by exact fun _ _ => DenL.nil) (by exact da_cons (by exact de_var 0) (by exact da_cons (by exact de_add (by exact de_pow de_int de_int) de_int) da_nil))) da_nil)))))) (by exact ds_cons (by exact ds_par3 2 3 4 (by exact B.calm) (by exact sc_law_near_deal.nd) (by rfl) (by rfl) (by rfl) (by decide) (by decide) (by decide) (by rfl) (by rfl) (by rfl) (by exact da_cons (by exact de_call (x := "_law_draw") (ps := ["_law_state", "_law_size"]) (g := mr_law_draw) (dds := []) (by exact O_law_draw.fn) (by exact B.room.mono (by decide)) (by exact B.gd) (by exact B.tk) (by rfl) (by exact T.g_law_draw) (by exact O_law_draw.kp) (by exact b_law_draw) (by exact .nil) (by exact fun _ _ => DenL.nil) (by exact da_cons (by exact de_var 0) (by exact da_cons de_int da_nil))) (by exact da_cons (by exact de_call (x := "_law_draw") (ps := ["_law_state", "_law_size"]) (g := mr_law_draw) (dds := []) (by exact O_law_draw.fn) (by exact B.room.mono (by decide)) (by exact B.gd) (by exact B.tk) (by rfl) (by exact T.g_law_draw) (by exact O_law_draw.kp) (by exact b_law_draw) (by exact .nil) (by exact fun _ _ => DenL.nil) (by exact da_cons (by exact de_var 0) (by exact da_cons de_int da_nil))) (by exact da_cons (by exact de_call (x := "_law_draw") (ps := ["_law_state", "_law_size"]) (g := mr_law_draw) (dds := []) (by exact O_law_draw.fn) (by exact B.room.mono (by decide)) (by exact B.gd) (by exact B.tk) (by rfl) (by exact T.g_law_draw) (by exact O_law_draw.kp) (by exact b_law_draw) (by exact .nil) (by exact fun _ _ => DenL.nil) (by exact da_cons (by exact de_var 0) (by exact da_cons de_int da_nil))) da_nil)))) (by exact ds_cons (by exact ds_if (by exact dt_eq (by exact B.room.units) (by exact de_var 2) de_int) (by exact ds_one (by exact ds_setitem 1 (he := (by exact de_call (x := "_law_odd") (ps := ["_law_state"]) (g := mr_law_odd) (dds := []) (by exact O_law_odd.fn) (by exact B.room.mono (by decide)) (by exact B.gd) (by exact B.tk) (by rfl) (by exact T.g_law_odd) (by exact O_law_odd.kp) (by exact b_law_odd) (by exact .nil) (by exact fun _ _ => DenL.nil) (by exact da_cons (by exact de_var 0) da_nil))) (hb := (by exact de_var 3)))) ds_nil) (by exact ds_cons (by exact ds_if (by exact dt_eq (by exact B.room.units) (by exact de_var 2) de_int) (by exact ds_one (by exact ds_setitem 1 (he := (by exact de_call (x := "_law_near_name") (ps := ["_law_state"]) (g := mr_law_near_name) (dds := []) (by exact O_law_near_name.fn) (by exact B.room.mono (by decide)) (by exact B.gd) (by exact B.tk) (by rfl) (by exact T.g_law_near_name) (by exact O_law_near_name.kp) (by exact b_law_near_name) (by exact .nil) (by exact fun _ _ => DenL.nil) (by exact da_cons (by exact de_var 0) da_nil))) (hb := (by exact de_var 4)))) ds_nil) (by exact ds_cons (by exact ds_if (by exact dt_eq (by exact B.room.units) (by exact de_var 2) de_int) (by exact ds_one (by exact ds_setitem 1 (he := (by exact de_call (x := "_law_pick") (ps := ["_law_state", "_law_several"]) (g := mr_law_pick) (dds := []) (by exact O_law_pick.fn) (by exact B.room.mono (by decide)) (by exact B.gd) (by exact B.tk) (by rfl) (by exact T.g_law_pick) (by exact O_law_pick.kp) (by exact b_law_pick) (by exact .nil) (by exact fun _ _ => DenL.nil) (by exact da_cons (by exact de_var 0) (by exact da_cons (by exact de_lst (by exact da_cons (by exact de_neg de_int) (by exact da_cons de_int (by exact da_cons de_bl (by exact da_cons de_non (by exact da_cons de_str (by exact da_cons (by exact de_tup (by exact da_cons de_int da_nil)) da_nil))))))) da_nil)))) (hb := (by exact de_add de_int (by exact de_var 4))))) ds_nil) (by exact ds_cons (by exact ds_if (by exact dt_eq (by exact B.room.units) (by exact de_var 2) de_int) (by exact ds_one (by exact ds_append 1 (he := (by exact de_callO (y := "_law_pick") (ps := ["_law_state", "_law_several"]) (g := mr_law_pick) 1 (by exact O_law_pick.fn) (by rfl) (by exact B.room.mono (by decide)) (by exact B.gd) (by exact B.tk) (by rfl) (by exact T.g_law_pick) (by exact O_law_pick.kp) (by exact b_law_pick) (by exact de_var 0))))) ds_nil) (by exact ds_cons (by exact ds_if (by exact dt_eq (by exact B.room.units) (by exact de_var 2) de_int) (by exact ds_one (by exact ds_popAt 1 (he := (by exact de_var 3)))) ds_nil) (by exact ds_freeze 1 (by exact ds_one (by exact ds_ret (by exact de_if (by exact dt_eq (by exact B.room.units) (by exact de_var 2) de_int) (by exact de_list_ (by rfl) (by exact T.n_list) (by exact da_cons (by exact de_var 1) da_nil)) (by exact de_tuple_ (by rfl) (by exact T.n_tuple) (by exact da_cons (by exact de_var 1) da_nil)))))))))))))
/-! _law_is_count -/
theorem sc_law_is_count : FnScope ["_law_item"] ["_law_item"] (defScope s_law_is_count) := ⟨rfl, rfl, rfl, by decide +kernel, rfl, by decide +kernel, by decide +kernel⟩
abbrev FP_law_is_count (K : PySem.W.Frag) (fd : FuncData) : Prop := FunD K "_law_is_count" "_law_is_count" (defArgs s_law_is_count) (defBody s_law_is_count) (defScope s_law_is_count) ([]) [] (He.ga K "_law_is_count") fd
def mr_law_is_count : List D → M D := runB 1 (sRet (mAnd (m1 (isiD clsL [(.b "int")]) (mVar 0)) (mAnd (mNot (m1 (isiD clsL [(.b "bool")]) (mVar 0))) (m2 (geD) (mVar 0) (mC (.int 0))))))
theorem ok_law_is_count (T : TextF K mg) : ∃ fd, FP_law_is_count K fd ∧ Own P w K mg base 1 (He.ga K "_law_is_count") fd ["_law_item"] mr_law_is_count := by
  obtain ⟨fd, F⟩ := T.says.d.def_ 10 (d := d_law_is_count) rfl
  have F : FP_law_is_count K fd := F
  refine ⟨fd, F, fnD_of (k := 0) F sc_law_is_count (fun cdv A fr s H E B => ?_) rfl, F.kp⟩
  exact (by exact ds_one (by exact ds_ret (by exact de_and (by exact de_isi (by exact T.cls) (.b "int") (by rfl) (by exact T.n_isinstance) (by exact de_var 0) (by exact pe_ty "int" (by rfl) (by exact T.n_int) (by decide +kernel))) (by exact de_and (by exact de_not (by exact de_isi (by exact T.cls) (.b "bool") (by rfl) (by exact T.n_isinstance) (by exact de_var 0) (by exact pe_ty "bool" (by rfl) (by exact T.n_bool) (by decide +kernel)))) (by exact de_one (by exact de_ge (by exact de_var 0) de_int))))))
/-! _law_is_span -/
theorem sc_law_is_span : FnScope ["_law_item"] ["_law_item"] (defScope s_law_is_span) := ⟨rfl, rfl, rfl, by decide +kernel, rfl, by decide +kernel, by decide +kernel⟩
abbrev FP_law_is_span (K : PySem.W.Frag) (fd : FuncData) : Prop := FunD K "_law_is_span" "_law_is_span" (defArgs s_law_is_span) (defBody s_law_is_span) (defScope s_law_is_span) ([]) [] (He.ga K "_law_is_span") fd
def mr_law_is_span : List D → M D := runB 1 (sSeq (sIf (tOrM (tNotM (mT (m1 (isiD clsL [(.b "tuple")]) (mVar 0)))) (tOrM (mT (m2 (neD) (mA lenD (mCons (mVar 0) mNil)) (mC (.int 2)))) (tNotM (mT (mCall 1 mr_law_is_count (mCons (m2 idxD (mVar 0) (mC (.int 0))) mNil) []))))) (sRet (mC (.bl false))) sNil)
    (sRet (mOr (m2 (isNonD) (m2 idxD (mVar 0) (mC (.int 1))) (mC .non)) (mAnd (mCall 1 mr_law_is_count (mCons (m2 idxD (mVar 0) (mC (.int 1))) mNil) []) (m2 (geD) (m2 idxD (mVar 0) (mC (.int 1))) (m2 idxD (mVar 0) (mC (.int 0))))))))
theorem ok_law_is_span (T : TextF K mg) : ∃ fd, FP_law_is_span K fd ∧ Own P w K mg base 2 (He.ga K "_law_is_span") fd ["_law_item"] mr_law_is_span := by
  obtain ⟨fd, F⟩ := T.says.d.def_ 11 (d := d_law_is_span) rfl
  have F : FP_law_is_span K fd := F
  obtain ⟨fd_law_is_count, F_law_is_count, O_law_is_count⟩ := ok_law_is_count (P := P) (w := w) (base := base) T
  have b_law_is_count : Binds K fd_law_is_count ["_law_item"] [] := F_law_is_count.bindsN fun _ _ _ _ _ _ us hl => match us, hl with | [_], _ => rfl
  refine ⟨fd, F, fnD_of (k := 1) F sc_law_is_span (fun cdv A fr s H E B => ?_) rfl, F.kp⟩
  exact (by exact ds_cons (by exact ds_if (by exact DW.dt (by exact dw_or (by exact dt_not (by exact dt_val (by exact de_isi (by exact T.cls) (.b "tuple") (by rfl) (by exact T.n_isinstance) (by exact de_var 0) (by exact pe_ty "tuple" (by rfl) (by exact T.n_tuple) (by decide +kernel))))) (by exact dw_or (by exact dt_ne (by exact B.room.units) (by exact de_len (by rfl) (by exact T.n_len) (by exact da_cons (by exact de_var 0) da_nil)) de_int) (by exact dw_or1 (by exact dt_not (by exact dt_val (by exact de_call (x := "_law_is_count") (ps := ["_law_item"]) (g := mr_law_is_count) (dds := []) (by exact O_law_is_count.fn) (by exact B.room.mono (by decide)) (by exact B.gd) (by exact B.tk) (by rfl) (by exact T.g_law_is_count) (by exact O_law_is_count.kp) (by exact b_law_is_count) (by exact .nil) (by exact fun _ _ => DenL.nil) (by exact da_cons (by exact de_idx (by exact de_var 0) de_int (by exact fun _ _ => rfl)) da_nil)))))))) (by exact ds_one (by exact ds_ret de_bl)) ds_nil) (by exact ds_one (by exact ds_ret (by exact de_or (by exact de_is (by exact de_idx (by exact de_var 0) de_int (by exact fun _ _ => rfl)) de_non) (by exact de_one (by exact de_and (by exact de_call (x := "_law_is_count") (ps := ["_law_item"]) (g := mr_law_is_count) (dds := []) (by exact O_law_is_count.fn) (by exact B.room.mono (by decide)) (by exact B.gd) (by exact B.tk) (by rfl) (by exact T.g_law_is_count) (by exact O_law_is_count.kp) (by exact b_law_is_count) (by exact .nil) (by exact fun _ _ => DenL.nil) (by exact da_cons (by exact de_idx (by exact de_var 0) de_int (by exact fun _ _ => rfl)) da_nil)) (by exact de_one (by exact de_ge (by exact de_idx (by exact de_var 0) de_int (by exact fun _ _ => rfl)) (by exact de_idx (by exact de_var 0) de_int (by exact fun _ _ => rfl))))))))))
/-! _law_is_called -/
theorem sc_law_is_called : FnScope ["_law_item", "_law_sign"] ["_law_item"] (defScope s_law_is_called) := ⟨rfl, rfl, rfl, by decide +kernel, rfl, by decide +kernel, by decide +kernel⟩
abbrev FP_law_is_called (K : PySem.W.Frag) (fd : FuncData) : Prop := FunD K "_law_is_called" "_law_is_called" (defArgs s_law_is_called) (defBody s_law_is_called) (defScope s_law_is_called) ([]) [] (He.ga K "_law_is_called") fd
def mr_law_is_called : List D → M D := runB 2 (sSeq (sIf (tOrM (tNotM (mT (m1 (isiD clsL [(.b "str")]) (mVar 0)))) (tNotM (mT (mChain leD leD (mC (.int 1)) (mA lenD (mCons (mVar 0) mNil)) (mC (.int 8)))))) (sRet (mC (.bl false))) sNil)
    (sRet (m2 (eqD) (mLst (lcF [1] (.nm 1) (iAny (mVar 0)) (mT (m2 (inD true) (mVar 1) (fun _ => argsD 0 mr_law_letters []))) (mVar 1))) (mA lstD mNil))))
theorem ok_law_is_called (T : TextF K mg) : ∃ fd, FP_law_is_called K fd ∧ Own P w K mg base 2 (He.ga K "_law_is_called") fd ["_law_item"] mr_law_is_called := by
  obtain ⟨fd, F⟩ := T.says.d.def_ 12 (d := d_law_is_called) rfl
  have F : FP_law_is_called K fd := F
  obtain ⟨fd_law_letters, F_law_letters, O_law_letters⟩ := ok_law_letters (P := P) (w := w) (base := base) T
  have b_law_letters : Binds K fd_law_letters [] [] := F_law_letters.bindsN fun _ _ _ _ _ _ us hl => match us, hl with | [], _ => rfl
  refine ⟨fd, F, fnD_of (k := 1) F sc_law_is_called (fun cdv A fr s H E B => ?_) rfl, F.kp⟩
  exact (by exact ds_cons (by exact ds_if (by exact DW.dt (by exact dw_or (by exact dt_not (by exact dt_val (by exact de_isi (by exact T.cls) (.b "str") (by rfl) (by exact T.n_isinstance) (by exact de_var 0) (by exact pe_ty "str" (by rfl) (by exact T.n_str) (by decide +kernel))))) (by exact dw_or1 (by exact dt_not (by exact dt_chain op_le op_le by_le by_le de_int (by exact de_len (by rfl) (by exact T.n_len) (by exact da_cons (by exact de_var 0) da_nil)) de_int))))) (by exact ds_one (by exact ds_ret de_bl)) ds_nil) (by exact ds_one (by exact ds_ret (by exact de_eq (by exact B.room.units) (by exact DF.de (by exact df_lc (T := (.nm 1)) (by exact B.calm) (by exact sc_law_is_called.nd) (by exact di_any (by exact de_var 0)) (blkOk_by (own := [("_law_sign", 1)]) (by first | decide +kernel | kernel_rfl)) (by intro _ _ _ _ _; exact (by exact pg_name (by exact sc_law_is_called.nd) (by rfl) (by first | exact .inl rfl | exact .inr rfl))) (by intro _ _ _ _ _; exact (by exact pts_of (by exact dt_notin (by exact de_var 1) (by exact de_call0 (x := "_law_letters") (ps := []) (g := mr_law_letters) (dds := []) (by exact O_law_letters.fn) (by exact B.room.mono (by decide)) (by exact B.gd) (by exact takes0) (by rfl) (by exact T.g_law_letters) (by exact O_law_letters.kp) (by exact b_law_letters) (by exact .nil) (by exact fun _ _ => DenL.nil))))) (by intro _ _ _ _ _; exact (by exact de_var 1)) (by decide))) (by exact de_lst da_nil)))))
/-! _law_is_dealt -/
theorem sc_law_is_dealt : FnScope ["_law_item"] ["_law_item"] (defScope s_law_is_dealt) := ⟨rfl, rfl, rfl, by decide +kernel, rfl, by decide +kernel, by decide +kernel⟩
abbrev FP_law_is_dealt (K : PySem.W.Frag) (fd : FuncData) : Prop := FunD K "_law_is_dealt" "_law_is_dealt" (defArgs s_law_is_dealt) (defBody s_law_is_dealt) (defScope s_law_is_dealt) ([]) [] (He.ga K "_law_is_dealt") fd
def mr_law_is_dealt : List D → M D := runB 1 (sSeq (sIf (tOrM (tNotM (mT (m1 (isiD clsL [(.b "tuple")]) (mVar 0)))) (mT (m2 (neD) (mA lenD (mCons (mVar 0) mNil)) (mC (.int 4))))) (sRet (mC (.bl false))) sNil)
    (sSeq (sIf (tOrM (tNotM (mT (mCall 1 mr_law_is_called (mCons (m2 idxD (mVar 0) (mC (.int 0))) mNil) []))) (tNotM (mT (mCall 1 mr_law_is_called (mCons (m2 idxD (mVar 0) (mC (.int 1))) mNil) [])))) (sRet (mC (.bl false))) sNil)
    (sRet (mAnd (mCall 1 mr_law_is_count (mCons (m2 idxD (mVar 0) (mC (.int 2))) mNil) []) (mCall 1 mr_law_is_count (mCons (m2 idxD (mVar 0) (mC (.int 3))) mNil) [])))))
theorem ok_law_is_dealt (T : TextF K mg) : ∃ fd, FP_law_is_dealt K fd ∧ Own P w K mg base 3 (He.ga K "_law_is_dealt") fd ["_law_item"] mr_law_is_dealt := by
  obtain ⟨fd, F⟩ := T.says.d.def_ 13 (d := d_law_is_dealt) rfl
  have F : FP_law_is_dealt K fd := F
  obtain ⟨fd_law_is_called, F_law_is_called, O_law_is_called⟩ := ok_law_is_called (P := P) (w := w) (base := base) T
  have b_law_is_called : Binds K fd_law_is_called ["_law_item"] [] := F_law_is_called.bindsN fun _ _ _ _ _ _ us hl => match us, hl with | [_], _ => rfl
  obtain ⟨fd_law_is_count, F_law_is_count, O_law_is_count⟩ := ok_law_is_count (P := P) (w := w) (base := base) T
  have b_law_is_count : Binds K fd_law_is_count ["_law_item"] [] := F_law_is_count.bindsN fun _ _ _ _ _ _ us hl => match us, hl with | [_], _ => rfl
  refine ⟨fd, F, fnD_of (k := 2) F sc_law_is_dealt (fun cdv A fr s H E B => ?_) rfl, F.kp⟩
  exact (by exact ds_cons (by exact ds_if (by exact DW.dt (by exact dw_or (by exact dt_not (by exact dt_val (by exact de_isi (by exact T.cls) (.b "tuple") (by rfl) (by exact T.n_isinstance) (by exact de_var 0) (by exact pe_ty "tuple" (by rfl) (by exact T.n_tuple) (by decide +kernel))))) (by exact dw_or1 (by exact dt_ne (by exact B.room.units) (by exact de_len (by rfl) (by exact T.n_len) (by exact da_cons (by exact de_var 0) da_nil)) de_int)))) (by exact ds_one (by exact ds_ret de_bl)) ds_nil) (by exact ds_cons (by exact ds_if (by exact DW.dt (by exact dw_or (by exact dt_not (by exact dt_val (by exact de_call (x := "_law_is_called") (ps := ["_law_item"]) (g := mr_law_is_called) (dds := []) (by exact O_law_is_called.fn) (by exact B.room.mono (by decide)) (by exact B.gd) (by exact B.tk) (by rfl) (by exact T.g_law_is_called) (by exact O_law_is_called.kp) (by exact b_law_is_called) (by exact .nil) (by exact fun _ _ => DenL.nil) (by exact da_cons (by exact de_idx (by exact de_var 0) de_int (by exact fun _ _ => rfl)) da_nil)))) (by exact dw_or1 (by exact dt_not (by exact dt_val (by exact de_call (x := "_law_is_called") (ps := ["_law_item"]) (g := mr_law_is_called) (dds := []) (by exact O_law_is_called.fn) (by exact B.room.mono (by decide)) (by exact B.gd) (by exact B.tk) (by rfl) (by exact T.g_law_is_called) (by exact O_law_is_called.kp) (by exact b_law_is_called) (by exact .nil) (by exact fun _ _ => DenL.nil) (by exact da_cons (by exact de_idx (by exact de_var 0) de_int (by exact fun _ _ => rfl)) da_nil))))))) (by exact ds_one (by exact ds_ret de_bl)) ds_nil) (by exact ds_one (by exact ds_ret (by exact de_and (by exact de_call (x := "_law_is_count") (ps := ["_law_item"]) (g := mr_law_is_count) (dds := []) (by exact O_law_is_count.fn) (by exact B.room.mono (by decide)) (by exact B.gd) (by exact B.tk) (by rfl) (by exact T.g_law_is_count) (by exact O_law_is_count.kp) (by exact b_law_is_count) (by exact .nil) (by exact fun _ _ => DenL.nil) (by exact da_cons (by exact de_idx (by exact de_var 0) de_int (by exact fun _ _ => rfl)) da_nil)) (by exact de_one (by exact de_call (x := "_law_is_count") (ps := ["_law_item"]) (g := mr_law_is_count) (dds := []) (by exact O_law_is_count.fn) (by exact B.room.mono (by decide)) (by exact B.gd) (by exact B.tk) (by rfl) (by exact T.g_law_is_count) (by exact O_law_is_count.kp) (by exact b_law_is_count) (by exact .nil) (by exact fun _ _ => DenL.nil) (by exact da_cons (by exact de_idx (by exact de_var 0) de_int (by exact fun _ _ => rfl)) da_nil))))))))
/-! is_number -/
theorem sc_is_number : FnScope ["thing"] ["thing"] (defScope s_is_number) := ⟨rfl, rfl, rfl, by decide +kernel, rfl, by decide +kernel, by decide +kernel⟩
abbrev FP_is_number (K : PySem.W.Frag) (fd : FuncData) : Prop := FunD K "is_number" "is_number" (defArgs s_is_number) (defBody s_is_number) (defScope s_is_number) ([]) [] (He.ga K "is_number") fd
def mr_is_number : List D → M D := runB 1 (sRet (mAnd (m1 (isiD clsL [(.b "int")]) (mVar 0)) (mNot (m1 (isiD clsL [(.b "bool")]) (mVar 0)))))
theorem ok_is_number (T : TextF K mg) : ∃ fd, FP_is_number K fd ∧ Own P w K mg base 1 (He.ga K "is_number") fd ["thing"] mr_is_number := by
  obtain ⟨fd, F⟩ := T.says.d.def_ 14 (d := d_is_number) rfl
  have F : FP_is_number K fd := F
  refine ⟨fd, F, fnD_of (k := 0) F sc_is_number (fun cdv A fr s H E B => ?_) rfl, F.kp⟩
  exact (by exact ds_one (by exact ds_ret (by exact de_and (by exact de_isi (by exact T.cls) (.b "int") (by rfl) (by exact T.n_isinstance) (by exact de_var 0) (by exact pe_ty "int" (by rfl) (by exact T.n_int) (by decide +kernel))) (by exact de_one (by exact de_not (by exact de_isi (by exact T.cls) (.b "bool") (by rfl) (by exact T.n_isinstance) (by exact de_var 0) (by exact pe_ty "bool" (by rfl) (by exact T.n_bool) (by decide +kernel))))))))
/-! is_day -/
theorem sc_is_day : FnScope ["thing"] ["thing"] (defScope s_is_day) := ⟨rfl, rfl, rfl, by decide +kernel, rfl, by decide +kernel, by decide +kernel⟩
abbrev FP_is_day (K : PySem.W.Frag) (fd : FuncData) : Prop := FunD K "is_day" "is_day" (defArgs s_is_day) (defBody s_is_day) (defScope s_is_day) ([]) [] (He.ga K "is_day") fd
def mr_is_day : List D → M D := runB 1 (sRet (mAnd (mCall 1 mr_is_number (mCons (mVar 0) mNil) []) (m2 (geD) (mVar 0) (mC (.int 0)))))
theorem ok_is_day (T : TextF K mg) : ∃ fd, FP_is_day K fd ∧ Own P w K mg base 2 (He.ga K "is_day") fd ["thing"] mr_is_day := by
  obtain ⟨fd, F⟩ := T.says.d.def_ 15 (d := d_is_day) rfl
  have F : FP_is_day K fd := F
  obtain ⟨fd_is_number, F_is_number, O_is_number⟩ := ok_is_number (P := P) (w := w) (base := base) T
  have b_is_number : Binds K fd_is_number ["thing"] [] := F_is_number.bindsN fun _ _ _ _ _ _ us hl => match us, hl with | [_], _ => rfl
  refine ⟨fd, F, fnD_of (k := 1) F sc_is_day (fun cdv A fr s H E B => ?_) rfl, F.kp⟩
  exact (by exact ds_one (by exact ds_ret (by exact de_and (by exact de_call (x := "is_number") (ps := ["thing"]) (g := mr_is_number) (dds := []) (by exact O_is_number.fn) (by exact B.room.mono (by decide)) (by exact B.gd) (by exact B.tk) (by rfl) (by exact T.g_is_number) (by exact O_is_number.kp) (by exact b_is_number) (by exact .nil) (by exact fun _ _ => DenL.nil) (by exact da_cons (by exact de_var 0) da_nil)) (by exact de_one (by exact de_ge (by exact de_var 0) de_int)))))
/-! is_stretch -/
theorem sc_is_stretch : FnScope ["thing"] ["thing"] (defScope s_is_stretch) := ⟨rfl, rfl, rfl, by decide +kernel, rfl, by decide +kernel, by decide +kernel⟩
abbrev FP_is_stretch (K : PySem.W.Frag) (fd : FuncData) : Prop := FunD K "is_stretch" "is_stretch" (defArgs s_is_stretch) (defBody s_is_stretch) (defScope s_is_stretch) ([]) [] (He.ga K "is_stretch") fd
def mr_is_stretch : List D → M D := runB 1 (sSeq (sIf (tOrM (tNotM (mT (m1 (isiD clsL [(.b "tuple")]) (mVar 0)))) (tOrM (mT (m2 (neD) (mA lenD (mCons (mVar 0) mNil)) (mC (.int 2)))) (tNotM (mT (mCall 1 mr_is_day (mCons (m2 idxD (mVar 0) (mC (.int 0))) mNil) []))))) (sRet (mC (.bl false))) sNil)
    (sRet (mOr (m2 (isNonD) (m2 idxD (mVar 0) (mC (.int 1))) (mC .non)) (mAnd (mCall 1 mr_is_number (mCons (m2 idxD (mVar 0) (mC (.int 1))) mNil) []) (m2 (geD) (m2 idxD (mVar 0) (mC (.int 1))) (m2 idxD (mVar 0) (mC (.int 0))))))))
theorem ok_is_stretch (T : TextF K mg) : ∃ fd, FP_is_stretch K fd ∧ Own P w K mg base 3 (He.ga K "is_stretch") fd ["thing"] mr_is_stretch := by
  obtain ⟨fd, F⟩ := T.says.d.def_ 16 (d := d_is_stretch) rfl
  have F : FP_is_stretch K fd := F
  obtain ⟨fd_is_day, F_is_day, O_is_day⟩ := ok_is_day (P := P) (w := w) (base := base) T
  have b_is_day : Binds K fd_is_day ["thing"] [] := F_is_day.bindsN fun _ _ _ _ _ _ us hl => match us, hl with | [_], _ => rfl
  obtain ⟨fd_is_number, F_is_number, O_is_number⟩ := ok_is_number (P := P) (w := w) (base := base) T
  have b_is_number : Binds K fd_is_number ["thing"] [] := F_is_number.bindsN fun _ _ _ _ _ _ us hl => match us, hl with | [_], _ => rfl
  refine ⟨fd, F, fnD_of (k := 2) F sc_is_stretch (fun cdv A fr s H E B => ?_) rfl, F.kp⟩
  exact (by exact ds_cons (by exact ds_if (by exact DW.dt (by exact dw_or (by exact dt_not (by exact dt_val (by exact de_isi (by exact T.cls) (.b "tuple") (by rfl) (by exact T.n_isinstance) (by exact de_var 0) (by exact pe_ty "tuple" (by rfl) (by exact T.n_tuple) (by decide +kernel))))) (by exact dw_or (by exact dt_ne (by exact B.room.units) (by exact de_len (by rfl) (by exact T.n_len) (by exact da_cons (by exact de_var 0) da_nil)) de_int) (by exact dw_or1 (by exact dt_not (by exact dt_val (by exact de_call (x := "is_day") (ps := ["thing"]) (g := mr_is_day) (dds := []) (by exact O_is_day.fn) (by exact B.room.mono (by decide)) (by exact B.gd) (by exact B.tk) (by rfl) (by exact T.g_is_day) (by exact O_is_day.kp) (by exact b_is_day) (by exact .nil) (by exact fun _ _ => DenL.nil) (by exact da_cons (by exact de_idx (by exact de_var 0) de_int (by exact fun _ _ => rfl)) da_nil)))))))) (by exact ds_one (by exact ds_ret de_bl)) ds_nil) (by exact ds_one (by exact ds_ret (by exact de_or (by exact de_is (by exact de_idx (by exact de_var 0) de_int (by exact fun _ _ => rfl)) de_non) (by exact de_one (by exact de_and (by exact de_call (x := "is_number") (ps := ["thing"]) (g := mr_is_number) (dds := []) (by exact O_is_number.fn) (by exact B.room.mono (by decide)) (by exact B.gd) (by exact B.tk) (by rfl) (by exact T.g_is_number) (by exact O_is_number.kp) (by exact b_is_number) (by exact .nil) (by exact fun _ _ => DenL.nil) (by exact da_cons (by exact de_idx (by exact de_var 0) de_int (by exact fun _ _ => rfl)) da_nil)) (by exact de_one (by exact de_ge (by exact de_idx (by exact de_var 0) de_int (by exact fun _ _ => rfl)) (by exact de_idx (by exact de_var 0) de_int (by exact fun _ _ => rfl))))))))))
/-! is_name -/
theorem sc_is_name : FnScope ["thing", "sign"] ["thing"] (defScope s_is_name) := ⟨rfl, rfl, rfl, by decide +kernel, rfl, by decide +kernel, by decide +kernel⟩
abbrev FP_is_name (K : PySem.W.Frag) (fd : FuncData) : Prop := FunD K "is_name" "is_name" (defArgs s_is_name) (defBody s_is_name) (defScope s_is_name) ([]) [] (He.ga K "is_name") fd
def mr_is_name : List D → M D := runB 2 (sSeq (sIf (tOrM (tNotM (mT (m1 (isiD clsL [(.b "str")]) (mVar 0)))) (tOrM (mT (m2 (ltD) (mA lenD (mCons (mVar 0) mNil)) (mC (.int 1)))) (mT (m2 (gtD) (mA lenD (mCons (mVar 0) mNil)) (mC (.int 8)))))) (sRet (mC (.bl false))) sNil)
    (sRet (mA allD (mCons (mLst (lcF [1] (.nm 1) (iAny (mVar 0)) tYesM (m2 (inD false) (mVar 1) (mC (.str "abcdefghijklmnopqrstuvwxyz"))))) mNil))))
theorem ok_is_name (T : TextF K mg) : ∃ fd, FP_is_name K fd ∧ Own P w K mg base 1 (He.ga K "is_name") fd ["thing"] mr_is_name := by
  obtain ⟨fd, F⟩ := T.says.d.def_ 17 (d := d_is_name) rfl
  have F : FP_is_name K fd := F
  obtain ⟨t_LETTERS, v_LETTERS⟩ := T.v_LETTERS
  refine ⟨fd, F, fnD_of (k := 0) F sc_is_name (fun cdv A fr s H E B => ?_) rfl, F.kp⟩
  exact (by exact ds_cons (by exact ds_if (by exact DW.dt (by exact dw_or (by exact dt_not (by exact dt_val (by exact de_isi (by exact T.cls) (.b "str") (by rfl) (by exact T.n_isinstance) (by exact de_var 0) (by exact pe_ty "str" (by rfl) (by exact T.n_str) (by decide +kernel))))) (by exact dw_or (by exact dt_lt (by exact de_len (by rfl) (by exact T.n_len) (by exact da_cons (by exact de_var 0) da_nil)) de_int) (by exact dw_or1 (by exact dt_gt (by exact de_len (by rfl) (by exact T.n_len) (by exact da_cons (by exact de_var 0) da_nil)) de_int))))) (by exact ds_one (by exact ds_ret de_bl)) ds_nil) (by exact ds_one (by exact ds_ret (by exact de_all (by exact B.calm) (by rfl) (by exact T.n_all) (by exact da_cons (by exact DF.de (by exact df_lc (T := (.nm 1)) (by exact B.calm) (by exact sc_is_name.nd) (by exact di_any (by exact de_var 0)) (blkOk_by (own := [("sign", 1)]) (by first | decide +kernel | kernel_rfl)) (by intro _ _ _ _ _; exact (by exact pg_name (by exact sc_is_name.nd) (by rfl) (by first | exact .inl rfl | exact .inr rfl))) (by intro _ _ _ _ _; exact pts_yes) (by intro _ _ _ _ _; exact (by exact de_in (by exact de_var 1) (by exact de_glob (v := (.str "abcdefghijklmnopqrstuvwxyz")) (.str "abcdefghijklmnopqrstuvwxyz") (by rfl) (by exact v_LETTERS) (by exact ⟨_, rfl⟩) (by exact fun _ _ => rfl)))) (by decide))) da_nil)))))
/-! is_sale -/
theorem sc_is_sale : FnScope ["thing", "who", "what", "day", "amount"] ["thing"] (defScope s_is_sale) := ⟨rfl, rfl, rfl, by decide +kernel, rfl, by decide +kernel, by decide +kernel⟩
abbrev FP_is_sale (K : PySem.W.Frag) (fd : FuncData) : Prop := FunD K "is_sale" "is_sale" (defArgs s_is_sale) (defBody s_is_sale) (defScope s_is_sale) ([]) [] (He.ga K "is_sale") fd
def mr_is_sale : List D → M D := runB 5 (sSeq (sIf (tOrM (tNotM (mT (m1 (isiD clsL [(.b "tuple")]) (mVar 0)))) (mT (m2 (neD) (mA lenD (mCons (mVar 0) mNil)) (mC (.int 4))))) (sRet (mC (.bl false))) sNil)
    (sSeq (sAsg (.tp [1, 2, 3, 4]) (mVar 0))
    (sRet (mAnd (mCall 1 mr_is_name (mCons (mVar 1) mNil) []) (mAnd (mCall 1 mr_is_name (mCons (mVar 2) mNil) []) (mAnd (mCall 1 mr_is_day (mCons (mVar 3) mNil) []) (mCall 1 mr_is_day (mCons (mVar 4) mNil) [])))))))
theorem ok_is_sale (T : TextF K mg) : ∃ fd, FP_is_sale K fd ∧ Own P w K mg base 3 (He.ga K "is_sale") fd ["thing"] mr_is_sale := by
  obtain ⟨fd, F⟩ := T.says.d.def_ 18 (d := d_is_sale) rfl
  have F : FP_is_sale K fd := F
  obtain ⟨fd_is_day, F_is_day, O_is_day⟩ := ok_is_day (P := P) (w := w) (base := base) T
  have b_is_day : Binds K fd_is_day ["thing"] [] := F_is_day.bindsN fun _ _ _ _ _ _ us hl => match us, hl with | [_], _ => rfl
  obtain ⟨fd_is_name, F_is_name, O_is_name⟩ := ok_is_name (P := P) (w := w) (base := base) T
  have b_is_name : Binds K fd_is_name ["thing"] [] := F_is_name.bindsN fun _ _ _ _ _ _ us hl => match us, hl with | [_], _ => rfl
  refine ⟨fd, F, fnD_of (k := 2) F sc_is_sale (fun cdv A fr s H E B => ?_) rfl, F.kp⟩
  exact (by exact ds_cons (by exact ds_if (by exact DW.dt (by exact dw_or (by exact dt_not (by exact dt_val (by exact de_isi (by exact T.cls) (.b "tuple") (by rfl) (by exact T.n_isinstance) (by exact de_var 0) (by exact pe_ty "tuple" (by rfl) (by exact T.n_tuple) (by decide +kernel))))) (by exact dw_or1 (by exact dt_ne (by exact B.room.units) (by exact de_len (by rfl) (by exact T.n_len) (by exact da_cons (by exact de_var 0) da_nil)) de_int)))) (by exact ds_one (by exact ds_ret de_bl)) ds_nil) (by exact ds_cons (by exact ds_asg (.tp [1, 2, 3, 4]) (by exact de_var 0) (by exact pg_tup (by exact B.calm) (by exact pgs_cons (by exact pg_name (by exact sc_is_sale.nd) (by rfl) (by first | exact .inl rfl | exact .inr rfl)) (by exact pgs_cons (by exact pg_name (by exact sc_is_sale.nd) (by rfl) (by first | exact .inl rfl | exact .inr rfl)) (by exact pgs_cons (by exact pg_name (by exact sc_is_sale.nd) (by rfl) (by first | exact .inl rfl | exact .inr rfl)) (by exact pgs_cons (by exact pg_name (by exact sc_is_sale.nd) (by rfl) (by first | exact .inl rfl | exact .inr rfl)) pgs_nil)))))) (by exact ds_one (by exact ds_ret (by exact de_and (by exact de_call (x := "is_name") (ps := ["thing"]) (g := mr_is_name) (dds := []) (by exact O_is_name.fn) (by exact B.room.mono (by decide)) (by exact B.gd) (by exact B.tk) (by rfl) (by exact T.g_is_name) (by exact O_is_name.kp) (by exact b_is_name) (by exact .nil) (by exact fun _ _ => DenL.nil) (by exact da_cons (by exact de_var 1) da_nil)) (by exact de_and (by exact de_call (x := "is_name") (ps := ["thing"]) (g := mr_is_name) (dds := []) (by exact O_is_name.fn) (by exact B.room.mono (by decide)) (by exact B.gd) (by exact B.tk) (by rfl) (by exact T.g_is_name) (by exact O_is_name.kp) (by exact b_is_name) (by exact .nil) (by exact fun _ _ => DenL.nil) (by exact da_cons (by exact de_var 2) da_nil)) (by exact de_and (by exact de_call (x := "is_day") (ps := ["thing"]) (g := mr_is_day) (dds := []) (by exact O_is_day.fn) (by exact B.room.mono (by decide)) (by exact B.gd) (by exact B.tk) (by rfl) (by exact T.g_is_day) (by exact O_is_day.kp) (by exact b_is_day) (by exact .nil) (by exact fun _ _ => DenL.nil) (by exact da_cons (by exact de_var 3) da_nil)) (by exact de_one (by exact de_call (x := "is_day") (ps := ["thing"]) (g := mr_is_day) (dds := []) (by exact O_is_day.fn) (by exact B.room.mono (by decide)) (by exact B.gd) (by exact B.tk) (by rfl) (by exact T.g_is_day) (by exact O_is_day.kp) (by exact b_is_day) (by exact .nil) (by exact fun _ _ => DenL.nil) (by exact da_cons (by exact de_var 4) da_nil))))))))))
/-! Box.__init__ -/
theorem sc_Box_init : FnScope ["self", "who", "what", "days", "amounts"] ["self", "who", "what", "days", "amounts"] (defScope s_Box_init) := ⟨rfl, rfl, rfl, by decide +kernel, rfl, by decide +kernel, by decide +kernel⟩
abbrev FP_Box_init (K : PySem.W.Frag) (fd : FuncData) : Prop := FunD K "__init__" "Box.__init__" (defArgs s_Box_init) (defBody s_Box_init) (defScope s_Box_init) (d_Box_init.dvs K) [] (He.ma K (He.ga K "Box") "__init__") fd
def mr_Box_init : List D → M D := runB 5 (sSeq (sIf (tAndM (mT (m2 (notNonD) (mVar 1) (mC .non))) (tNotM (mT (mCall 1 mr_is_name (mCons (mVar 1) mNil) [])))) (fun _ => stuck) sNil)
    (sSeq (sIf (tAndM (mT (m2 (notNonD) (mVar 2) (mC .non))) (tNotM (mT (mCall 1 mr_is_name (mCons (mVar 2) mNil) [])))) (fun _ => stuck) sNil)
    (sSeq (sIf (tNotM (mT (mCall 1 mr_is_stretch (mCons (mVar 3) mNil) []))) (fun _ => stuck) sNil)
    (sSeq (sIf (tNotM (mT (mCall 1 mr_is_stretch (mCons (mVar 4) mNil) []))) (fun _ => stuck) sNil)
    (sSeq (sFldT tab "box_who" (mVar 0) (mVar 1))
    (sSeq (sFldT tab "box_what" (mVar 0) (mVar 2))
    (sSeq (sFldT tab "box_days" (mVar 0) (mVar 3))
    (sFldT tab "box_amounts" (mVar 0) (mVar 4)))))))))
theorem ok_Box_init (T : TextF K mg) : ∃ fd, FP_Box_init K fd ∧ Own P w K mg base 4 (He.ma K (He.ga K "Box") "__init__") fd ["self", "who", "what", "days", "amounts"] mr_Box_init := by
  obtain ⟨fd, F⟩ := T.says.d.def_ 19 (d := d_Box_init) rfl
  have F : FP_Box_init K fd := F
  obtain ⟨fd_is_name, F_is_name, O_is_name⟩ := ok_is_name (P := P) (w := w) (base := base) T
  have b_is_name : Binds K fd_is_name ["thing"] [] := F_is_name.bindsN fun _ _ _ _ _ _ us hl => match us, hl with | [_], _ => rfl
  obtain ⟨fd_is_stretch, F_is_stretch, O_is_stretch⟩ := ok_is_stretch (P := P) (w := w) (base := base) T
  have b_is_stretch : Binds K fd_is_stretch ["thing"] [] := F_is_stretch.bindsN fun _ _ _ _ _ _ us hl => match us, hl with | [_], _ => rfl
  refine ⟨fd, F, fnD_of (k := 3) F sc_Box_init (fun cdv A fr s H E B => ?_) rfl, F.kp⟩
  exact (by exact ds_cons (by exact ds_if (by exact DW.dt (by exact dw_and (by exact dt_isnot (by exact de_var 1) de_non) (by exact dw_and1 (by exact dt_not (by exact dt_val (by exact de_call (x := "is_name") (ps := ["thing"]) (g := mr_is_name) (dds := []) (by exact O_is_name.fn) (by exact B.room.mono (by decide)) (by exact B.gd) (by exact B.tk) (by rfl) (by exact T.g_is_name) (by exact O_is_name.kp) (by exact b_is_name) (by exact .nil) (by exact fun _ _ => DenL.nil) (by exact da_cons (by exact de_var 1) da_nil))))))) (by exact ds_one ds_never) ds_nil) (by exact ds_cons (by exact ds_if (by exact DW.dt (by exact dw_and (by exact dt_isnot (by exact de_var 2) de_non) (by exact dw_and1 (by exact dt_not (by exact dt_val (by exact de_call (x := "is_name") (ps := ["thing"]) (g := mr_is_name) (dds := []) (by exact O_is_name.fn) (by exact B.room.mono (by decide)) (by exact B.gd) (by exact B.tk) (by rfl) (by exact T.g_is_name) (by exact O_is_name.kp) (by exact b_is_name) (by exact .nil) (by exact fun _ _ => DenL.nil) (by exact da_cons (by exact de_var 2) da_nil))))))) (by exact ds_one ds_never) ds_nil) (by exact ds_cons (by exact ds_if (by exact dt_not (by exact dt_val (by exact de_call (x := "is_stretch") (ps := ["thing"]) (g := mr_is_stretch) (dds := []) (by exact O_is_stretch.fn) (by exact B.room.mono (by decide)) (by exact B.gd) (by exact B.tk) (by rfl) (by exact T.g_is_stretch) (by exact O_is_stretch.kp) (by exact b_is_stretch) (by exact .nil) (by exact fun _ _ => DenL.nil) (by exact da_cons (by exact de_var 3) da_nil)))) (by exact ds_one ds_never) ds_nil) (by exact ds_cons (by exact ds_if (by exact dt_not (by exact dt_val (by exact de_call (x := "is_stretch") (ps := ["thing"]) (g := mr_is_stretch) (dds := []) (by exact O_is_stretch.fn) (by exact B.room.mono (by decide)) (by exact B.gd) (by exact B.tk) (by rfl) (by exact T.g_is_stretch) (by exact O_is_stretch.kp) (by exact b_is_stretch) (by exact .nil) (by exact fun _ _ => DenL.nil) (by exact da_cons (by exact de_var 4) da_nil)))) (by exact ds_one ds_never) ds_nil) (by exact ds_cons (by exact ds_fld (by exact T.fld) "box_who" (by exact de_var 0) (by exact de_var 1)) (by exact ds_cons (by exact ds_fld (by exact T.fld) "box_what" (by exact de_var 0) (by exact de_var 2)) (by exact ds_cons (by exact ds_fld (by exact T.fld) "box_days" (by exact de_var 0) (by exact de_var 3)) (by exact ds_one (by exact ds_fld (by exact T.fld) "box_amounts" (by exact de_var 0) (by exact de_var 4))))))))))
/-! law -/
theorem sc_law : FnScope ["_law_script", "_law_state", "_law_turn", "_law_items", "_law_item", "_law_due", "_law_some"] ["_law_script"] (defScope s_law) := ⟨rfl, rfl, rfl, by decide +kernel, rfl, by decide +kernel, by decide +kernel⟩
abbrev FP_law (K : PySem.W.Frag) (fd : FuncData) : Prop := FunD K "law" "law" (defArgs s_law) (defBody s_law) (defScope s_law) ([]) [] (He.ga K "law") fd
def mr_law_b1 : SD := (sSeq (sSet 5 (mA lstD (mCons (mCall 1 mr_law_is_called (mCons (mVar 4) mNil) []) (mCons (mCall 1 mr_law_is_dealt (mCons (mVar 4) mNil) []) (mCons (mCall 1 mr_law_is_span (mCons (mVar 4) mNil) []) mNil)))))
    (sSeq (sIf (mT (m2 (neD) (mA reprD (mCons (mA lstD (mCons (mCall 1 mr_is_name (mCons (mVar 4) mNil) []) (mCons (mCall 1 mr_is_sale (mCons (mVar 4) mNil) []) (mCons (mCall 1 mr_is_stretch (mCons (mVar 4) mNil) []) mNil)))) mNil)) (mA reprD (mCons (mVar 5) mNil)))) (sRet (mC (.bl false))) sNil)
    (sIf (mT (m2 (neD) (mA reprD (mCons (mA lstD (mCons (mCallK 1 mr_is_name (mCons (mVar 4) mNil)) (mCons (mCallK 1 mr_is_sale (mCons (mVar 4) mNil)) (mCons (mCallK 1 mr_is_stretch (mCons (mVar 4) mNil)) mNil)))) mNil)) (mA reprD (mCons (mVar 5) mNil)))) (sRet (mC (.bl false))) sNil)))
def mr_law_b2 : SD := (sSeq (sSet 3 (mA lstD (mCons (mCall 1 mr_law_near_name (mCons (mVar 1) mNil) []) (mCons (mCall 1 mr_law_near_deal (mCons (mVar 1) mNil) []) (mCons (mCall 1 mr_law_near_span (mCons (mVar 1) mNil) []) (mCons (mCall 1 mr_law_odd (mCons (mVar 1) mNil) []) mNil))))))
    (sSeq (sSet 3 (m2 addD (mVar 3) (mA lstD (mCons (mCall 1 mr_law_near_deal (mCons (mVar 1) mNil) []) (mCons (mCall 1 mr_law_near_span (mCons (mVar 1) mNil) []) mNil)))))
    (sSeq (sFor (.nm 4) (iAny (mVar 3)) mr_law_b1)
    (sSeq (sSet 6 (mMake 5 "Box" mr_Box_init (mCons (mC .non) (mCons (mC (.str "a")) mNil)) [(.tup [(.int 0), .non]), (.tup [(.int 0), .non])]))
    (sIf (mT (m2 (neD) (mA reprD (mCons (mA lstD (mCons (mCall 1 mr_is_name (mCons (mVar 6) mNil) []) (mCons (mCall 1 mr_is_sale (mCons (mVar 6) mNil) []) (mCons (mCall 1 mr_is_stretch (mCons (mVar 6) mNil) []) (mCons (mCall 1 mr_is_sale (mCons (mA lstD (mCons (mVar 6) mNil)) mNil) []) mNil))))) mNil)) (mA reprD (mCons (m2 mulD (mA lstD (mCons (mC (.bl false)) mNil)) (mC (.int 4))) mNil)))) (sRet (mC (.bl false))) sNil)))))
def mr_law : List D → M D := runB 7 (sSeq (sSet 1 (mCall 1 mr_law_begun (mCons (mVar 0) mNil) []))
    (sSeq (sFor (.nm 2) (iRange1 (m2 addD (mC (.int 12)) (mA minD (mCons (mA lenD (mCons (mVar 0) mNil)) (mCons (mC (.int 40)) mNil))))) mr_law_b2)
    (sRet (mC (.bl true)))))
theorem ok_law (T : TextF K mg) : ∃ fd, FP_law K fd ∧ Own P w K mg base 6 (He.ga K "law") fd ["_law_script"] mr_law := by
  obtain ⟨fd, F⟩ := T.says.d.def_ 20 (d := d_law) rfl
  have F : FP_law K fd := F
  obtain ⟨fd_law_begun, F_law_begun, O_law_begun⟩ := ok_law_begun (P := P) (w := w) (base := base) T
  have b_law_begun : Binds K fd_law_begun ["_law_script"] [] := F_law_begun.bindsN fun _ _ _ _ _ _ us hl => match us, hl with | [_], _ => rfl
  obtain ⟨fd_law_odd, F_law_odd, O_law_odd⟩ := ok_law_odd (P := P) (w := w) (base := base) T
  have b_law_odd : Binds K fd_law_odd ["_law_state"] [] := F_law_odd.bindsN fun _ _ _ _ _ _ us hl => match us, hl with | [_], _ => rfl
  obtain ⟨fd_law_near_span, F_law_near_span, O_law_near_span⟩ := ok_law_near_span (P := P) (w := w) (base := base) T
  have b_law_near_span : Binds K fd_law_near_span ["_law_state"] [] := F_law_near_span.bindsN fun _ _ _ _ _ _ us hl => match us, hl with | [_], _ => rfl
  obtain ⟨fd_law_near_deal, F_law_near_deal, O_law_near_deal⟩ := ok_law_near_deal (P := P) (w := w) (base := base) T
  have b_law_near_deal : Binds K fd_law_near_deal ["_law_state"] [] := F_law_near_deal.bindsN fun _ _ _ _ _ _ us hl => match us, hl with | [_], _ => rfl
  obtain ⟨fd_law_near_name, F_law_near_name, O_law_near_name⟩ := ok_law_near_name (P := P) (w := w) (base := base) T
  have b_law_near_name : Binds K fd_law_near_name ["_law_state"] [] := F_law_near_name.bindsN fun _ _ _ _ _ _ us hl => match us, hl with | [_], _ => rfl
  obtain ⟨fd_law_is_span, F_law_is_span, O_law_is_span⟩ := ok_law_is_span (P := P) (w := w) (base := base) T
  have b_law_is_span : Binds K fd_law_is_span ["_law_item"] [] := F_law_is_span.bindsN fun _ _ _ _ _ _ us hl => match us, hl with | [_], _ => rfl
  obtain ⟨fd_law_is_dealt, F_law_is_dealt, O_law_is_dealt⟩ := ok_law_is_dealt (P := P) (w := w) (base := base) T
  have b_law_is_dealt : Binds K fd_law_is_dealt ["_law_item"] [] := F_law_is_dealt.bindsN fun _ _ _ _ _ _ us hl => match us, hl with | [_], _ => rfl
  obtain ⟨fd_law_is_called, F_law_is_called, O_law_is_called⟩ := ok_law_is_called (P := P) (w := w) (base := base) T
  have b_law_is_called : Binds K fd_law_is_called ["_law_item"] [] := F_law_is_called.bindsN fun _ _ _ _ _ _ us hl => match us, hl with | [_], _ => rfl
  obtain ⟨fd_is_stretch, F_is_stretch, O_is_stretch⟩ := ok_is_stretch (P := P) (w := w) (base := base) T
  have b_is_stretch : Binds K fd_is_stretch ["thing"] [] := F_is_stretch.bindsN fun _ _ _ _ _ _ us hl => match us, hl with | [_], _ => rfl
  have k_is_stretch : KwTo K fd_is_stretch ["thing"] ["thing"] 0 arK [] [] := kwAll F_is_stretch fun _ _ _ _ _ _ ws hl => match ws, hl with | [_], _ => rfl
  obtain ⟨fd_is_sale, F_is_sale, O_is_sale⟩ := ok_is_sale (P := P) (w := w) (base := base) T
  have b_is_sale : Binds K fd_is_sale ["thing"] [] := F_is_sale.bindsN fun _ _ _ _ _ _ us hl => match us, hl with | [_], _ => rfl
  have k_is_sale : KwTo K fd_is_sale ["thing"] ["thing"] 0 arK [] [] := kwAll F_is_sale fun _ _ _ _ _ _ ws hl => match ws, hl with | [_], _ => rfl
  obtain ⟨fd_is_name, F_is_name, O_is_name⟩ := ok_is_name (P := P) (w := w) (base := base) T
  have b_is_name : Binds K fd_is_name ["thing"] [] := F_is_name.bindsN fun _ _ _ _ _ _ us hl => match us, hl with | [_], _ => rfl
  have k_is_name : KwTo K fd_is_name ["thing"] ["thing"] 0 arK [] [] := kwAll F_is_name fun _ _ _ _ _ _ ws hl => match ws, hl with | [_], _ => rfl
  obtain ⟨fd_Box_init, F_Box_init, O_Box_init⟩ := ok_Box_init (P := P) (w := w) (base := base) T
  obtain ⟨ds_Box_3, mv_Box_3, mb_Box_3⟩ := F_Box_init.binds1 (ps := ["self", "who", "what", "days", "amounts"]) 3 2 (by intro h; cases h) rfl fun _ _ _ _ _ _ _ us its h1 h2 => match us, h1, its, h2 with | [_, _, _], _, [_, _, _, _], _ => ⟨_, rfl, rfl⟩
  have md_Box_3 : ∀ q G, DenL K q G [(.tup [(.int 0), .non]), (.tup [(.int 0), .non])] ((d_Box_init.dvs K).drop 2) := fun q G => (DenL.cons ⟨_, _, rfl, T.tp_Box_init_2 _, (DenL.cons rfl (DenL.cons rfl DenL.nil))⟩ (DenL.cons ⟨_, _, rfl, T.tp_Box_init_3 _, (DenL.cons rfl (DenL.cons rfl DenL.nil))⟩ DenL.nil))
  refine ⟨fd, F, fnD_of (k := 5) F sc_law (fun cdv A fr s H E B => ?_) rfl, F.kp⟩
  exact (by exact ds_cons (by exact ds_set 1 (by exact sc_law.nd) (by rfl) (by first | exact .inl rfl | exact .inr rfl) (by exact de_call (x := "_law_begun") (ps := ["_law_script"]) (g := mr_law_begun) (dds := []) (by exact O_law_begun.fn) (by exact B.room.mono (by decide)) (by exact B.gd) (by exact B.tk) (by rfl) (by exact T.g_law_begun) (by exact O_law_begun.kp) (by exact b_law_begun) (by exact .nil) (by exact fun _ _ => DenL.nil) (by exact da_cons (by exact de_var 0) da_nil))) (by exact ds_cons (by exact ds_for (by exact B.po) (by exact B.calm) (by exact di_range1 (by rfl) (by exact T.n_range) (by exact de_add de_int (by exact de_min (by exact B.calm) (by rfl) (by exact T.n_min) (by exact da_cons (by exact de_len (by rfl) (by exact T.n_len) (by exact da_cons (by exact de_var 0) da_nil)) (by exact da_cons de_int da_nil))))) (by exact dg_tgt (T := (.nm 2)) (by exact pg_name (by exact sc_law.nd) (by rfl) (by first | exact .inl rfl | exact .inr rfl))) (by exact ds_cons (by exact ds_set 3 (by exact sc_law.nd) (by rfl) (by first | exact .inl rfl | exact .inr rfl) (by exact de_lst (by exact da_cons (by exact de_call (x := "_law_near_name") (ps := ["_law_state"]) (g := mr_law_near_name) (dds := []) (by exact O_law_near_name.fn) (by exact B.room.mono (by decide)) (by exact B.gd) (by exact B.tk) (by rfl) (by exact T.g_law_near_name) (by exact O_law_near_name.kp) (by exact b_law_near_name) (by exact .nil) (by exact fun _ _ => DenL.nil) (by exact da_cons (by exact de_var 1) da_nil)) (by exact da_cons (by exact de_call (x := "_law_near_deal") (ps := ["_law_state"]) (g := mr_law_near_deal) (dds := []) (by exact O_law_near_deal.fn) (by exact B.room.mono (by decide)) (by exact B.gd) (by exact B.tk) (by rfl) (by exact T.g_law_near_deal) (by exact O_law_near_deal.kp) (by exact b_law_near_deal) (by exact .nil) (by exact fun _ _ => DenL.nil) (by exact da_cons (by exact de_var 1) da_nil)) (by exact da_cons (by exact de_call (x := "_law_near_span") (ps := ["_law_state"]) (g := mr_law_near_span) (dds := []) (by exact O_law_near_span.fn) (by exact B.room.mono (by decide)) (by exact B.gd) (by exact B.tk) (by rfl) (by exact T.g_law_near_span) (by exact O_law_near_span.kp) (by exact b_law_near_span) (by exact .nil) (by exact fun _ _ => DenL.nil) (by exact da_cons (by exact de_var 1) da_nil)) (by exact da_cons (by exact de_call (x := "_law_odd") (ps := ["_law_state"]) (g := mr_law_odd) (dds := []) (by exact O_law_odd.fn) (by exact B.room.mono (by decide)) (by exact B.gd) (by exact B.tk) (by rfl) (by exact T.g_law_odd) (by exact O_law_odd.kp) (by exact b_law_odd) (by exact .nil) (by exact fun _ _ => DenL.nil) (by exact da_cons (by exact de_var 1) da_nil)) da_nil)))))) (by exact ds_cons (by exact ds_set 3 (by exact sc_law.nd) (by rfl) (by first | exact .inl rfl | exact .inr rfl) (by exact de_add (by exact de_var 3) (by exact de_lst (by exact da_cons (by exact de_call (x := "_law_near_deal") (ps := ["_law_state"]) (g := mr_law_near_deal) (dds := []) (by exact O_law_near_deal.fn) (by exact B.room.mono (by decide)) (by exact B.gd) (by exact B.tk) (by rfl) (by exact T.g_law_near_deal) (by exact O_law_near_deal.kp) (by exact b_law_near_deal) (by exact .nil) (by exact fun _ _ => DenL.nil) (by exact da_cons (by exact de_var 1) da_nil)) (by exact da_cons (by exact de_call (x := "_law_near_span") (ps := ["_law_state"]) (g := mr_law_near_span) (dds := []) (by exact O_law_near_span.fn) (by exact B.room.mono (by decide)) (by exact B.gd) (by exact B.tk) (by rfl) (by exact T.g_law_near_span) (by exact O_law_near_span.kp) (by exact b_law_near_span) (by exact .nil) (by exact fun _ _ => DenL.nil) (by exact da_cons (by exact de_var 1) da_nil)) da_nil))))) (by exact ds_cons (by exact ds_for (by exact B.po) (by exact B.calm) (by exact di_any (by exact de_var 3)) (by exact dg_tgt (T := (.nm 4)) (by exact pg_name (by exact sc_law.nd) (by rfl) (by first | exact .inl rfl | exact .inr rfl))) (by exact ds_cons (by exact ds_set 5 (by exact sc_law.nd) (by rfl) (by first | exact .inl rfl | exact .inr rfl) (by exact de_lst (by exact da_cons (by exact de_call (x := "_law_is_called") (ps := ["_law_item"]) (g := mr_law_is_called) (dds := []) (by exact O_law_is_called.fn) (by exact B.room.mono (by decide)) (by exact B.gd) (by exact B.tk) (by rfl) (by exact T.g_law_is_called) (by exact O_law_is_called.kp) (by exact b_law_is_called) (by exact .nil) (by exact fun _ _ => DenL.nil) (by exact da_cons (by exact de_var 4) da_nil)) (by exact da_cons (by exact de_call (x := "_law_is_dealt") (ps := ["_law_item"]) (g := mr_law_is_dealt) (dds := []) (by exact O_law_is_dealt.fn) (by exact B.room.mono (by decide)) (by exact B.gd) (by exact B.tk) (by rfl) (by exact T.g_law_is_dealt) (by exact O_law_is_dealt.kp) (by exact b_law_is_dealt) (by exact .nil) (by exact fun _ _ => DenL.nil) (by exact da_cons (by exact de_var 4) da_nil)) (by exact da_cons (by exact de_call (x := "_law_is_span") (ps := ["_law_item"]) (g := mr_law_is_span) (dds := []) (by exact O_law_is_span.fn) (by exact B.room.mono (by decide)) (by exact B.gd) (by exact B.tk) (by rfl) (by exact T.g_law_is_span) (by exact O_law_is_span.kp) (by exact b_law_is_span) (by exact .nil) (by exact fun _ _ => DenL.nil) (by exact da_cons (by exact de_var 4) da_nil)) da_nil))))) (by exact ds_cons (by exact ds_if (by exact dt_ne (by exact B.room.units) (by exact de_repr (by exact B.gd) (by exact units66 B.room) (by rfl) (by exact T.n_repr) (by exact da_cons (by exact de_lst (by exact da_cons (by exact de_call (x := "is_name") (ps := ["thing"]) (g := mr_is_name) (dds := []) (by exact O_is_name.fn) (by exact B.room.mono (by decide)) (by exact B.gd) (by exact B.tk) (by rfl) (by exact T.g_is_name) (by exact O_is_name.kp) (by exact b_is_name) (by exact .nil) (by exact fun _ _ => DenL.nil) (by exact da_cons (by exact de_var 4) da_nil)) (by exact da_cons (by exact de_call (x := "is_sale") (ps := ["thing"]) (g := mr_is_sale) (dds := []) (by exact O_is_sale.fn) (by exact B.room.mono (by decide)) (by exact B.gd) (by exact B.tk) (by rfl) (by exact T.g_is_sale) (by exact O_is_sale.kp) (by exact b_is_sale) (by exact .nil) (by exact fun _ _ => DenL.nil) (by exact da_cons (by exact de_var 4) da_nil)) (by exact da_cons (by exact de_call (x := "is_stretch") (ps := ["thing"]) (g := mr_is_stretch) (dds := []) (by exact O_is_stretch.fn) (by exact B.room.mono (by decide)) (by exact B.gd) (by exact B.tk) (by rfl) (by exact T.g_is_stretch) (by exact O_is_stretch.kp) (by exact b_is_stretch) (by exact .nil) (by exact fun _ _ => DenL.nil) (by exact da_cons (by exact de_var 4) da_nil)) da_nil)))) da_nil)) (by exact de_repr (by exact B.gd) (by exact units66 B.room) (by rfl) (by exact T.n_repr) (by exact da_cons (by exact de_var 5) da_nil))) (by exact ds_one (by exact ds_ret de_bl)) ds_nil) (by exact ds_one (by exact ds_if (by exact dt_ne (by exact B.room.units) (by exact de_repr (by exact B.gd) (by exact units66 B.room) (by rfl) (by exact T.n_repr) (by exact da_cons (by exact de_lst (by exact da_cons (by exact de_callK0 (x := "is_name") (ps := ["thing"]) (ks := ["thing"]) (g := mr_is_name) (dds := []) (ar := arK) (by exact O_is_name.fn) (by exact B.room.mono (by decide)) (by exact B.gd) (by exact B.tk) (by rfl) (by exact T.g_is_name) (by exact O_is_name.kp) (by exact k_is_name) (by exact fun _ _ => DenL.nil) (dk_cons (by exact de_var 4) dk_nil)) (by exact da_cons (by exact de_callK0 (x := "is_sale") (ps := ["thing"]) (ks := ["thing"]) (g := mr_is_sale) (dds := []) (ar := arK) (by exact O_is_sale.fn) (by exact B.room.mono (by decide)) (by exact B.gd) (by exact B.tk) (by rfl) (by exact T.g_is_sale) (by exact O_is_sale.kp) (by exact k_is_sale) (by exact fun _ _ => DenL.nil) (dk_cons (by exact de_var 4) dk_nil)) (by exact da_cons (by exact de_callK0 (x := "is_stretch") (ps := ["thing"]) (ks := ["thing"]) (g := mr_is_stretch) (dds := []) (ar := arK) (by exact O_is_stretch.fn) (by exact B.room.mono (by decide)) (by exact B.gd) (by exact B.tk) (by rfl) (by exact T.g_is_stretch) (by exact O_is_stretch.kp) (by exact k_is_stretch) (by exact fun _ _ => DenL.nil) (dk_cons (by exact de_var 4) dk_nil)) da_nil)))) da_nil)) (by exact de_repr (by exact B.gd) (by exact units66 B.room) (by rfl) (by exact T.n_repr) (by exact da_cons (by exact de_var 5) da_nil))) (by exact ds_one (by exact ds_ret de_bl)) ds_nil))))) (by exact ds_cons (by exact ds_set 6 (by exact sc_law.nd) (by rfl) (by first | exact .inl rfl | exact .inr rfl) (by exact de_make "Box" (ps := ["self", "who", "what", "days", "amounts"]) (g := mr_Box_init) (dds := [(.tup [(.int 0), .non]), (.tup [(.int 0), .non])]) (by exact T.mk_Box) (by exact O_Box_init.fn) (by exact B.room.mono (by decide)) (by exact B.gd) (by exact B.tk) (by rfl) (by exact T.g_Box) (by exact mb_Box_3) (by exact mv_Box_3) (by exact md_Box_3) (by exact da_cons de_non (by exact da_cons de_str da_nil)))) (by exact ds_one (by exact ds_if (by exact dt_ne (by exact B.room.units) (by exact de_repr (by exact B.gd) (by exact units66 B.room) (by rfl) (by exact T.n_repr) (by exact da_cons (by exact de_lst (by exact da_cons (by exact de_call (x := "is_name") (ps := ["thing"]) (g := mr_is_name) (dds := []) (by exact O_is_name.fn) (by exact B.room.mono (by decide)) (by exact B.gd) (by exact B.tk) (by rfl) (by exact T.g_is_name) (by exact O_is_name.kp) (by exact b_is_name) (by exact .nil) (by exact fun _ _ => DenL.nil) (by exact da_cons (by exact de_var 6) da_nil)) (by exact da_cons (by exact de_call (x := "is_sale") (ps := ["thing"]) (g := mr_is_sale) (dds := []) (by exact O_is_sale.fn) (by exact B.room.mono (by decide)) (by exact B.gd) (by exact B.tk) (by rfl) (by exact T.g_is_sale) (by exact O_is_sale.kp) (by exact b_is_sale) (by exact .nil) (by exact fun _ _ => DenL.nil) (by exact da_cons (by exact de_var 6) da_nil)) (by exact da_cons (by exact de_call (x := "is_stretch") (ps := ["thing"]) (g := mr_is_stretch) (dds := []) (by exact O_is_stretch.fn) (by exact B.room.mono (by decide)) (by exact B.gd) (by exact B.tk) (by rfl) (by exact T.g_is_stretch) (by exact O_is_stretch.kp) (by exact b_is_stretch) (by exact .nil) (by exact fun _ _ => DenL.nil) (by exact da_cons (by exact de_var 6) da_nil)) (by exact da_cons (by exact de_call (x := "is_sale") (ps := ["thing"]) (g := mr_is_sale) (dds := []) (by exact O_is_sale.fn) (by exact B.room.mono (by decide)) (by exact B.gd) (by exact B.tk) (by rfl) (by exact T.g_is_sale) (by exact O_is_sale.kp) (by exact b_is_sale) (by exact .nil) (by exact fun _ _ => DenL.nil) (by exact da_cons (by exact de_lst (by exact da_cons (by exact de_var 6) da_nil)) da_nil)) da_nil))))) da_nil)) (by exact de_repr (by exact B.gd) (by exact units66 B.room) (by rfl) (by exact T.n_repr) (by exact da_cons (by exact de_mul (by exact de_lst (by exact da_cons de_bl da_nil)) de_int) da_nil))) (by exact ds_one (by exact ds_ret de_bl)) ds_nil))))))) (by exact ds_one (by exact ds_ret de_bl))))
def lawLevel : Nat := 6
end LW

namespace LW
open PySem PySem.Spec PyProof.Rows L2 RM
mutual
def fineD : D → Bool
  | .non => true
  | .bl _ => true
  | .int _ => true
  | .str x => decide (x.length ≤ 1000) && x.cps.toList.all fun c => decide (c < 128)
  | .tup xs => fineL xs
  | .lst xs => fineL xs
  | .dic _ _ => true
  | .ins c _ _ => decide (c ∈ clsL)
  | .mref _ => false
  | .scr _ => false
def fineL : List D → Bool
  | [] => true
  | d :: ds => fineD d && fineL ds
end
theorem fineL_iff : ∀ {ds : List D}, fineL ds = true ↔ ∀ d ∈ ds, fineD d = true
  | [] => by simp [fineL]
  | d :: ds => by simp [fineL, fineL_iff (ds := ds)]
abbrev abc : Str := "abcdefghijklmnopqrstuvwxyz"
def nameB : D → Bool
  | .str x => decide (1 ≤ x.length) && decide (x.length ≤ 8) && x.cps.toList.all fun c => decide (c ∈ abc.cps.toList)
  | _ => false
def countB : D → Bool
  | .int i => decide (0 ≤ i)
  | _ => false
theorem fine_str {x : Str} : fineD (.str x) = true ↔ x.length ≤ 1000 ∧ ∀ c ∈ x.cps.toList, c < 128 := by
  unfold fineD
  rw [Bool.and_eq_true, decide_eq_true_eq, List.all_eq_true]
  simp only [decide_eq_true_eq]
theorem isi_fine {d : D} {ts : List Ty} (h : fineD d = true) (ht : ts.all (tyOk clsL) = true) : ∃ k, kindD d = some k ∧ isiD clsL ts d = pure (.bl (ts.any fun t => isKind k t)) := by
  have key : ∀ k, kindD d = some k → kindOk clsL k = true → ∃ k, kindD d = some k ∧ isiD clsL ts d = pure (.bl (ts.any fun t => isKind k t)) := fun k e1 e2 => ⟨k, e1, by unfold isiD; rw [e1]; exact if_pos ⟨e2, ht⟩⟩
  cases d
  case mref => cases h
  case scr => cases h
  case ins c ns fs => exact key _ rfl h
  all_goals exact key _ rfl rfl
theorem noE_ok {α : Type} {m : M α} {S S' : Sto} {a : α} (h : m S = .ok a S') : RM.noE m S = .ok a S' := by unfold RM.noE; rw [h]
def signB : D → Bool
  | .str z => match z.cps.toList with
    | [c] => decide (c ∈ abc.cps.toList)
    | _ => false
  | _ => false
theorem in_abc (neg : Bool) (c : Nat) : inD neg (.str ⟨#[c]⟩) (.str abc) = pure (.bl (if neg then !signB (.str ⟨#[c]⟩) else signB (.str ⟨#[c]⟩))) := rfl
theorem signs_len (x : Str) : (RM.signs x).length = x.length := by unfold RM.signs; rw [List.length_map]; rfl
theorem toBools_map (f : D → Bool) : ∀ ds : List D, toBools (ds.map fun d => D.bl (f d)) = some (ds.map f)
  | [] => rfl
  | d :: ds => by
    show (toBools (ds.map fun d => D.bl (f d))).map (f d :: ·) = _
    rw [toBools_map f ds]; rfl
theorem signs_all (x : Str) : ((RM.signs x).map signB).all id = x.cps.toList.all fun c => decide (c ∈ abc.cps.toList) := by
  unfold RM.signs
  rw [List.map_map, List.all_map]
  rfl
theorem name_lc (x : Str) (hs : x.length ≤ sizeLine) (S : Sto) : lcD [1] (.nm 1) tYesM (m2 (inD false) (mVar 1) (mC (.str abc))) (RM.signs x) [] [some (.val (.str x)), none] S = .ok ((RM.signs x).map fun d => D.bl (signB d)) S := by
  rw [lc_pure (fun d => D.bl (signB d)) (fun _ => true) (RM.signs x) [] (fun d hd => ?_) (by rw [signs_len]; simpa using hs)]
  · rw [List.filter_eq_self.mpr (fun _ _ => rfl)]; rfl
  · obtain ⟨c, _, rfl⟩ := List.mem_map.mp hd
    exact ⟨[some (.val (.str x)), some (.val (.str ⟨#[c]⟩))], rfl, rfl, fun _ => by simp [in_abc]⟩
theorem name_ok {d : D} (h : fineD d = true) (S : Sto) : mr_is_name [d] S = .ok (.bl (nameB d)) S := by
  obtain ⟨k, e1, e2⟩ := isi_fine (ts := [.b "str"]) h (by decide)
  cases d
  case str x =>
    cases e1
    have hx : x.length ≤ 1000 := (fine_str.mp h).1
    have hs : x.length ≤ sizeLine := size_big _ (by omega)
    unfold mr_is_name runB
    by_cases q1 : x.length < 1
    · have : ¬ 1 ≤ x.length := by omega
      simp [startD, e2, isKind, lenD_str hs, nameB, show (x.length : Int) < 1 by omega, this]
    · by_cases q2 : 8 < x.length
      · have : ¬ x.length ≤ 8 := by omega
        simp [startD, e2, isKind, lenD_str hs, nameB, show ¬ (x.length : Int) < 1 by omega, show (8 : Int) < x.length by omega, this]
      · have a1 : 1 ≤ x.length := by omega
        have a2 : x.length ≤ 8 := by omega
        have b1 : ¬ (x.length : Int) < 1 := by omega
        have b2 : ¬ (8 : Int) < x.length := by omega
        simp [startD, e2, isKind, lenD_str hs, nameB, b1, b2, a1, a2, -List.all_eq_true]
        rw [noE_ok (name_lc x hs S)]
        simp [allD, toBools_map]
        have := signs_all x
        simpa using this
  case mref => cases h
  case scr => cases h
  all_goals
    cases e1
    unfold mr_is_name runB
    simp [startD, e2, isKind, nameB]
theorem called_lc (x : Str) (hs : x.length ≤ sizeLine) (S : Sto) : lcD [1] (.nm 1) (mT (m2 (inD true) (mVar 1) (fun _ => mr_law_letters []))) (mVar 1) (RM.signs x) [] [some (.val (.str x)), none] S = .ok ((RM.signs x).filter fun d => !signB d) S := by
  rw [lc_pure (fun d => d) (fun d => !signB d) (RM.signs x) [] (fun d hd => ?_) (by rw [signs_len]; simpa using hs)]
  · simp
  · obtain ⟨c, _, rfl⟩ := List.mem_map.mp hd
    refine ⟨[some (.val (.str x)), some (.val (.str ⟨#[c]⟩))], rfl, ?_, fun _ => rfl⟩
    unfold mr_law_letters runB
    simp
    rw [in_abc]
    simp
theorem strs_py : ∀ xs : List Str, toPyL (xs.map D.str) = some (xs.map PyData.str)
  | [] => rfl
  | x :: xs => by
    show (match some (PyData.str x), toPyL (xs.map D.str) with | some y, some ys => some (y :: ys) | _, _ => none) = _
    rw [strs_py xs]; rfl
theorem strs_lay : ∀ xs : List Str, (∀ x ∈ xs, PyData.canLay0 (.str x) = true) → PyData.canLayAll0 (xs.map PyData.str) = true
  | [], _ => rfl
  | x :: xs, h => by
    show (PyData.canLay0 (.str x) && PyData.canLayAll0 (xs.map PyData.str)) = true
    rw [strs_lay xs fun z hz => h z (List.mem_cons_of_mem _ hz), h x (List.mem_cons_self ..)]; rfl
theorem strs_depth : ∀ xs : List Str, PyData.depthAll (xs.map PyData.str) = 0
  | [] => rfl
  | x :: xs => by
    show max (PyData.depth (.str x)) (PyData.depthAll (xs.map PyData.str)) = 0
    rw [strs_depth xs]; rfl
theorem eq_nil {xs : List Str} (h : ∀ x ∈ xs, PyData.canLay0 (.str x) = true) : eqD (.lst (xs.map D.str)) (.lst []) = pure (.bl xs.isEmpty) := by
  have e1 : toPy (.lst (xs.map D.str)) = some (.list (xs.map PyData.str)) := by
    show (toPyL (xs.map D.str)).map PyData.list = _
    rw [strs_py]; rfl
  have e2 : SeqAt.shaped (.list (xs.map PyData.str)) = true := by
    unfold SeqAt.shaped
    have h1 : PyData.canLay0 (.list (xs.map .str)) = true := strs_lay xs h
    have h2 : PyData.depth (.list (xs.map .str)) = 1 := by
      show PyData.depthAll (xs.map PyData.str) + 1 = 1
      rw [strs_depth]
    rw [h1, h2]; rfl
  show eqDeep false _ _ = _
  unfold eqDeep
  rw [e1]
  show (if SeqAt.shaped _ = true ∧ SeqAt.shaped (.list []) = true then _ else _) = _
  rw [if_pos ⟨e2, rfl⟩]
  cases xs <;> rfl
theorem called_pure {d : D} (h : fineD d = true) (S : Sto) : mr_law_is_called [d] S = .ok (.bl (nameB d)) S := by
  obtain ⟨k, e1, e2⟩ := isi_fine (ts := [.b "str"]) h (by decide)
  cases d
  case str x =>
    cases e1
    have hx : x.length ≤ 1000 := (fine_str.mp h).1
    have hs : x.length ≤ sizeLine := size_big _ (by omega)
    unfold mr_law_is_called runB
    by_cases q1 : x.length < 1
    · have : ¬ 1 ≤ x.length := by omega
      simp [startD, e2, isKind, lenD_str hs, nameB, show ¬ (1 : Int) ≤ x.length by omega, this]
    · by_cases q2 : 8 < x.length
      · have : ¬ x.length ≤ 8 := by omega
        simp [startD, e2, isKind, lenD_str hs, nameB, show (1 : Int) ≤ x.length by omega, show ¬ (x.length : Int) ≤ 8 by omega, this]
      · have a1 : 1 ≤ x.length := by omega
        have a2 : x.length ≤ 8 := by omega
        have b1 : (1 : Int) ≤ x.length := by omega
        have b2 : (x.length : Int) ≤ 8 := by omega
        simp [startD, e2, isKind, lenD_str hs, nameB, b1, b2, a1, a2, -List.all_eq_true]
        rw [noE_ok (called_lc x hs S)]
        have e3 : (RM.signs x).filter (fun d => !signB d) = ((x.cps.toList.filter fun c => !decide (c ∈ abc.cps.toList)).map fun c => (⟨#[c]⟩ : Str)).map D.str := by
          unfold RM.signs
          rw [List.filter_map, List.map_map]
          rfl
        rw [e3]
        have e4 : eqD (.lst (((x.cps.toList.filter fun c => !decide (c ∈ abc.cps.toList)).map fun c => (⟨#[c]⟩ : Str)).map D.str)) (.lst []) = _ := eq_nil fun z hz => by
          obtain ⟨c, hc, rfl⟩ := List.mem_map.mp hz
          have := (fine_str.mp h).2 c (List.mem_filter.mp hc).1
          show (#[c].all fun c => decide (c < 0x110000)) = true
          simp; omega
        simp only [andThen_ok, lstD_ok (xs := []) (Nat.zero_le _), pure_bind, run_map, e4, run_pure, endC_rt]
        congr 2
        rw [Bool.eq_iff_iff, List.isEmpty_iff, List.map_eq_nil_iff, List.filter_eq_nil_iff]
        simp
        exact ⟨fun h i hi => h _ (Array.getElem_mem hi), fun h a ha => by
          obtain ⟨i, hi, rfl⟩ := Array.getElem_of_mem ha
          exact h i hi⟩
  case mref => cases h
  case scr => cases h
  all_goals
    cases e1
    unfold mr_law_is_called runB
    simp [startD, e2, isKind, nameB]
theorem number_ok {d : D} (h : fineD d = true) (S : Sto) : mr_is_number [d] S = .ok (.bl (match d with | .int _ => true | _ => false)) S := by
  obtain ⟨k, e1, e2⟩ := isi_fine (ts := [.b "int"]) h (by decide)
  obtain ⟨k', e1', e3⟩ := isi_fine (ts := [.b "bool"]) h (by decide)
  rw [e1] at e1'
  cases e1'
  cases d
  case mref => cases h
  case scr => cases h
  all_goals
    cases e1
    unfold mr_is_number runB
    simp [startD, e2, e3, isKind]
theorem day_ok {d : D} (h : fineD d = true) (S : Sto) : mr_is_day [d] S = .ok (.bl (countB d)) S := by
  have e := number_ok h S
  unfold mr_is_day runB
  cases d
  case mref => cases h
  case scr => cases h
  all_goals simp [startD, e, countB]
theorem count_ok {d : D} (h : fineD d = true) (S : Sto) : mr_law_is_count [d] S = .ok (.bl (countB d)) S := by
  obtain ⟨k, e1, e2⟩ := isi_fine (ts := [.b "int"]) h (by decide)
  obtain ⟨k', e1', e3⟩ := isi_fine (ts := [.b "bool"]) h (by decide)
  rw [e1] at e1'
  cases e1'
  cases d
  case mref => cases h
  case scr => cases h
  all_goals
    cases e1
    unfold mr_law_is_count runB
    simp [startD, e2, e3, isKind, countB]
def dealB : D → Bool
  | .tup [a, b, c, d] => nameB a && (nameB b && (countB c && countB d))
  | _ => false
theorem sale_ok {d : D} (h : fineD d = true) (S : Sto) : mr_is_sale [d] S = .ok (.bl (dealB d)) S := by
  obtain ⟨k, e1, e2⟩ := isi_fine (ts := [.b "tuple"]) h (by decide)
  cases d
  case mref => cases h
  case scr => cases h
  case tup xs =>
    cases e1
    unfold mr_is_sale runB
    by_cases q : xs.length = 4
    · match xs, q, h with
      | [a, b, c, d], _, h =>
        have f := fineL_iff.mp (show fineL [a, b, c, d] = true from h)
        have ea := name_ok (f a (by simp)) S
        have eb := name_ok (f b (by simp)) S
        have ec := day_ok (f c (by simp)) S
        have ed := day_ok (f d (by simp)) S
        simp [startD, e2, isKind, dealB, Tgt.set, setVs]
        rw [ea]
        cases na : nameB a <;> simp [na]
        rw [eb]
        cases nb : nameB b <;> simp [nb]
        rw [ec]
        cases nc : countB c <;> simp [nc]
        rw [ed]
        simp
    · have : dealB (.tup xs) = false := by
        unfold dealB
        split
        · rename_i heq; cases heq; exact absurd rfl q
        · rfl
      have q' : ¬ (xs.length : Int) = 4 := by omega
      simp [startD, e2, isKind, this, q']
  all_goals
    cases e1
    unfold mr_is_sale runB
    simp [startD, e2, isKind, dealB]
theorem dealt_ok {d : D} (h : fineD d = true) (S : Sto) : mr_law_is_dealt [d] S = .ok (.bl (dealB d)) S := by
  obtain ⟨k, e1, e2⟩ := isi_fine (ts := [.b "tuple"]) h (by decide)
  cases d
  case mref => cases h
  case scr => cases h
  case tup xs =>
    cases e1
    unfold mr_law_is_dealt runB
    by_cases q : xs.length = 4
    · match xs, q, h with
      | [a, b, c, d], _, h =>
        have f := fineL_iff.mp (show fineL [a, b, c, d] = true from h)
        have ea := called_pure (f a (by simp)) S
        have eb := called_pure (f b (by simp)) S
        have ec := count_ok (f c (by simp)) S
        have ed := count_ok (f d (by simp)) S
        have i0 : idxD (.tup [a, b, c, d]) (.int 0) = pure a := rfl
        have i1 : idxD (.tup [a, b, c, d]) (.int 1) = pure b := rfl
        have i2 : idxD (.tup [a, b, c, d]) (.int 2) = pure c := rfl
        have i3 : idxD (.tup [a, b, c, d]) (.int 3) = pure d := rfl
        simp [startD, e2, isKind, dealB, i0, i1, i2, i3]
        rw [ea]
        cases na : nameB a <;> simp [na, i1, i2, i3]
        rw [eb]
        cases nb : nameB b <;> simp [nb, i2, i3]
        rw [ec]
        cases nc : countB c <;> simp [nc, i3]
        rw [ed]
        simp
    · have : dealB (.tup xs) = false := by
        unfold dealB
        split
        · rename_i heq; cases heq; exact absurd rfl q
        · rfl
      have q' : ¬ (xs.length : Int) = 4 := by omega
      simp [startD, e2, isKind, this, q']
  all_goals
    cases e1
    unfold mr_law_is_dealt runB
    simp [startD, e2, isKind, dealB]
def spanB : D → Bool
  | .tup [.int a, .non] => decide (0 ≤ a)
  | .tup [.int a, .int b] => decide (0 ≤ a) && decide (a ≤ b)
  | _ => false
theorem stretch_ok {d : D} (h : fineD d = true) (S : Sto) : mr_is_stretch [d] S = .ok (.bl (spanB d)) S := by
  obtain ⟨k, e1, e2⟩ := isi_fine (ts := [.b "tuple"]) h (by decide)
  cases d
  case mref => cases h
  case scr => cases h
  case tup xs =>
    cases e1
    unfold mr_is_stretch runB
    by_cases q : xs.length = 2
    · match xs, q, h with
      | [a, b], _, h =>
        have f := fineL_iff.mp (show fineL [a, b] = true from h)
        have ea := day_ok (f a (by simp)) S
        have eb := number_ok (f b (by simp)) S
        have i0 : idxD (.tup [a, b]) (.int 0) = pure a := rfl
        have i1 : idxD (.tup [a, b]) (.int 1) = pure b := rfl
        simp [startD, e2, isKind, i0, i1]
        rw [ea]
        cases a <;> simp [countB, spanB]
        rename_i i _
        by_cases hi : i < 0
        · have hi' : ¬ 0 ≤ i := by omega
          cases b <;> simp [hi, hi']
        · have hi' : 0 ≤ i := by omega
          cases b <;> simp [hi, hi', eb, isNonD, i0, i1]
    · have : spanB (.tup xs) = false := by
        unfold spanB
        split
        · rename_i heq; cases heq; exact absurd rfl q
        · rename_i heq; cases heq; exact absurd rfl q
        · rfl
      have q' : ¬ (xs.length : Int) = 2 := by omega
      simp [startD, e2, isKind, this, q']
  all_goals
    cases e1
    unfold mr_is_stretch runB
    simp [startD, e2, isKind, spanB]
theorem span_ok {d : D} (h : fineD d = true) (S : Sto) : mr_law_is_span [d] S = .ok (.bl (spanB d)) S := by
  obtain ⟨k, e1, e2⟩ := isi_fine (ts := [.b "tuple"]) h (by decide)
  cases d
  case mref => cases h
  case scr => cases h
  case tup xs =>
    cases e1
    unfold mr_law_is_span runB
    by_cases q : xs.length = 2
    · match xs, q, h with
      | [a, b], _, h =>
        have f := fineL_iff.mp (show fineL [a, b] = true from h)
        have ea := count_ok (f a (by simp)) S
        have eb := count_ok (f b (by simp)) S
        have i0 : idxD (.tup [a, b]) (.int 0) = pure a := rfl
        have i1 : idxD (.tup [a, b]) (.int 1) = pure b := rfl
        simp [startD, e2, isKind, i0, i1]
        rw [ea]
        cases a <;> simp [countB, spanB]
        rename_i i _
        by_cases hi : i < 0
        · have hi' : ¬ 0 ≤ i := by omega
          cases b <;> simp [hi, hi']
        · have hi' : 0 ≤ i := by omega
          cases b <;> simp [hi, hi', eb, isNonD, i0, i1, countB]
          rename_i j _
          by_cases hj : 0 ≤ j
          · simp [hj, i0, i1]
          · simp [hj]
            omega
    · have : spanB (.tup xs) = false := by
        unfold spanB
        split
        · rename_i heq; cases heq; exact absurd rfl q
        · rename_i heq; cases heq; exact absurd rfl q
        · rfl
      have q' : ¬ (xs.length : Int) = 2 := by omega
      simp [startD, e2, isKind, this, q']
  all_goals
    cases e1
    unfold mr_law_is_span runB
    simp [startD, e2, isKind, spanB]
end LW

namespace LW
open PySem PySem.Spec PyProof.Rows L2 RM
theorem log_small {n : Int} (h0 : 0 < n) (h1 : n ≤ 10000000000000) : n.natAbs.log2 < 9000 := by
  have h2 : n.natAbs ≤ 10000000000000 := by omega
  have h3 : n.natAbs.log2 ≤ n.natAbs := Nat.log2_le_self _
  have h4 : n.natAbs < 2 ^ 44 := by omega
  have h5 : n.natAbs ≠ 0 := by omega
  have := (Nat.log2_lt h5).mpr h4
  omega
theorem draw_ok (n : Int) (h0 : 0 < n) (h1 : n ≤ 10000000000000) : HT 1 (mr_law_draw [.mref 0, .int n]) fun d => ∃ k, d = .int k ∧ 0 ≤ k ∧ k < n := drawM_ok h0 (log_small h0 h1)
theorem pick_lst {xs : List D} (h0 : xs ≠ []) (h1 : xs.length ≤ 1000000) : HT 1 (mr_law_pick [.mref 0, .lst xs]) fun d => d ∈ xs := by
  intro t g b
  have hp : 0 < xs.length := List.length_pos_iff.mpr h0
  obtain ⟨_, t1, e1, g1, b1, k, rfl, k0, k1⟩ := draw_ok xs.length (by omega) (by omega) t g b
  obtain ⟨x, hx, _, ha⟩ := atI_in k0 k1
  refine ⟨x, t1, ?_, g1, b1, hx⟩
  unfold mr_law_pick runB
  simp [startD, e1, idxD, ha]
theorem pick_str {z : Str} (h0 : 0 < z.length) (h1 : z.length ≤ 1000000) : HT 1 (mr_law_pick [.mref 0, .str z]) fun d => ∃ c, d = .str ⟨#[c]⟩ ∧ c ∈ z.cps.toList := by
  intro t g b
  have hs := size_big _ h1
  obtain ⟨_, t1, e1, g1, b1, k, rfl, k0, k1⟩ := draw_ok z.length (by omega) (by omega) t g b
  obtain ⟨x, hx, _, ha⟩ := atI_in (xs := z.cps.toList) k0 (by simpa [Str.length] using k1)
  refine ⟨.str ⟨#[x]⟩, t1, ?_, g1, b1, x, rfl, hx⟩
  unfold mr_law_pick runB
  simp [startD, lenD_str hs, e1, idxD, ha, hs]
theorem ends {m : M D} {n : Nat} {P : D → Prop} (h : HT n m P) {t : Tape} (g : RM.Good t) (b : t.turn + n ≤ 1000000000000) : ∃ a t', (((m [.tape t]).andThen fun x => pure (Ctl.rt x)).andThen fun c => endC c) = .ok a [.tape t'] ∧ RM.Good t' ∧ t'.turn ≤ t.turn + n ∧ P a := by
  obtain ⟨a, t', e, r⟩ := h t g b
  exact ⟨a, t', by rw [e]; rfl, r⟩
theorem odd_ok : HT 1 (mr_law_odd [.mref 0]) fun d => fineD d = true := by
  intro t g b
  have p9 : powD (.int 10) (.int 9) = pure (.int 1000000000) := rfl
  unfold mr_law_odd runB
  simp [startD, lstD, tupD, size_big, p9, addD, dicD]
  exact ends ((pick_lst (by simp) (by decide)).mono (Nat.le_refl _) (fineL_iff.mp (by decide +kernel))) g b
/-- a short text of plain signs -/
def AS (n : Nat) (x : Str) : Prop := x.length ≤ n ∧ ∀ c ∈ x.cps.toList, c < 128
theorem AS.fine {n : Nat} {x : Str} (h : AS n x) (hn : n ≤ 1000) : fineD (.str x) = true := fine_str.mpr ⟨by have := h.1; omega, h.2⟩
theorem AS.size {n : Nat} {x : Str} (h : AS n x) (hn : n ≤ 1000) : x.length ≤ sizeLine := size_big _ (by have := h.1; omega)
theorem AS.app {n k : Nat} {x y : Str} (h : AS n x) (h' : AS k y) : AS (n + k) (x ++ y) := by
  have e : (x ++ y).cps.toList = x.cps.toList ++ y.cps.toList := TL.tl_append x y
  have l : (x ++ y).length = x.length + y.length := by
    show (x ++ y).cps.size = x.cps.size + y.cps.size
    rw [← Array.length_toList, e, List.length_append, Array.length_toList, Array.length_toList]
  refine ⟨by have := h.1; have := h'.1; omega, fun c hc => ?_⟩
  rw [e, List.mem_append] at hc
  rcases hc with q | q
  · exact h.2 c q
  · exact h'.2 c q
theorem AS.cut {n : Nat} {x : Str} (h : AS n x) (lo hi : Option Int) : AS n (cutS x lo hi) := by
  unfold cutS
  refine ⟨?_, fun c hc => h.2 c ?_⟩
  · show (List.toArray _).size ≤ n
    rw [List.size_toArray, List.length_take, List.length_drop]
    have := h.1
    have e : x.cps.toList.length = x.length := rfl
    omega
  · exact List.mem_of_mem_drop (List.mem_of_mem_take hc)
theorem AS.up {n k : Nat} {x : Str} (h : AS n x) (hk : n ≤ k) : AS k x := ⟨Nat.le_trans h.1 hk, h.2⟩
theorem abc_asc : ∀ c ∈ abc.cps.toList, c < 128 := by decide +kernel
theorem join_asc : ∀ {ys : List Str}, (∀ y ∈ ys, AS 1 y) → AS ys.length (Txt.join "" ys)
  | [], _ => ⟨by decide +kernel, by decide +kernel⟩
  | [y], h => by
    rw [TL.join_eq]
    have e : (Str.join "" [y]).cps.toList = y.cps.toList := by
      have := TL.tl_join "" [y]
      exact this
    have hy := h y (by simp)
    refine ⟨?_, fun c hc => hy.2 c (by rw [e] at hc; exact hc)⟩
    show (Str.join "" [y]).cps.size ≤ 1
    rw [← Array.length_toList, e]; exact hy.1
  | y :: z :: ys, h => by
    have ih := join_asc (ys := z :: ys) fun w hw => h w (List.mem_cons_of_mem _ hw)
    rw [TL.join_eq] at ih ⊢
    have e : (Str.join "" (y :: z :: ys)).cps.toList = y.cps.toList ++ (Str.join "" (z :: ys)).cps.toList := by
      have h1 := TL.tl_join "" (y :: z :: ys)
      have h2 := TL.tl_join "" (z :: ys)
      exact h1.trans (congrArg (y.cps.toList ++ ·) h2.symm)
    have hy := h y (by simp)
    refine ⟨?_, fun c hc => ?_⟩
    · show (Str.join "" (y :: z :: ys)).cps.size ≤ _
      rw [← Array.length_toList, e, List.length_append]
      have h3 : y.cps.toList.length ≤ 1 := hy.1
      have h4 : (Str.join "" (z :: ys)).cps.toList.length ≤ (z :: ys).length := ih.1
      simp only [List.length_cons] at *
      omega
    · rw [e, List.mem_append] at hc
      rcases hc with q | q
      · exact hy.2 c q
      · exact ih.2 c q
theorem toStrs_of : ∀ {ds : List D}, (∀ d ∈ ds, ∃ x, d = .str x ∧ AS 1 x) → ∃ xs, toStrs ds = some xs ∧ xs.length = ds.length ∧ ∀ x ∈ xs, AS 1 x
  | [], _ => ⟨[], rfl, rfl, fun _ h => by cases h⟩
  | d :: ds, h => by
    obtain ⟨x, rfl, hx⟩ := h d (by simp)
    obtain ⟨xs, e, l, k⟩ := toStrs_of (ds := ds) fun z hz => h z (List.mem_cons_of_mem _ hz)
    refine ⟨x :: xs, by show (toStrs ds).map (x :: ·) = _; rw [e]; rfl, by simp [l], fun z hz => ?_⟩
    rcases List.mem_cons.mp hz with rfl | q
    · exact hx
    · exact k z q
theorem range_one {j : Int} (h0 : 0 ≤ j) (h1 : j ≤ 1000000) : rangeD [.int j] = pure (rangeL 0 j) := if_pos ⟨by omega, by omega⟩
theorem rangeL_len (j : Int) : (rangeL 0 j).length = j.toNat := by unfold rangeL; rw [List.length_map, List.length_range]; omega
theorem letters_ok (S : Sto) : mr_law_letters [] S = .ok (.str abc) S := rfl
theorem called_ok : HT 10 (mr_law_called [.mref 0]) fun d => ∃ x, d = .str x ∧ AS 8 x := by
  intro t g b
  obtain ⟨_, t1, e1, g1, b1, k, rfl, k0, k1⟩ := draw_ok 3 (by omega) (by omega) t g (by omega)
  unfold mr_law_called runB
  by_cases q : 0 < k
  · simp [startD, lstD, size_big, e1, q, addD]
    obtain ⟨d, t2, e2, g2, b2, hd⟩ := pick_lst (xs := [.str "a", .str "b", .str "ab", .str "ann", .str "tea", .str "put", .str "take", .str "end", .str "none", .str "all", .str "row", .str "newest", .str "zzzzzzzz", .str "zzzzzzz"]) (by simp) (by decide) t1 g1 (by omega)
    rw [e2]
    refine ⟨d, t2, rfl, g2, by omega, ?_⟩
    have : ∀ d ∈ ([.str "a", .str "b", .str "ab", .str "ann", .str "tea", .str "put", .str "take", .str "end", .str "none", .str "all", .str "row", .str "newest", .str "zzzzzzzz", .str "zzzzzzz"] : List D), ∃ x, d = .str x ∧ AS 8 x := by
      intro d hd
      simp only [List.mem_cons, List.not_mem_nil, or_false] at hd
      rcases hd with rfl | rfl | rfl | rfl | rfl | rfl | rfl | rfl | rfl | rfl | rfl | rfl | rfl | rfl <;> exact ⟨_, rfl, by decide +kernel, by decide +kernel⟩
    exact this d hd
  · simp [startD, lstD, size_big, e1, q, addD_lst]
    obtain ⟨_, t2, e2, g2, b2, j, rfl, j0, j1⟩ := draw_ok 8 (by omega) (by omega) t1 g1 (by omega)
    rw [e2]
    have len : (rangeL 0 (1 + j)).length ≤ 8 := by rw [rangeL_len]; omega
    have one : ∀ d x, HT 1 (mCall 2 mr_law_pick (mCons (mVar 0) (mCons (fun x => mr_law_letters []) mNil)) [] [some (.val (.mref 0)), x, some (.val d)]) fun d => ∃ x, d = .str x ∧ AS 1 x := by
      intro d x t g b
      obtain ⟨_, t4, e4, g4, b4, c, rfl, hc⟩ := pick_str (z := abc) (by decide +kernel) (by decide +kernel) t g b
      refine ⟨.str ⟨#[c]⟩, t4, ?_, g4, b4, _, rfl, Nat.le_refl 1, fun z hz => ?_⟩
      · simp [letters_ok, e4]
      · have : z = c := by simpa using hz
        rw [this]
        exact abc_asc c hc
    obtain ⟨r, t3, e3, g3, b3, ys, hr, hl, hy⟩ := (ht_lc (ws := [2]) (T := .nm 2) (me := mCall 2 mr_law_pick (mCons (mVar 0) (mCons (fun x => mr_law_letters []) mNil)) []) (n := 1) (P := fun d => ∃ x, d = .str x ∧ AS 1 x)
      (t := [some (.val (.mref 0)), some (.val (.lst [.str "a", .str "b", .str "ab", .str "ann", .str "tea", .str "put", .str "take", .str "end", .str "none", .str "all", .str "row", .str "newest", .str "zzzzzzzz"])), none]) (rangeL 0 (1 + j)) [] (fun d hd => ⟨_, rfl, one d _⟩) (size_big _ (by simp; omega))).noE t2 g2 (by omega)
    · simp only [andThen_ok, addD_int, pure_bind, run_pure, range_one (show 0 ≤ 1 + j by omega) (by omega), run_bind, e3]
      rw [List.nil_append] at hr
      subst hr
      obtain ⟨xs, ex, el, ea⟩ := toStrs_of hy
      have hz : (xs.map (·.length)).sum ≤ xs.length := by
        clear ex el
        induction xs with
        | nil => simp
        | cons x xs ih =>
          have h1 := (ea x (by simp)).1
          have h2 := ih fun z hz => ea z (List.mem_cons_of_mem _ hz)
          simp
          omega
      have ej : joinD (.str "") (.lst r) = pure (.str (Txt.join "" xs)) := by
        unfold joinD
        dsimp only
        rw [ex]
        exact if_pos (by
          have : ("" : Str).length = 0 := rfl
          rw [this]
          omega)
      rw [ej]
      exact ⟨_, t3, rfl, g3, by omega, _, rfl, (join_asc ea).up (by omega)⟩
end LW

namespace LW
open PySem PySem.Spec PyProof.Rows L2 RM
theorem signs_ok : ∃ z : Str, AS 200 z ∧ 0 < z.length ∧ ∀ S, mr_law_signs [] S = .ok (.str z) S := by
  refine ⟨"\n !#$&'()*+,-./0123456789:;<=>?@ABCDEFGHIJKLMNOPQRSTUVWXYZ[]^_`" ++ abc ++ "{|}~", ⟨by decide +kernel, by decide +kernel⟩, by decide +kernel, fun S => ?_⟩
  unfold mr_law_signs runB
  simp [startD, letters_ok]
  rw [addD_str (by decide +kernel)]
  simp
  rw [addD_str (by decide +kernel)]
  simp
theorem near_name_ok : HT 14 (mr_law_near_name [.mref 0]) fun d => ∃ x, d = .str x ∧ AS 300 x := by
  intro t g b
  obtain ⟨_, t1, e1, g1, b1, x, rfl, hx⟩ := called_ok t g (by omega)
  obtain ⟨_, t2, e2, g2, b2, k, rfl, k0, k1⟩ := draw_ok 4 (by omega) (by omega) t1 g1 (by omega)
  have hs := hx.size (by omega)
  have hl := hx.1
  obtain ⟨_, t3, e3, g3, b3, j, rfl, j0, j1⟩ := draw_ok (x.length + 1) (by omega) (by omega) t2 g2 (by omega)
  unfold mr_law_near_name runB
  by_cases q0 : k = 0
  · obtain ⟨z, hz, hz0, ez⟩ := signs_ok
    have hz1 := hz.1
    obtain ⟨_, t4, e4, g4, b4, c, rfl, hc⟩ := pick_str hz0 (by omega) t3 g3 (by omega)
    have a1 := hx.cut none (some j)
    have a2 := hx.cut (some j) none
    have a3 : AS 1 (⟨#[c]⟩ : Str) := ⟨Nat.le_refl 1, fun w hw => by
      have : w = c := by simpa using hw
      rw [this]; exact hz.2 c hc⟩
    have a4 := a1.app a3
    have a5 := a4.app a2
    refine ⟨.str (cutS x none (some j) ++ ⟨#[c]⟩ ++ cutS x (some j) none), t4, ?_, g4, by omega, _, rfl, a5.up (by omega)⟩
    have s1 : (cutS x none (some j)).length + (⟨#[c]⟩ : Str).length ≤ sizeLine := size_big _ (by have := a1.1; have := a3.1; omega)
    have s2 : (cutS x none (some j) ++ (⟨#[c]⟩ : Str)).length + (cutS x (some j) none).length ≤ sizeLine := size_big _ (by have := a4.1; have := a2.1; omega)
    simp [startD, e1, e2, e3, lenD_str hs, q0, sliceD, hs, ez, e4, setVs, addD_str s1, addD_str s2]
  · by_cases q1 : k = 1
    · obtain ⟨_, t4, e4, g4, b4, i, rfl, i0, i1⟩ := draw_ok 3 (by omega) (by omega) t3 g3 (by omega)
      have a1 : AS 17 (x ++ "abcdefghi") := hx.app (⟨by decide +kernel, by decide +kernel⟩ : AS 9 "abcdefghi")
      refine ⟨.str (cutS (x ++ "abcdefghi") none (some (7 + i))), t4, ?_, g4, by omega, _, rfl, (a1.cut _ _).up (by omega)⟩
      have s1 : x.length + ("abcdefghi" : Str).length ≤ sizeLine := size_big _ (by have : ("abcdefghi" : Str).length = 9 := rfl; omega)
      simp [startD, e1, e2, e3, lenD_str hs, q1, sliceD, hs, e4, setVs, addD_str s1, a1.size]
    · by_cases q2 : k = 2
      · refine ⟨.str (cutS x none (some j)), t3, ?_, g3, by omega, _, rfl, (hx.cut _ _).up (by omega)⟩
        simp [startD, e1, e2, e3, lenD_str hs, q2, sliceD, hs, setVs]
      · refine ⟨.str x, t3, ?_, g3, by omega, _, rfl, hx.up (by omega)⟩
        simp [startD, e1, e2, e3, lenD_str hs, q0, q1, q2, sliceD, hs, setVs]
end LW

namespace LW
open PySem PySem.Spec PyProof.Rows L2 RM
theorem putO_in {xs : List D} {y : D} {k : Int} (h0 : 0 ≤ k) (h1 : k < xs.length) : putO xs y (.int k) = some (xs.set k.toNat y) := by
  unfold putO ixN
  dsimp only
  rw [if_pos h0, if_pos h1]; rfl
theorem popO_in {xs : List D} {k : Int} (h0 : 0 ≤ k) (h1 : k < xs.length) (h2 : k < 1000) : ∃ y, popO xs (.int k) = some (y, xs.eraseIdx k.toNat) := by
  have hlt : k.toNat < xs.length := by omega
  refine ⟨xs[k.toNat], ?_⟩
  unfold popO
  dsimp only
  rw [if_pos ⟨by omega, by omega⟩]
  have : seqIndex? k xs.length = some k.toNat := by
    unfold seqIndex?
    simp [show ¬ k < 0 by omega, h0, h1]
  rw [this]
  simp [List.getElem?_eq_getElem hlt]
theorem fine_set {xs : List D} {y : D} (h : fineL xs = true) (hy : fineD y = true) (i : Nat) : fineL (xs.set i y) = true :=
  fineL_iff.mpr fun d hd => by
    rcases List.mem_or_eq_of_mem_set hd with q | q
    · exact fineL_iff.mp h d q
    · rw [q]; exact hy
theorem fine_erase {xs : List D} (h : fineL xs = true) (i : Nat) : fineL (xs.eraseIdx i) = true := fineL_iff.mpr fun d hd => fineL_iff.mp h d (List.mem_of_mem_eraseIdx hd)
theorem fine_app {xs : List D} {y : D} (h : fineL xs = true) (hy : fineD y = true) : fineL (xs ++ [y]) = true := fineL_iff.mpr fun d hd => by
  rcases List.mem_append.mp hd with q | q
  · exact fineL_iff.mp h d q
  · rw [List.mem_singleton.mp q]; exact hy
theorem near_deal_ok : HT 40 (mr_law_near_deal [.mref 0]) fun d => fineD d = true := by
  intro t g b
  obtain ⟨_, t1, e1, g1, b1, x, rfl, hx⟩ := called_ok t g (by omega)
  obtain ⟨_, t2, e2, g2, b2, y, rfl, hy⟩ := called_ok t1 g1 (by omega)
  obtain ⟨_, t3, e3, g3, b3, u, rfl, u0, u1⟩ := draw_ok 5 (by omega) (by omega) t2 g2 (by omega)
  obtain ⟨_, t4, e4, g4, b4, v, rfl, v0, v1⟩ := draw_ok 1000000000001 (by omega) (by omega) t3 g3 (by omega)
  obtain ⟨_, t5, e5, g5, b5, k, rfl, k0, k1⟩ := draw_ok 8 (by omega) (by omega) t4 g4 (by omega)
  obtain ⟨_, t6, e6, g6, b6, p, rfl, p0, p1⟩ := draw_ok 4 (by omega) (by omega) t5 g5 (by omega)
  obtain ⟨_, t7, e7, g7, b7, h, rfl, h0, h1⟩ := draw_ok 2 (by omega) (by omega) t6 g6 (by omega)
  have pw : powD (.int 10) (.int 12) = pure (.int 1000000000000) := rfl
  have fx : fineL [.str x, .str y, .int u, .int v] = true := by
    show (fineD (.str x) && (fineD (.str y) && true)) = true
    rw [hx.fine (by omega), hy.fine (by omega)]; rfl
  unfold mr_law_near_deal runB
  by_cases q0 : k = 0
  · obtain ⟨d, t8, e8, g8, b8, hd⟩ := odd_ok t7 g7 (by omega)
    refine ⟨.tup (([.str x, .str y, .int u, .int v] : List D).set p.toNat d), t8, ?_, g8, by omega, fine_set fx hd _⟩
    simp [startD, e1, e2, e3, e4, e5, e6, e7, pw, sizeL, size_big, setVs, q0, e8, putO_in p0 (show p < ([.str x, .str y, .int u, .int v] : List D).length from p1), tupleD]
  · by_cases q1 : k = 1
    · obtain ⟨_, t8, e8, g8, b8, z, rfl, hz⟩ := near_name_ok t7 g7 (by omega)
      refine ⟨.tup (([.str x, .str y, .int u, .int v] : List D).set h.toNat (.str z)), t8, ?_, g8, by omega, fine_set fx (hz.fine (by omega)) _⟩
      simp [startD, e1, e2, e3, e4, e5, e6, e7, pw, sizeL, size_big, setVs, q0, q1, e8, putO_in h0 (show h < ([.str x, .str y, .int u, .int v] : List D).length by simp; omega), tupleD]
    · by_cases q2 : k = 2
      · obtain ⟨d, t8, e8, g8, b8, hd⟩ := pick_lst (xs := [.int (-1), .int 0, .bl true, .non, .str "1", .tup [.int 0]]) (by simp) (by decide) t7 g7 (by omega)
        refine ⟨.tup (([.str x, .str y, .int u, .int v] : List D).set (2 + h).toNat d), t8, ?_, g8, by omega, fine_set fx (fineL_iff.mp (by decide +kernel) d hd) _⟩
        simp [startD, e1, e2, e3, e4, e5, e6, e7, pw, sizeL, size_big, setVs, q0, q1, q2, lstD, tupD, e8, putO_in (show 0 ≤ 2 + h by omega) (show 2 + h < ([.str x, .str y, .int u, .int v] : List D).length by simp; omega), tupleD]
      · by_cases q3 : k = 3
        · obtain ⟨d, t8, e8, g8, b8, hd⟩ := pick_lst (xs := ([.str x, .str y, .int u, .int v] : List D)) (by simp) (by simp) t7 g7 (by omega)
          have fd : fineD d = true := fineL_iff.mp fx d hd
          have fl : flatD d = true := by
            simp only [List.mem_cons, List.not_mem_nil, or_false] at hd
            rcases hd with rfl | rfl | rfl | rfl <;> rfl
          refine ⟨.tup (([.str x, .str y, .int u, .int v] : List D) ++ [d]), t8, ?_, g8, by omega, fine_app fx fd⟩
          have e9 := noE_ok e8
          simp [startD, e1, e2, e3, e4, e5, e6, e7, pw, sizeL, size_big, setVs, q0, q1, q2, q3, e9, flatOnly, fl, isTape, show 4 < sizeLine by decide, tupleD]
        · by_cases q4 : k = 4
          · obtain ⟨y', hy'⟩ := popO_in (xs := ([.str x, .str y, .int u, .int v] : List D)) p0 p1 (by omega)
            refine ⟨.tup (([.str x, .str y, .int u, .int v] : List D).eraseIdx p.toNat), t7, ?_, g7, by omega, fine_erase fx _⟩
            simp [startD, e1, e2, e3, e4, e5, e6, e7, pw, sizeL, size_big, setVs, q0, q1, q2, q3, q4, hy', tupleD]
          · by_cases q5 : k = 5
            · refine ⟨.lst ([.str x, .str y, .int u, .int v] : List D), t7, ?_, g7, by omega, fx⟩
              simp [startD, e1, e2, e3, e4, e5, e6, e7, pw, sizeL, size_big, setVs, q0, q1, q2, q3, q4, q5, listD]
            · refine ⟨.tup ([.str x, .str y, .int u, .int v] : List D), t7, ?_, g7, by omega, fx⟩
              simp [startD, e1, e2, e3, e4, e5, e6, e7, pw, sizeL, size_big, setVs, q0, q1, q2, q3, q4, q5, tupleD]
theorem near_span_ok : HT 10 (mr_law_near_span [.mref 0]) fun d => fineD d = true := by
  intro t g b
  obtain ⟨c, t0, e0, g0, b0, hc⟩ := pick_lst (xs := [.int 3, .int 999999901]) (by simp) (by decide) t g (by omega)
  obtain ⟨n, rfl, n0, n1⟩ : ∃ n, c = .int n ∧ 0 < n ∧ n ≤ 10000000000000 := by
    simp only [List.mem_cons, List.not_mem_nil, or_false] at hc
    rcases hc with rfl | rfl
    · exact ⟨_, rfl, by omega, by omega⟩
    · exact ⟨_, rfl, by omega, by omega⟩
  obtain ⟨_, t1, e1, g1, b1, f, rfl, f0, f1⟩ := draw_ok n n0 n1 t0 g0 (by omega)
  obtain ⟨_, t2, e2, g2, b2, k, rfl, k0, k1⟩ := draw_ok 7 (by omega) (by omega) t1 g1 (by omega)
  obtain ⟨_, t3, e3, g3, b3, h, rfl, h0, h1⟩ := draw_ok 2 (by omega) (by omega) t2 g2 (by omega)
  obtain ⟨d, t4, e4, g4, b4, hd⟩ := pick_lst (xs := [.non, .int f, .int (f + 1), .int (f - 1), .int 999999901]) (by simp) (by simp) t3 g3 (by omega)
  have pw : powD (.int 10) (.int 9) = pure (.int 1000000000) := rfl
  have fx : fineL [.int f, d] = true := by
    have : fineD d = true := fineL_iff.mp (show fineL [.non, .int f, .int (f + 1), .int (f - 1), .int 999999901] = true from rfl) d hd
    show (true && (fineD d && true)) = true
    rw [this]; rfl
  unfold mr_law_near_span runB
  by_cases q0 : k = 0
  · obtain ⟨z, t5, e5, g5, b5, hz⟩ := odd_ok t4 g4 (by omega)
    refine ⟨.tup (([.int f, d] : List D).set h.toNat z), t5, ?_, g5, by omega, fine_set fx hz _⟩
    simp [startD, e0, e1, e2, e3, e4, pw, sizeL, lstD, size_big, setVs, q0, e5, putO_in h0 (show h < ([.int f, d] : List D).length from h1), tupleD]
  · by_cases q1 : k = 1
    · refine ⟨.tup ([.int f, d] ++ [.non]), t4, ?_, g4, by omega, fine_app fx rfl⟩
      simp [startD, e0, e1, e2, e3, e4, pw, sizeL, lstD, size_big, setVs, q0, q1, show 2 < sizeLine by decide, tupleD]
    · by_cases q2 : k = 2
      · obtain ⟨y', hy'⟩ := popO_in (xs := [.int f, d]) h0 h1 (by omega)
        refine ⟨.tup (([.int f, d] : List D).eraseIdx h.toNat), t4, ?_, g4, by omega, fine_erase fx _⟩
        simp [startD, e0, e1, e2, e3, e4, pw, sizeL, lstD, size_big, setVs, q0, q1, q2, hy', tupleD]
      · by_cases q3 : k = 3
        · refine ⟨.lst [.int f, d], t4, ?_, g4, by omega, fx⟩
          simp [startD, e0, e1, e2, e3, e4, pw, sizeL, lstD, size_big, setVs, q0, q1, q2, q3, listD]
        · refine ⟨.tup [.int f, d], t4, ?_, g4, by omega, fx⟩
          simp [startD, e0, e1, e2, e3, e4, pw, sizeL, lstD, size_big, setVs, q0, q1, q2, q3, tupleD]
end LW

namespace LW
open PySem PySem.Spec PyProof.Rows L2 RM
theorem good_begun (ns : List Int) (h : ns.length ≤ 63) : RM.Good (begun ns) := by
  have ab : ∀ z : Int, 0 ≤ absI z := fun z => by unfold absI; split <;> omega
  refine ⟨fun z hz => ?_, fun z hz => ?_, Int.le_refl 0, Int.le_refl 0, ?_⟩
  · obtain ⟨c, hc, rfl⟩ := List.mem_map.mp hz
    have := of_decide_eq_true (List.mem_filter.mp hc).2
    omega
  · obtain ⟨c, _, rfl⟩ := List.mem_map.mp hz
    exact ab c
  · show (List.map _ (List.filter _ (List.map absI ns))).length ≤ 1000
    rw [List.length_map]
    have h1 := List.length_filter_le (fun c => decide (10 ^ 18 ≤ c)) (ns.map absI)
    rw [List.length_map] at h1
    omega
def theBox : D := .ins "Box" ["box_who", "box_what", "box_days", "box_amounts"] [.non, .str "a", .tup [.int 0, .non], .tup [.int 0, .non]]
theorem box_ok (t : Tape) : argsM 5 "Box" mr_Box_init [.non, .str "a", .tup [.int 0, .non], .tup [.int 0, .non]] [.tape t] = .ok theBox [.tape t] := by
  kernel_rfl
theorem reprD_of {d : D} {x : PyData} (h : toPy d = some x) (c : x.showable = true ∧ x.depth ≤ 64 ∧ x.shown.length ≤ sizeLine) : reprD [d] = pure (.str x.shown) := by
  unfold reprD
  dsimp only
  rw [h]
  exact if_pos c
theorem repr3 (a b c : Bool) : ∃ s, reprD [.lst [.bl a, .bl b, .bl c]] = pure (.str s) := by
  cases a <;> cases b <;> cases c <;> exact ⟨_, reprD_of rfl ⟨by decide +kernel, by decide +kernel, by decide +kernel⟩⟩
theorem repr4 : ∃ s, reprD [.lst [.bl false, .bl false, .bl false, .bl false]] = pure (.str s) := ⟨_, reprD_of rfl ⟨by decide +kernel, by decide +kernel, by decide +kernel⟩⟩
theorem st_seq {a b : SD} {t t' : DSt} {S S' : Sto} (h : a t S = .ok (.nx t') S') : sSeq a b t S = b t' S' := by
  show (a t S).andThen _ = _
  rw [h]; rfl
theorem st_if {c : DSt → M Bool} {a b : SD} {t : DSt} {S S' : Sto} (h : c t S = .ok false S') : sIf c a b t S = b t S' := by
  show (c t S).andThen _ = _
  rw [h]; rfl
theorem st_set {i : Nat} {m : MD} {d : D} {t t' : DSt} {S S' : Sto} (h : m t S = .ok d S') (h2 : setV t i d = some t') : sSet i m t S = .ok (.nx t') S' := by
  show (m t S).andThen _ = _
  rw [h, andThen_ok, run_bind, h2]; rfl
theorem st_call1 {g : List D → M D} {m : MD} {d r : D} {t : DSt} {S S' S2 : Sto} (h : m t S = .ok d S') (h2 : g [d] S' = .ok r S2) : mCall 1 g (mCons m mNil) [] t S = .ok r S2 := by
  show ((m t S).andThen _).andThen _ = _
  rw [h]; exact h2
theorem st_callK1 {g : List D → M D} {m : MD} {d r : D} {t : DSt} {S S' S2 : Sto} (h : m t S = .ok d S') (h2 : g [d] S' = .ok r S2) : mCallK 1 g (mCons m mNil) t S = .ok r S2 := by
  show ((m t S).andThen _).andThen _ = _
  rw [h]; exact h2
theorem st_nil {t : DSt} {S : Sto} : mNil t S = .ok [] S := rfl
theorem st_cons {m : MD} {ms : DSt → M (List D)} {d : D} {ds : List D} {t : DSt} {S S' S2 : Sto} (h : m t S = .ok d S') (h2 : ms t S' = .ok ds S2) : mCons m ms t S = .ok (d :: ds) S2 := by
  show (m t S).andThen _ = _
  rw [h, andThen_ok, run_bind, h2]; rfl
theorem st_a {f : List D → M D} {ms : DSt → M (List D)} {ds : List D} {r : D} {t : DSt} {S S' S2 : Sto} (h : ms t S = .ok ds S') (h2 : f ds S' = .ok r S2) : mA f ms t S = .ok r S2 := by
  show (ms t S).andThen _ = _
  rw [h]; exact h2
theorem st_2 {f : D → D → M D} {m n : MD} {d e r : D} {t : DSt} {S S1 S2 S3 : Sto} (h : m t S = .ok d S1) (h2 : n t S1 = .ok e S2) (h3 : f d e S2 = .ok r S3) : m2 f m n t S = .ok r S3 := by
  show (m t S).andThen _ = _
  rw [h, andThen_ok, run_bind, h2]; exact h3
theorem st_t {m : MD} {b : Bool} {t : DSt} {S S' : Sto} (h : m t S = .ok (.bl b) S') : mT m t S = .ok b S' := by
  show (m t S).andThen _ = _
  rw [h]; rfl
theorem lst_run {xs : List D} (h : xs.length ≤ 1000000) (S : Sto) : lstD xs S = .ok (.lst xs) S := by rw [lstD_ok (size_big _ h)]; rfl
theorem ne_same (s : Str) (S : Sto) : neD (.str s) (.str s) S = .ok (.bl false) S := by rw [neD_str, beq_self_eq_true]; rfl
/-- one item is asked of -/
theorem item_ok {ns : List Int} {d : D} (hd : fineD d = true) {a b c e f : Option DV} : HT 0 (stepD (Tgt.nm 4).set mr_law_b1 d [some (.val (.scr ns)), some (.val (.mref 0)), a, b, c, e, f]) fun r => ∃ t', r = .nx t' ∧ ∃ c' e', t' = [some (.val (.scr ns)), some (.val (.mref 0)), a, b, c', e', f] := by
  intro t g _
  obtain ⟨s, es⟩ := repr3 (nameB d) (dealB d) (spanB d)
  have er : ∀ S, reprD [.lst [.bl (nameB d), .bl (dealB d), .bl (spanB d)]] S = .ok (.str s) S := fun S => by rw [es]; rfl
  refine ⟨.nx [some (.val (.scr ns)), some (.val (.mref 0)), a, b, some (.val d), some (.val (.lst [.bl (nameB d), .bl (dealB d), .bl (spanB d)])), f], t, ?_, g, by omega, _, rfl, _, _, rfl⟩
  have v4 : ∀ x S, mVar 4 [some (.val (.scr ns)), some (.val (.mref 0)), a, b, some (.val d), x, f] S = .ok d S := fun _ _ => rfl
  show mr_law_b1 [some (.val (.scr ns)), some (.val (.mref 0)), a, b, some (.val d), e, f] [.tape t] = _
  unfold mr_law_b1
  refine (st_seq (st_set (st_a (st_cons (st_call1 (v4 _ _) (called_pure hd _)) (st_cons (st_call1 (v4 _ _) (dealt_ok hd _)) (st_cons (st_call1 (v4 _ _) (span_ok hd _)) st_nil))) (lst_run (by simp) _)) rfl)).trans ?_
  refine (st_seq ((st_if (st_t (st_2 (st_a (st_cons (st_a (st_cons (st_call1 (v4 _ _) (name_ok hd _)) (st_cons (st_call1 (v4 _ _) (sale_ok hd _)) (st_cons (st_call1 (v4 _ _) (stretch_ok hd _)) st_nil))) (lst_run (by simp) _)) st_nil) (er _)) (st_a (st_cons rfl st_nil) (er _)) (ne_same s _)))).trans rfl)).trans ?_
  exact (st_if (st_t (st_2 (st_a (st_cons (st_a (st_cons (st_callK1 (v4 _ _) (name_ok hd _)) (st_cons (st_callK1 (v4 _ _) (sale_ok hd _)) (st_cons (st_callK1 (v4 _ _) (stretch_ok hd _)) st_nil))) (lst_run (by simp) _)) st_nil) (er _)) (st_a (st_cons rfl st_nil) (er _)) (ne_same s _)))).trans rfl
theorem st_for {T : Tgt} {mi : DSt → M (List D)} {bd : SD} {ds : List D} {c : Ctl} {t : DSt} {S S' S2 : Sto} (h : mi t S = .ok ds S') (h2 : forD (stepD T.set bd) ds t S' = .ok c S2) : sFor T mi bd t S = .ok c S2 := by
  show (mi t S).andThen _ = _
  rw [h]; exact h2
theorem st_any {m : MD} {d : D} {ds : List D} {t : DSt} {S S' : Sto} (h : m t S = .ok d S') (h2 : iterD d S' = .ok ds S') : iAny m t S = .ok ds S' := by
  show (m t S).andThen _ = _
  rw [h]; exact h2
theorem st_make {n : Nat} {c : Str} {g : List D → M D} {ms : DSt → M (List D)} {xs dds : List D} {r : D} {t : DSt} {S S' S2 : Sto} (h : ms t S = .ok xs S') (h2 : argsM n c g (xs ++ dds) S' = .ok r S2) : mMake n c g ms dds t S = .ok r S2 := by
  show (ms t S).andThen _ = _
  rw [h]; exact h2
theorem add_run {xs ys : List D} (h : xs.length + ys.length ≤ 1000000) (S : Sto) : addD (.lst xs) (.lst ys) S = .ok (.lst (xs ++ ys)) S := by rw [addD_lst (size_big _ h)]; rfl
theorem round_ok {ns : List Int} {d : D} {a b c e f : Option DV} : HT 120 (stepD (Tgt.nm 2).set mr_law_b2 d [some (.val (.scr ns)), some (.val (.mref 0)), a, b, c, e, f]) fun r => ∃ t', r = .nx t' ∧ ∃ a b c e f, t' = [some (.val (.scr ns)), some (.val (.mref 0)), a, b, c, e, f] := by
  intro t g bd
  obtain ⟨_, t1, e1, g1, b1, x, rfl, hx⟩ := near_name_ok t g (by omega)
  obtain ⟨i2, t2, e2, g2, b2, h2⟩ := near_deal_ok t1 g1 (by omega)
  obtain ⟨i3, t3, e3, g3, b3, h3⟩ := near_span_ok t2 g2 (by omega)
  obtain ⟨i4, t4, e4, g4, b4, h4⟩ := odd_ok t3 g3 (by omega)
  obtain ⟨i5, t5, e5, g5, b5, h5⟩ := near_deal_ok t4 g4 (by omega)
  obtain ⟨i6, t6, e6, g6, b6, h6⟩ := near_span_ok t5 g5 (by omega)
  have h1 := hx.fine (by omega)
  obtain ⟨_, t7, e7, g7, b7, _, rfl, c', e', rfl⟩ := ht_for (step := stepD (Tgt.nm 4).set mr_law_b1) (n := 0) (I := fun t => ∃ c' e', t = [some (.val (.scr ns)), some (.val (.mref 0)), some (.val d), some (.val (.lst [.str x, i2, i3, i4, i5, i6])), c', e', f])
    [.str x, i2, i3, i4, i5, i6] [some (.val (.scr ns)), some (.val (.mref 0)), some (.val d), some (.val (.lst [.str x, i2, i3, i4, i5, i6])), c, e, f] ⟨_, _, rfl⟩ (fun z hz t => by
      rintro ⟨c', e', rfl⟩
      refine item_ok ?_
      simp only [List.mem_cons, List.not_mem_nil, or_false] at hz
      rcases hz with rfl | rfl | rfl | rfl | rfl | rfl <;> assumption) t6 g6 (by omega)
  have fb : fineD theBox = true := by decide +kernel
  have fl : fineD (.lst [theBox]) = true := by decide +kernel
  have k1 : ∀ S, mr_is_name [theBox] S = .ok (.bl false) S := fun S => name_ok fb S
  have k2 : ∀ S, mr_is_sale [theBox] S = .ok (.bl false) S := fun S => sale_ok fb S
  have k3 : ∀ S, mr_is_stretch [theBox] S = .ok (.bl false) S := fun S => stretch_ok fb S
  have k4 : ∀ S, mr_is_sale [.lst [theBox]] S = .ok (.bl false) S := fun S => sale_ok fl S
  obtain ⟨s, es⟩ := repr4
  have er : ∀ S, reprD [.lst [.bl false, .bl false, .bl false, .bl false]] S = .ok (.str s) S := fun S => by rw [es]; rfl
  have ml : ∀ S, mulD (.lst [.bl false]) (.int 4) S = .ok (.lst [.bl false, .bl false, .bl false, .bl false]) S := fun S => rfl
  refine ⟨.nx [some (.val (.scr ns)), some (.val (.mref 0)), some (.val d), some (.val (.lst [.str x, i2, i3, i4, i5, i6])), c', e', some (.val theBox)], t7, ?_, g7, by omega, _, rfl, _, _, _, _, _, rfl⟩
  show mr_law_b2 [some (.val (.scr ns)), some (.val (.mref 0)), some (.val d), b, c, e, f] [.tape t] = _
  unfold mr_law_b2
  have v1 : ∀ y S, mVar 1 [some (.val (.scr ns)), some (.val (.mref 0)), some (.val d), y, c, e, f] S = .ok (.mref 0) S := fun _ _ => rfl
  have v6 : ∀ S, mVar 6 [some (.val (.scr ns)), some (.val (.mref 0)), some (.val d), some (.val (.lst [.str x, i2, i3, i4, i5, i6])), c', e', some (.val theBox)] S = .ok theBox S := fun _ => rfl
  refine (st_seq (st_set (st_a (st_cons (st_call1 (v1 _ _) e1) (st_cons (st_call1 (v1 _ _) e2) (st_cons (st_call1 (v1 _ _) e3) (st_cons (st_call1 (v1 _ _) e4) st_nil)))) (lst_run (by simp) _)) rfl)).trans ?_
  refine (st_seq (st_set (st_2 rfl (st_a (st_cons (st_call1 (v1 _ _) e5) (st_cons (st_call1 (v1 _ _) e6) st_nil)) (lst_run (by simp) _)) (add_run (by simp) _)) rfl)).trans ?_
  refine (st_seq (st_for (st_any rfl rfl) e7)).trans ?_
  refine (st_seq (st_set (st_make (st_cons rfl (st_cons rfl st_nil)) (box_ok t7)) rfl)).trans ?_
  exact (st_if (st_t (st_2 (st_a (st_cons (st_a (st_cons (st_call1 (v6 _) (k1 _)) (st_cons (st_call1 (v6 _) (k2 _)) (st_cons (st_call1 (v6 _) (k3 _)) (st_cons (st_call1 (st_a (st_cons (v6 _) st_nil) (lst_run (by simp) _)) (k4 _)) st_nil)))) (lst_run (by simp) _)) st_nil) (er _)) (st_a (st_cons (st_2 (st_a (st_cons rfl st_nil) (lst_run (by simp) _)) rfl (ml _)) st_nil) (er _)) (ne_same s _)))).trans rfl
theorem law_ok (ns : List Int) (h : ns.length ≤ 63) : ∃ S', mr_law [.scr ns] [] = .ok (.bl true) S' := by
  have eb : begunD [.scr ns] [] = .ok (.mref 0) [.tape (begun ns)] := if_pos (by omega)
  have gb := good_begun ns h
  obtain ⟨w, ew, w0, w1⟩ : ∃ w : Int, minD [.int ns.length, .int 40] = pure (.int w) ∧ 0 ≤ w ∧ w ≤ 40 := by
    refine ⟨_, rfl, ?_, ?_⟩ <;> split <;> omega
  unfold mr_law runB
  simp [startD, mr_law_begun, eb, ew, range_one (show 0 ≤ 12 + w by omega) (by omega)]
  obtain ⟨_, t1, e1, g1, b1, _, rfl, a, b, c, e, f, rfl⟩ := ht_for (step := stepD (Tgt.nm 2).set mr_law_b2) (n := 120) (I := fun t => ∃ a b c e f, t = [some (.val (.scr ns)), some (.val (.mref 0)), a, b, c, e, f]) (rangeL 0 (12 + w)) [some (.val (.scr ns)), some (.val (.mref 0)), none, none, none, none, none] ⟨_, _, _, _, _, rfl⟩ (fun z _ t => by
    rintro ⟨a, b, c, e, f, rfl⟩
    exact round_ok) (begun ns) gb (by rw [rangeL_len]; show (0 : Int) + _ ≤ _; omega)
  rw [e1]
  exact ⟨_, rfl⟩
end LW

open PySem PySem.W PySem.Calls PyProof.Rows
theorem PySem.Challenge.cw_rowsmeet_k01_names_sales_and_stretches_holds : PySem.Challenge.rw_rowsmeet_k01_names_sales_and_stretches.Holds := by
  w_on; o_law
  refine HandSHeadRun.head_any (r := LW.R) (q := view LW.R.prog [31]) (H := LW.hk) (ob := LW.ob) (M := 4000) (loose := LW.loose) (d := HandSHeadRun.topDef LW.R.prog 31) (kwd := []) LW.ob_eq (by kernel_rfl) (fun s => by kernel_rfl) LW.run
    (by kernel_rfl) (by kernel_rfl) (by kernel_rfl) (by rfl) (by first | assumption | decide +kernel) (by decide +kernel) ⟨rfl, rfl, rfl, rfl, rfl, by decide +kernel⟩ ?hw ?hc
  case hw => w_witness2
  case hc =>
    refine RM.walk_G (l := PySem.Challenge.rw_rowsmeet_k01_names_sales_and_stretches) (n := 63) (k := 6) (x := "_law_script") (g := LW.mr_law) rfl (by decide) (by kernel_rfl) ⟨rfl, by decide, by decide⟩ ?_ (fun ns h _ => LW.law_ok ns h)
    intro w mg fa h Y G hmg0
    obtain ⟨K, KX, c⟩ := Y
    have nm : (HandSHeadRun.topDef LW.R.prog 31).name = ("law" : PySem.Str) := by kernel_rfl
    have hmg : mg ("law" : PySem.Str) = some (.ref fa) := by rw [← nm]; exact hmg0
    have T := LW.txt KX G c
    obtain ⟨fd, F, _⟩ := LW.ok_law (P := (PySem.Challenge.rw_rowsmeet_k01_names_sales_and_stretches).prog) (w := w) (base := h) T
    have ef : fa = He.ga K "law" := by
      have e := hmg.symm.trans T.g_law
      cases e
      rfl
    subst ef
    have b := L2.FunD.bindsA (ps := ["_law_script"]) F fun _ _ _ _ _ _ us hl => match us, hl with | [_], _ => rfl
    refine ⟨K, fd, KX, fun s u => b s [u] rfl, fun base _ _ => ?_⟩
    obtain ⟨fd2, F2, O2⟩ := LW.ok_law (P := (PySem.Challenge.rw_rowsmeet_k01_names_sales_and_stretches).prog) (w := w) (base := base) T
    have e2 : fd2 = fd := RM.funSame F F2
    rw [← e2]
    exact O2.fn
