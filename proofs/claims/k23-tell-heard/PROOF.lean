import PyProof.Rows.All
import Wide.All
import OpenK.AllK
import Wide.FinOn
import HandS.ForMost
import HandS.ForExc
import HandS.Defaults
import HandS.IsInst
import HandS.Flow
import HandS.Deep
import HandS.TupAny
import HandS.TupLe
import HandS.ExcOwn
import HandS.HeadEnd
import HandS.SortKw
import KE.SortKeyHeap
import KE.KStateDown
import HandS.More
import HandS.Head0
import HandS.Head1
import HandS.Head2
import HandS.HeadHook1
import HandS.HeadHook2
import PySem.Challenge.RW_oneslate_k23_a_tell_heard
set_option Elab.async false
set_option linter.all false
set_option maxRecDepth 100000
set_option maxHeartbeats 4000000
/-! Rf1: plain data D, abstract states, and how they stand for the layer's values and heaps. -/
namespace Rf
open PySem PySem.Spec PyProof.Rows L2

/-- data: bor is a list that someone may still change (read only), ob a mutable object by its number -/
inductive D where
  | non | bl (b : Bool) | int (i : Int) | str (x : Str) | tup (l : List D) | lst (l : List D) | bor (l : List D) | ob (n : Nat)
  deriving Inhabited
inductive Loc where
  | slot (i : Nat) | obj (n : Nat) | fld (n : Nat) (f : Str)
  deriving DecidableEq
/-- a slot's content: nothing known; a value; a list or a dict that this slot alone holds -/
inductive SV where
  | un | val (d : D) | own (l : List D) | dct (kvs : List (Key × D))
  deriving Inhabited
inductive MO where
  | ins (c : Str) (fs : List (Str × SV)) | lst (l : List D) | dct (kvs : List (Key × D))
abbrev AH := List MO

inductive Res (α : Type) where
  | ok (a : α) | exc (c : Str) | stuck
@[reducible] def Res.bind {α β : Type} : Res α → (α → Res β) → Res β
  | .ok a, f => f a
  | .exc c, _ => .exc c
  | .stuck, _ => .stuck
instance : Monad Res where
  pure := .ok
  bind := Res.bind
theorem Res.bind_ok {α β : Type} (a : α) (f : α → Res β) : (Res.ok a >>= f) = f a := rfl
theorem Res.bind_exc {α β : Type} (c : Str) (f : α → Res β) : ((Res.exc c : Res α) >>= f) = Res.exc c := rfl
theorem Res.bind_stuck {α β : Type} (f : α → Res β) : ((Res.stuck : Res α) >>= f) = Res.stuck := rfl
theorem Res.pure_eq {α : Type} (a : α) : (pure a : Res α) = Res.ok a := rfl

mutual
def Rep (K : PySem.W.Frag) (G : Hp) (ρ : Loc → Option Addr) : D → V → Prop
  | .non, v => v = .non
  | .bl b, v => v = .bl b
  | .int i, v => v = .int i
  | .str x, v => v = .str x
  | .tup l, v => ∃ a vs, v = .ref a ∧ SqT K G a vs ∧ RepL K G ρ l vs
  | .lst l, v => ∃ a vs, v = .ref a ∧ SqL K G a vs ∧ RepL K G ρ l vs
  | .bor _, _ => False
  | .ob n, v => ∃ a, v = .ref a ∧ ρ (.obj n) = some a
def RepL (K : PySem.W.Frag) (G : Hp) (ρ : Loc → Option Addr) : List D → List V → Prop
  | [], vs => vs = []
  | d :: ds, vs => ∃ v r, vs = v :: r ∧ Rep K G ρ d v ∧ RepL K G ρ ds r
end
/-- a value that is read now: a borrowed list stands in H -/
def RepB (K : PySem.W.Frag) (G : Hp) (ρ : Loc → Option Addr) (H : Hp) : D → V → Prop
  | .bor l, v => ∃ a vs, v = .ref a ∧ SqL K H a vs ∧ RepL K G ρ l vs
  | d, v => Rep K G ρ d v

section
variable {K : PySem.W.Frag} {G G' H H' : Hp} {ρ ρ' : Loc → Option Addr}
theorem Same.rd {a : Addr} {xs : List V} (e : Same G G') (h : SqL K G a xs) : SqL K G' a xs := e.seq h
theorem Same.sqT {a : Addr} {xs : List V} (e : Same G G') (h : SqT K G a xs) : SqT K G' a xs := by
  rcases h with (h | ⟨o, h⟩) | h
  · exact .inl (.inl (e _ _ h))
  · exact .inl (.inr ⟨o, e _ _ h⟩)
  · exact .inr h
/-- the objects' places stay -/
def Keeps (ρ ρ' : Loc → Option Addr) : Prop := ∀ n a, ρ (.obj n) = some a → ρ' (.obj n) = some a
theorem Keeps.refl : Keeps ρ ρ := fun _ _ h => h
theorem Keeps.trans {ρ₁ : Loc → Option Addr} (a : Keeps ρ ρ₁) (b : Keeps ρ₁ ρ') : Keeps ρ ρ' := fun n x h => b n x (a n x h)
mutual
theorem Rep.mono (s : Same G G') (k : Keeps ρ ρ') : ∀ (d : D) (v : V), Rep K G ρ d v → Rep K G' ρ' d v
  | .non, _, h => h
  | .bl _, _, h => h
  | .int _, _, h => h
  | .str _, _, h => h
  | .tup l, _, h => by
    obtain ⟨a, vs, e, q, r⟩ := h
    exact ⟨a, vs, e, Same.sqT s q, RepL.mono s k l vs r⟩
  | .lst l, _, h => by
    obtain ⟨a, vs, e, q, r⟩ := h
    exact ⟨a, vs, e, Same.rd s q, RepL.mono s k l vs r⟩
  | .bor _, _, h => h
  | .ob n, _, h => by
    obtain ⟨a, e, q⟩ := h
    exact ⟨a, e, k n a q⟩
theorem RepL.mono (s : Same G G') (k : Keeps ρ ρ') : ∀ (ds : List D) (vs : List V), RepL K G ρ ds vs → RepL K G' ρ' ds vs
  | [], _, h => h
  | d :: ds, _, h => by
    obtain ⟨v, r, e, h1, h2⟩ := h
    exact ⟨v, r, e, Rep.mono s k d v h1, RepL.mono s k ds r h2⟩
end
theorem RepL.length : ∀ {ds : List D} {vs : List V}, RepL K G ρ ds vs → ds.length = vs.length
  | [], _, h => by
    have h : _ = [] := h
    rw [h]
    rfl
  | d :: ds, _, h => by
    obtain ⟨v, r, rfl, _, h2⟩ := h
    rw [List.length_cons, List.length_cons, RepL.length h2]
theorem RepL.nil : RepL K G ρ [] [] := rfl
theorem RepL.cons {d : D} {ds : List D} {v : V} {vs : List V} (h : Rep K G ρ d v) (t : RepL K G ρ ds vs) : RepL K G ρ (d :: ds) (v :: vs) := ⟨v, vs, rfl, h, t⟩
theorem RepL.append : ∀ {ds es : List D} {vs us : List V}, RepL K G ρ ds vs → RepL K G ρ es us → RepL K G ρ (ds ++ es) (vs ++ us)
  | [], es, vs, us, h, t => by
    have h : vs = [] := h
    rw [h]
    exact t
  | d :: ds, es, _, us, h, t => by
    obtain ⟨v, r, rfl, h1, h2⟩ := h
    exact ⟨v, r ++ us, rfl, h1, RepL.append h2 t⟩
theorem RepL.get : ∀ {ds : List D} {vs : List V} {i : Nat} {d : D}, RepL K G ρ ds vs → ds[i]? = some d → ∃ v, vs[i]? = some v ∧ Rep K G ρ d v
  | [], _, _, _, _, e => by simp at e
  | x :: ds, _, 0, d, h, e => by
    obtain ⟨v, r, rfl, h1, h2⟩ := h
    have e : x = d := by simpa using e
    exact ⟨v, rfl, e ▸ h1⟩
  | x :: ds, _, i + 1, d, h, e => by
    obtain ⟨v, r, rfl, h1, h2⟩ := h
    obtain ⟨u, e1, e2⟩ := RepL.get (i := i) (d := d) h2 (by simpa using e)
    exact ⟨u, by simpa using e1, e2⟩
theorem RepL.get' : ∀ {ds : List D} {vs : List V} {i : Nat} {v : V}, RepL K G ρ ds vs → vs[i]? = some v → ∃ d, ds[i]? = some d ∧ Rep K G ρ d v := fun {ds vs i v} h e => by
  have hi : i < vs.length := (List.getElem?_eq_some_iff.mp e).1
  rw [← h.length] at hi
  obtain ⟨u, e1, e2⟩ := h.get (List.getElem?_eq_getElem hi)
  rw [e] at e1
  cases e1
  exact ⟨_, List.getElem?_eq_getElem hi, e2⟩
theorem RepL.take : ∀ {ds : List D} {vs : List V} (n : Nat), RepL K G ρ ds vs → RepL K G ρ (ds.take n) (vs.take n)
  | _, _, 0, _ => rfl
  | [], vs, n + 1, h => by
    have h : vs = [] := h
    rw [h]
    exact rfl
  | d :: ds, _, n + 1, h => by
    obtain ⟨v, r, rfl, h1, h2⟩ := h
    exact ⟨v, r.take n, rfl, h1, RepL.take n h2⟩
theorem RepL.drop : ∀ {ds : List D} {vs : List V} (n : Nat), RepL K G ρ ds vs → RepL K G ρ (ds.drop n) (vs.drop n)
  | _, _, 0, h => h
  | [], vs, n + 1, h => by
    have h : vs = [] := h
    rw [h]
    exact rfl
  | d :: ds, _, n + 1, h => by
    obtain ⟨v, r, rfl, h1, h2⟩ := h
    exact RepL.drop n h2
theorem RepL.set {d : D} {v : V} (hd : Rep K G ρ d v) : ∀ {ds : List D} {vs : List V} (n : Nat), RepL K G ρ ds vs → RepL K G ρ (ds.set n d) (vs.set n v)
  | [], vs, n, h => by
    have h : vs = [] := h
    rw [h]
    exact rfl
  | x :: ds, _, 0, h => by
    obtain ⟨u, r, rfl, h1, h2⟩ := h
    exact ⟨v, r, rfl, hd, h2⟩
  | x :: ds, _, n + 1, h => by
    obtain ⟨u, r, rfl, h1, h2⟩ := h
    exact ⟨u, r.set n v, rfl, h1, RepL.set hd n h2⟩
theorem RepB.mono (s : Same G G') (k : Keeps ρ ρ') (sh : Same H H') {d : D} {v : V} (h : RepB K G ρ H d v) : RepB K G' ρ' H' d v := by
  cases d with
  | bor l =>
    obtain ⟨a, vs, e, q, r⟩ := h
    exact ⟨a, vs, e, Same.rd sh q, RepL.mono s k l vs r⟩
  | _ => exact Rep.mono s k _ v h
def D.isBor : D → Bool
  | .bor _ => true
  | _ => false
theorem RepB.rep {d : D} {v : V} (h : RepB K G ρ H d v) (n : d.isBor = false) : Rep K G ρ d v := by
  cases d with
  | bor l => cases n
  | _ => exact h
theorem Rep.b {d : D} {v : V} (h : Rep K G ρ d v) : RepB K G ρ H d v := by
  cases d with
  | bor l => exact h.elim
  | _ => exact h
theorem Rep.nb {d : D} {v : V} (h : Rep K G ρ d v) : d.isBor = false := by
  cases d with
  | bor l => exact h.elim
  | _ => rfl
def RepBL (K : PySem.W.Frag) (G : Hp) (ρ : Loc → Option Addr) (H : Hp) : List D → List V → Prop
  | [], vs => vs = []
  | d :: ds, vs => ∃ v r, vs = v :: r ∧ RepB K G ρ H d v ∧ RepBL K G ρ H ds r
theorem RepBL.mono (s : Same G G') (k : Keeps ρ ρ') (sh : Same H H') : ∀ {ds : List D} {vs : List V}, RepBL K G ρ H ds vs → RepBL K G' ρ' H' ds vs
  | [], _, h => h
  | d :: ds, _, h => by
    obtain ⟨v, r, e, h1, h2⟩ := h
    exact ⟨v, r, e, h1.mono s k sh, RepBL.mono s k sh h2⟩
theorem RepBL.rep : ∀ {ds : List D} {vs : List V}, RepBL K G ρ H ds vs → ds.any D.isBor = false → RepL K G ρ ds vs
  | [], _, h, _ => h
  | d :: ds, _, h, n => by
    obtain ⟨v, r, e, h1, h2⟩ := h
    rw [List.any_cons, Bool.or_eq_false_iff] at n
    exact ⟨v, r, e, h1.rep n.1, RepBL.rep h2 n.2⟩
theorem RepBL.length : ∀ {ds : List D} {vs : List V}, RepBL K G ρ H ds vs → ds.length = vs.length
  | [], _, h => by
    have h : _ = [] := h
    rw [h]
    rfl
  | d :: ds, _, h => by
    obtain ⟨v, r, rfl, _, h2⟩ := h
    rw [List.length_cons, List.length_cons, RepBL.length h2]
end

/-! ### a slot, a state -/
def RepKV (K : PySem.W.Frag) (G : Hp) (ρ : Loc → Option Addr) : List (Key × D) → List (Key × V) → Prop
  | [], vs => vs = []
  | (k, d) :: ds, vs => ∃ v r, vs = (k, v) :: r ∧ Rep K G ρ d v ∧ RepKV K G ρ ds r
def RepS (K : PySem.W.Frag) (G : Hp) (ρ : Loc → Option Addr) (H : Hp) (l : Loc) : SV → Option V → Prop
  | .un, _ => True
  | .val d, o => ∃ v, o = some v ∧ Rep K G ρ d v
  | .own ds, o => ∃ a vs, o = some (.ref a) ∧ ρ l = some a ∧ H a = some (.lst vs) ∧ RepL K G ρ ds vs
  | .dct kvs, o => ∃ a vs, o = some (.ref a) ∧ ρ l = some a ∧ H a = some (.dK vs) ∧ RepKV K G ρ kvs vs
/-- fields of an instance -/
def RepF (K : PySem.W.Frag) (G : Hp) (ρ : Loc → Option Addr) (H : Hp) (n : Nat) : List (Str × SV) → List (Str × V) → Prop
  | [], vs => vs = []
  | (f, s) :: fs, vs => ∃ v r, vs = (f, v) :: r ∧ RepS K G ρ H (.fld n f) s (some v) ∧ RepF K G ρ H n fs r
/-- the class of a name -/
def clsA (mg : Str → Option Value) (c : Str) : Value := (mg c).getD .none
def RepO (K : PySem.W.Frag) (mg : Str → Option Value) (G : Hp) (ρ : Loc → Option Addr) (H : Hp) (n : Nat) : MO → Prop
  | .ins c fs => ∃ a C dx vs, ρ (.obj n) = some a ∧ mg c = some (.ref C) ∧ H a = some (.ins C dx vs) ∧ RepF K G ρ H n fs vs
  | .lst ds => ∃ a vs, ρ (.obj n) = some a ∧ H a = some (.lst vs) ∧ RepL K G ρ ds vs
  | .dct kvs => ∃ a vs, ρ (.obj n) = some a ∧ H a = some (.dK vs) ∧ RepKV K G ρ kvs vs
def Loc.isSlot : Loc → Bool
  | .slot _ => true
  | _ => false
/-- what is fixed through a body: the heap at its entry, what of it may be changed, what was known at the entry -/
structure Fm where
  B : Hp
  M : Addr → Prop
  G0 : Hp
  rw : Bool
def isTup : HO → Bool
  | .tup _ => true
  | .frz _ _ => true
  | _ => false
structure Rel (K : PySem.W.Frag) (mg : Str → Option Value) (F : Fm) (G : Hp) (ρ : Loc → Option Addr) (σs : List SV) (ah : AH) (σ : L2.St) (H : Hp) : Prop where
  gH : Same G H
  g0 : Same F.G0 G
  gN : ∀ a o, G a = some o → F.G0 a = some o ∨ F.B a = none
  inj : ∀ l l' a, ρ l = some a → ρ l' = some a → l = l'
  dis : ∀ l a, ρ l = some a → G a = none
  liv : ∀ l a, ρ l = some a → ∃ o, H a = some o ∧ isTup o = false
  own : ∀ l a, ρ l = some a → l.isSlot = true → F.B a = none
  may : ∀ l a, ρ l = some a → l.isSlot = false → F.rw = true → F.B a = none ∨ F.M a
  bas : ∀ a o, F.B a = some o → ¬ F.M a → H a = some o
  tra : ∀ a o, F.B a = some o → ∃ o', H a = some o'
  len : σs.length = σ.length
  slo : ∀ (i : Nat) (s : SV) (o : Option V), σs[i]? = some s → σ[i]? = some o → RepS K G ρ H (.slot i) s o
  hea : ∀ (n : Nat) (m : MO), ah[n]? = some m → RepO K mg G ρ H n m
/-- more is known, more is tracked; what is new in G was not tracked -/
structure Ext (G H G' H' : Hp) : Prop where
  g : Same G G'
  h : Same H H'
  n : ∀ a o, G' a = some o → G a = some o ∨ H a = none
theorem Ext.refl {G H : Hp} : Ext G H G H := ⟨Same.refl _, Same.refl _, fun _ _ h => .inl h⟩
theorem Ext.trans {G H G1 H1 G2 H2 : Hp} (a : Ext G H G1 H1) (b : Ext G1 H1 G2 H2) : Ext G H G2 H2 :=
  ⟨a.g.trans b.g, a.h.trans b.h, fun x o h => by
    rcases b.n x o h with h | h
    · exact a.n x o h
    · refine .inr ?_
      exact a.h.free h⟩
section
variable {K : PySem.W.Frag} {mg : Str → Option Value} {F : Fm} {G G' H H' : Hp} {ρ ρ' : Loc → Option Addr} {σs : List SV} {ah : AH} {σ : L2.St}
theorem RepKV.mono (s : Same G G') (k : Keeps ρ ρ') : ∀ {ds : List (Key × D)} {vs : List (Key × V)}, RepKV K G ρ ds vs → RepKV K G' ρ' ds vs
  | [], _, h => h
  | (_, d) :: ds, _, h => by
    obtain ⟨v, r, e, h1, h2⟩ := h
    exact ⟨v, r, e, Rep.mono s k _ _ h1, RepKV.mono s k h2⟩
theorem RepS.mono (s : Same G G') (k : Keeps ρ ρ') {l : Loc} (hl : ∀ a, ρ l = some a → ρ' l = some a ∧ ∀ o, H a = some o → H' a = some o) {x : SV} {o : Option V} (h : RepS K G ρ H l x o) : RepS K G' ρ' H' l x o := by
  cases x with
  | un => trivial
  | val d =>
    obtain ⟨v, e, r⟩ := h
    exact ⟨v, e, Rep.mono s k _ _ r⟩
  | own ds =>
    obtain ⟨a, vs, e, h1, h2, r⟩ := h
    exact ⟨a, vs, e, (hl a h1).1, (hl a h1).2 _ h2, RepL.mono s k _ _ r⟩
  | dct kvs =>
    obtain ⟨a, vs, e, h1, h2, r⟩ := h
    exact ⟨a, vs, e, (hl a h1).1, (hl a h1).2 _ h2, RepKV.mono s k r⟩
theorem RepF.mono (s : Same G G') (k : Keeps ρ ρ') {n : Nat} (hl : ∀ f a, ρ (.fld n f) = some a → ρ' (.fld n f) = some a ∧ ∀ o, H a = some o → H' a = some o) :
    ∀ {fs : List (Str × SV)} {vs : List (Str × V)}, RepF K G ρ H n fs vs → RepF K G' ρ' H' n fs vs
  | [], _, h => h
  | (f, x) :: fs, _, h => by
    obtain ⟨v, r, e, h1, h2⟩ := h
    exact ⟨v, r, e, h1.mono s k (hl f), RepF.mono s k hl h2⟩
theorem RepO.mono (s : Same G G') (k : Keeps ρ ρ') {n : Nat} (ho : ∀ a o, ρ (.obj n) = some a → H a = some o → H' a = some o) (hl : ∀ f a, ρ (.fld n f) = some a → ρ' (.fld n f) = some a ∧ ∀ o, H a = some o → H' a = some o)
    {m : MO} (h : RepO K mg G ρ H n m) : RepO K mg G' ρ' H' n m := by
  cases m with
  | ins c fs =>
    obtain ⟨a, C, dx, vs, h1, h2, h3, h4⟩ := h
    exact ⟨a, C, dx, vs, k n a h1, h2, ho a _ h1 h3, h4.mono s k hl⟩
  | lst ds =>
    obtain ⟨a, vs, h1, h2, r⟩ := h
    exact ⟨a, vs, k n a h1, ho a _ h1 h2, RepL.mono s k _ _ r⟩
  | dct kvs =>
    obtain ⟨a, vs, h1, h2, r⟩ := h
    exact ⟨a, vs, k n a h1, ho a _ h1 h2, RepKV.mono s k r⟩
/-- more heap, more known (nothing changed) -/
theorem Rel.ext (R : Rel K mg F G ρ σs ah σ H) (sG : Same G G') (sH : Same H H') (gH : Same G' H') (gn : ∀ a o, G' a = some o → G a = some o ∨ H a = none) : Rel K mg F G' ρ σs ah σ H' where
  gH := gH
  g0 := R.g0.trans sG
  gN := fun a o h => by
    rcases gn a o h with h | h
    · exact R.gN a o h
    · refine .inr ?_
      cases q : F.B a with
      | none => rfl
      | some u =>
        obtain ⟨u', e⟩ := R.tra a u q
        rw [e] at h
        cases h
  inj := R.inj
  dis := fun l a h => by
    cases q : G' a with
    | none => rfl
    | some o =>
      rcases gn a o q with z | z
      · rw [R.dis l a h] at z
        cases z
      · obtain ⟨u, e, _⟩ := R.liv l a h
        rw [e] at z
        cases z
  liv := fun l a h => let ⟨o, e, t⟩ := R.liv l a h; ⟨o, sH a o e, t⟩
  own := R.own
  may := R.may
  bas := fun a o h m => sH a o (R.bas a o h m)
  tra := fun a o h => let ⟨o', e⟩ := R.tra a o h; ⟨o', sH a o' e⟩
  len := R.len
  slo := fun i s o h1 h2 => (R.slo i s o h1 h2).mono sG .refl fun a ha => ⟨ha, fun o e => sH a o e⟩
  hea := fun n m h => (R.hea n m h).mono sG .refl (fun a o _ e => sH a o e) fun f a ha => ⟨ha, fun o e => sH a o e⟩
/-- a new object that nobody holds yet -/
theorem Rel.new (R : Rel K mg F G ρ σs ah σ H) {p : Addr} {o : HO} (hp : H p = none) : Rel K mg F G ρ σs ah σ (upd H p o) :=
  R.ext (.refl _) (same_new hp) (R.gH.trans (same_new hp)) fun _ _ h => .inl h
where
  same_new {H : Hp} {p : Addr} {o : HO} (h : H p = none) : Same H (upd H p o) := fun b x e => by rw [upd_ne (ne_of_none e h)]; exact e
theorem same_new {H : Hp} {p : Addr} {o : HO} (h : H p = none) : Same H (upd H p o) := fun b x e => by rw [upd_ne (ne_of_none e h)]; exact e
theorem Rel.free (R : Rel K mg F G ρ σs ah σ H) {p : Addr} (hp : H p = none) : G p = none := R.gH.free hp
/-- a new object that is known and never changed -/
theorem Rel.newG (R : Rel K mg F G ρ σs ah σ H) {p : Addr} {o : HO} (hp : H p = none) : Rel K mg F (upd G p o) ρ σs ah σ (upd H p o) := by
  refine R.ext (same_new (R.free hp)) (same_new hp) (fun b x e => ?_) fun a x h => ?_
  · by_cases hb : b = p
    · subst hb
      rw [upd_same] at e ⊢
      exact e
    · rw [upd_ne hb] at e ⊢
      exact R.gH b x e
  · by_cases hb : a = p
    · subst hb
      exact .inr hp
    · rw [upd_ne hb] at h
      exact .inl h
theorem Ext.newG {p : Addr} {o : HO} (g : G p = none) (hp : H p = none) : Ext G H (upd G p o) (upd H p o) :=
  ⟨same_new g, same_new hp, fun a x h => by
    by_cases hb : a = p
    · subst hb
      exact .inr hp
    · rw [upd_ne hb] at h
      exact .inl h⟩
theorem Ext.new {p : Addr} {o : HO} (hp : H p = none) : Ext G H G (upd H p o) := ⟨.refl _, same_new hp, fun _ _ h => .inl h⟩
end
end Rf

set_option Elab.async false
set_option linter.all false
set_option maxRecDepth 100000
set_option maxHeartbeats 4000000
/-! Rf2: judgements; names, constants, operators, comparisons, and/or/not, tuples, lists, subscripts, slices. -/
namespace Rf
open PySem PySem.Spec PyProof.Rows L2

abbrev Sg (α : Type) := List SV → AH → Res α
/-- what a context must bear -/
structure Gd (X : Cx) (W : WX) : Prop where
  tk : Takes X W
  po : PassesOwn (model X.prog X.w) X.A X.env X.xe
  calm : X.calm = true
  nd : X.N.Nodup
  un : X.A.units + 190 < cLine

section
variable {α β γ : Type}
def postR (X : Cx) (W : WX) (F : Fm) (ρ : Loc → Option Addr) (σs : List SV) (ah : AH) (σ : L2.St) (R : Hp → Hp → α → β → Prop) (G H : Hp) (Q : β → Hp → Prop) : Res α → Prop
  | .ok a => ∀ b G' H', Ext G H G' H' → Rel X.K X.mg F G' ρ σs ah σ H' → R G' H' a b → Q b H'
  | .exc c => ∀ dct G' H', Ext G H G' H' → Rel X.K X.mg F G' ρ σs ah σ H' → W (clsA X.mg c) dct σ H'
  | .stuck => False
variable {X : Cx} {W : WX} {F : Fm} {ρ : Loc → Option Addr} {σs : List SV} {ah : AH} {σ : L2.St} {R : Hp → Hp → α → β → Prop} {G H : Hp} {Q Q' : β → Hp → Prop} {r : Res α}
theorem postR.imp (h : postR X W F ρ σs ah σ R G H Q r) (hq : ∀ b H', Q b H' → Q' b H') : postR X W F ρ σs ah σ R G H Q' r := by
  cases r with
  | ok a => exact fun b G' H' e r q => hq _ _ (h b G' H' e r q)
  | exc c => exact h
  | stuck => exact h
theorem postR.ext {G' H' : Hp} (h : postR X W F ρ σs ah σ R G H Q r) (e : Ext G H G' H') : postR X W F ρ σs ah σ R G' H' Q r := by
  cases r with
  | ok a => exact fun b G2 H2 e2 r q => h b G2 H2 (e.trans e2) r q
  | exc c => exact fun d G2 H2 e2 r => h d G2 H2 (e.trans e2) r
  | stuck => exact h
theorem postR.bind {β' : Type} {Qc : β' → Hp → Prop} {Rc : Hp → Hp → γ → β' → Prop} {k : α → Res γ} (h : postR X W F ρ σs ah σ Rc G H Qc (r >>= k)) :
    postR X W F ρ σs ah σ R G H (fun b H' => ∃ a G', Ext G H G' H' ∧ Rel X.K X.mg F G' ρ σs ah σ H' ∧ R G' H' a b ∧ r = .ok a ∧ postR X W F ρ σs ah σ Rc G' H' Qc (k a)) r := by
  cases r with
  | ok a => exact fun b G' H' e q1 q2 => ⟨a, G', e, q1, q2, rfl, postR.ext h e⟩
  | exc c => exact h
  | stuck => exact h
end
abbrev RB (K : PySem.W.Frag) (ρ : Loc → Option Addr) : Hp → Hp → D → V → Prop := fun G H d v => RepB K G ρ H d v
abbrev RBL (K : PySem.W.Frag) (ρ : Loc → Option Addr) : Hp → Hp → List D → List V → Prop := fun G H d v => RepBL K G ρ H d v
abbrev REq : Hp → Hp → Bool → Bool → Prop := fun _ _ a b => a = b
def tE (X : Cx) (W : WX) (f : Sg D) : TE := fun σ H Q => ∃ F G ρ σs ah, Rel X.K X.mg F G ρ σs ah σ H ∧ postR X W F ρ σs ah σ (RB X.K ρ) G H Q (f σs ah)
def tT (X : Cx) (W : WX) (f : Sg Bool) : TT := fun σ H Q => ∃ F G ρ σs ah, Rel X.K X.mg F G ρ σs ah σ H ∧ postR X W F ρ σs ah σ REq G H Q (f σs ah)
def tL (X : Cx) (W : WX) (f : Sg (List D)) : TA := fun σ H Q => ∃ F G ρ σs ah, Rel X.K X.mg F G ρ σs ah σ H ∧ postR X W F ρ σs ah σ (RBL X.K ρ) G H Q (f σs ah)
structure FE (X : Cx) (W : WX) (e : Expr) (f : Sg D) : Prop where
  run : Gd X W → PE X e (tE X W f)
structure FT (X : Cx) (W : WX) (e : Expr) (f : Sg Bool) : Prop where
  run : Gd X W → PT X e (tT X W f)
/-- a test whatever its whole is -/
structure FW (X : Cx) (W : WX) (e : Expr) (f : Sg Bool) : Prop where
  run : Gd X W → PW X e (tT X W f)
structure FA (X : Cx) (W : WX) (es : List Expr) (f : Sg (List D)) : Prop where
  run : Gd X W → PA X es (tL X W f)
theorem _root_.L2.PE.imp {X : Cx} {e : Expr} {t t' : TE} (h : PE X e t) (k : ∀ σ H Q, t' σ H Q → t σ H Q) : PE X e t' := ⟨fun pins s σ H Q I q => h.run pins s σ H Q I (k σ H Q q)⟩
theorem _root_.L2.PT.imp {X : Cx} {e : Expr} {t t' : TT} (h : PT X e t) (k : ∀ σ H Q, t' σ H Q → t σ H Q) : PT X e t' := ⟨fun pins s σ H Q I q => h.run pins s σ H Q I (k σ H Q q)⟩
theorem _root_.L2.PW.imp {X : Cx} {e : Expr} {t t' : TT} (h : PW X e t) (k : ∀ σ H Q, t' σ H Q → t σ H Q) : PW X e t' := ⟨fun wh pins s σ H Q I q => h.run wh pins s σ H Q I (k σ H Q q)⟩
theorem _root_.L2.PA.imp {X : Cx} {e : List Expr} {t t' : TA} (h : PA X e t) (k : ∀ σ H Q, t' σ H Q → t σ H Q) : PA X e t' := ⟨fun pos pins s σ H Q I q => h.run pos pins s σ H Q I (k σ H Q q)⟩

/-! ### names and constants -/
def eVar (i : Nat) : Sg D := fun σs _ => match σs[i]? with
  | some (.val d) => .ok d
  | some (.own l) => .ok (.bor l)
  | _ => .stuck
def eCon (d : D) : Sg D := fun _ _ => .ok d
section
variable {X : Cx} {W : WX} {e a b : Expr} {f g : Sg D} {pos : Pos}
theorem fe_var {x : Str} (i : Nat) (hN : X.N[i]? = some x := by rfl) (hv : Vis X.env.scope x := by first | exact Or.inl rfl | exact Or.inr (Or.inl rfl) | exact Or.inr (Or.inr rfl)) (hd : (x == ("__debug__" : Str)) = false := by decide)
    (hcd : (x == ("__classdict__" : Str)) = false := by decide) : FE X W (.Name x pos) (eVar i) := by
  refine ⟨fun gd => (pe_var hN hv hd hcd).imp ?_⟩
  rintro σ H Q ⟨F, G, ρ, σs, ah, R, h⟩
  unfold eVar at h
  cases q : σs[i]? with
  | none =>
    rw [q] at h
    exact h.elim
  | some s =>
    rw [q] at h
    have hi : i < σ.length := by
      rw [← R.len]
      exact (List.getElem?_eq_some_iff.mp q).1
    have r := R.slo i s σ[i] q (List.getElem?_eq_getElem hi)
    cases s with
    | un => exact h.elim
    | dct kvs => exact h.elim
    | val d =>
      obtain ⟨v, e, r⟩ := r
      exact ⟨v, by rw [List.getElem?_eq_getElem hi, e], h v G H .refl R r.b⟩
    | own l =>
      obtain ⟨p, vs, e, r1, r2, r3⟩ := r
      exact ⟨.ref p, by rw [List.getElem?_eq_getElem hi, e], h _ G H .refl R ⟨p, vs, rfl, .inl (.inl r2), r3⟩⟩
theorem _root_.L2.PE.con {v : V} {d : D} (h : PE X e (tC v)) (r : ∀ G ρ, Rep X.K G ρ d v) : FE X W e (eCon d) := by
  refine ⟨fun gd => h.imp ?_⟩
  rintro σ H Q ⟨F, G, ρ, σs, ah, R, h⟩
  exact h v G H .refl R (r G ρ).b
theorem fe_int {i : Int} {j : Nat} : FE X W (.Constant (.int i) j pos) (eCon (.int i)) := PE.con pe_int fun _ _ => rfl
theorem fe_bl {i : Bool} {j : Nat} : FE X W (.Constant (.bool i) j pos) (eCon (.bl i)) := PE.con pe_bl fun _ _ => rfl
theorem fe_non {j : Nat} : FE X W (.Constant .none j pos) (eCon .non) := PE.con pe_non fun _ _ => rfl
theorem fe_str {i : Str} {j : Nat} : FE X W (.Constant (.str i) j pos) (eCon (.str i)) := PE.con pe_str fun _ _ => rfl
/-- a module's constant that is an int or a text -/
theorem fe_gint {x : Str} {i : Int} (hm : ∃ t, X.mg x = some (.int i t)) (hg : Gl X x := by rfl) (hd : (x == ("__debug__" : Str)) = false := by decide) : FE X W (.Name x pos) (eCon (.int i)) := by
  obtain ⟨t, e⟩ := hm
  exact PE.con (v := .int i) (pe_glob hg e ⟨t, rfl⟩ hd) fun _ _ => rfl
theorem fe_gstr {x z : Str} (hm : ∃ t, X.mg x = some (.str z t)) (hg : Gl X x := by rfl) (hd : (x == ("__debug__" : Str)) = false := by decide) : FE X W (.Name x pos) (eCon (.str z)) := by
  obtain ⟨t, e⟩ := hm
  exact PE.con (v := .str z) (pe_glob hg e ⟨t, rfl⟩ hd) fun _ _ => rfl
/-- .. a tuple of ints -/
theorem fe_gtup {x : Str} {ns : List Int} (hm : ∃ a, X.mg x = some (.ref a) ∧ ∀ H : Hp, SqT X.K H a (ns.map V.int)) (hg : Gl X x := by rfl) (hd : (x == ("__debug__" : Str)) = false := by decide) : FE X W (.Name x pos) (eCon (.tup (ns.map D.int))) := by
  obtain ⟨a, e, h⟩ := hm
  refine PE.con (v := .ref a) (pe_glob hg e rfl hd) fun G ρ => ⟨a, _, rfl, h G, ?_⟩
  clear h
  induction ns with
  | nil => exact rfl
  | cons n ns ih => exact ⟨_, _, rfl, rfl, ih⟩

/-! ### two-place operations -/
def e2 (op : D → D → Res D) (f g : Sg D) : Sg D := fun σs ah => f σs ah >>= fun a => g σs ah >>= fun b => op a b
/-- what the layer's rule r asks is had -/
def Sim2 (X : Cx) (op : D → D → Res D) (r : R2) : Prop :=
  ∀ (W : WX) (F : Fm) (G : Hp) (ρ : Loc → Option Addr) (σs : List SV) (ah : AH) (σ : L2.St) (H : Hp) (d1 d2 : D) (v1 v2 : V) (Q : VK), Rel X.K X.mg F G ρ σs ah σ H → RepB X.K G ρ H d1 v1 → RepB X.K G ρ H d2 v2 →
    postR X W F ρ σs ah σ (RB X.K ρ) G H Q (op d1 d2) → r v1 v2 H Q
theorem tOp_sim {op : D → D → Res D} {r : R2} (hs : Sim2 X op r) {σ : L2.St} {H : Hp} {Q : VK} (h : tE X W (e2 op f g) σ H Q) : tOp r (tE X W f) (tE X W g) σ H Q := by
  obtain ⟨F, G, ρ, σs, ah, R, h⟩ := h
  refine ⟨F, G, ρ, σs, ah, R, h.bind.imp ?_⟩
  rintro x H1 ⟨d1, G1, e1, R1, r1, -, h1⟩
  refine ⟨F, G1, ρ, σs, ah, R1, h1.bind.imp ?_⟩
  rintro y H2 ⟨d2, G2, e2, R2, r2, -, h2⟩
  exact hs W F G2 ρ σs ah σ H2 d1 d2 x y Q R2 (r1.mono e2.g .refl e2.h) r2 h2
theorem fe_op {o : Operator} {op : D → D → Res D} {r : R2} (ho : Gd X W → OpR X (binaryOp o) r) (hs : Sim2 X op r) (ha : FE X W a f) (hb : FE X W b g) : FE X W (.BinOp a o b pos) (e2 op f g) :=
  ⟨fun gd => (pe_op (ho gd) (ha.run gd) (hb.run gd)).imp fun _ _ _ => tOp_sim hs⟩
theorem fe_cmp {o : CmpOp} {op : D → D → Res D} {r : R2} (ho : Gd X W → OpR X (compareOp o) r) (hs : Sim2 X op r) (ha : FE X W a f) (hb : FE X W b g) (hm : behindInMarks o b = false) : FE X W (.Compare a [o] [b] pos) (e2 op f g) :=
  ⟨fun gd => (pe_cmpR (ho gd) (ha.run gd) (hb.run gd) hm).imp fun _ _ _ => tOp_sim hs⟩
def dB : D → Res Bool
  | .bl b => .ok b
  | _ => .stuck
/-- an expression that gives a bool, as a test -/
def tB (f : Sg D) : Sg Bool := fun σs ah => f σs ah >>= dB
theorem tTest_sim {t : TE} (h : ∀ σ H Q, tE X W f σ H Q → t σ H Q) (mono : ∀ σ H Q Q', (∀ v H', Q v H' → Q' v H') → t σ H Q → t σ H Q') {σ : L2.St} {H : Hp} {Q : Bool → Hp → Prop} (q : tT X W (tB f) σ H Q) : tTest t σ H Q := by
  obtain ⟨F, G, ρ, σs, ah, R, q⟩ := q
  refine h σ H _ ⟨F, G, ρ, σs, ah, R, q.bind.imp ?_⟩
  rintro v H' ⟨d, G', e, R', r, -, h'⟩
  cases d with
  | bl b => exact ⟨b, r, h' b G' H' .refl R' rfl⟩
  | _ => exact h'.elim
theorem ft_cmp {o : CmpOp} {op : D → D → Res D} {r : R2} (ho : Gd X W → OpR X (compareOp o) r) (hs : Sim2 X op r) (ha : FE X W a f) (hb : FE X W b g) (hm : behindInMarks o b = false) : FT X W (.Compare a [o] [b] pos) (tB (e2 op f g)) := by
  refine ⟨fun gd => (pt_cmpR (ho gd) (ha.run gd) (hb.run gd) hm).imp ?_⟩
  rintro σ H Q ⟨F, G, ρ, σs, ah, R, q⟩
  refine tOp_sim hs ⟨F, G, ρ, σs, ah, R, q.bind.imp ?_⟩
  rintro v H' ⟨d, G', e, R', r, -, h'⟩
  cases d with
  | bl b => exact ⟨b, r, h' b G' H' .refl R' rfl⟩
  | _ => exact h'.elim
end

/-! ### the operations on data -/
theorem int_of {K : PySem.W.Frag} {G H : Hp} {ρ : Loc → Option Addr} {i : Int} {v : V} (h : RepB K G ρ H (.int i) v) : v = .int i := h
theorem str_of {K : PySem.W.Frag} {G H : Hp} {ρ : Loc → Option Addr} {i : Str} {v : V} (h : RepB K G ρ H (.str i) v) : v = .str i := h
def D.lst? : D → Option (List D)
  | .lst l => some l
  | .bor l => some l
  | _ => none
theorem lst?_of {K : PySem.W.Frag} {G H : Hp} {ρ : Loc → Option Addr} {d : D} {l : List D} {v : V} (s : Same G H) (h : RepB K G ρ H d v) (e : d.lst? = some l) : ∃ a vs, v = .ref a ∧ SqL K H a vs ∧ RepL K G ρ l vs := by
  cases d with
  | lst l' =>
    cases e
    obtain ⟨a, vs, e, r, q⟩ := h
    exact ⟨a, vs, e, Same.rd s r, q⟩
  | bor l' =>
    cases e
    exact h
  | _ => cases e
theorem tup_of {K : PySem.W.Frag} {G H : Hp} {ρ : Loc → Option Addr} {l : List D} {v : V} (s : Same G H) (h : RepB K G ρ H (.tup l) v) : ∃ a vs, v = .ref a ∧ SqT K G a vs ∧ SqT K H a vs ∧ RepL K G ρ l vs := by
  obtain ⟨a, vs, e, q, r⟩ := h
  exact ⟨a, vs, e, q, Same.sqT s q, r⟩
section
variable {X : Cx} {W : WX} {F : Fm} {G H : Hp} {ρ : Loc → Option Addr} {σs : List SV} {ah : AH} {σ : L2.St} {Q : VK}
/-- a new tuple is known -/
theorem post_tup (R : Rel X.K X.mg F G ρ σs ah σ H) {l : List D} {vs : List V} (r : RepL X.K G ρ l vs) (h : postR X W F ρ σs ah σ (RB X.K ρ) G H Q (.ok (.tup l))) {p : Addr} (hp : H p = none) : Q (.ref p) (upd H p (.tup vs)) := by
  have e := Ext.newG (o := HO.tup vs) (R.free hp) hp
  exact h _ _ _ e (R.newG hp) ⟨p, vs, rfl, .inl (.inl upd_same), RepL.mono e.g .refl _ _ r⟩
/-- a new list is known -/
theorem post_lst (R : Rel X.K X.mg F G ρ σs ah σ H) {l : List D} {vs : List V} (r : RepL X.K G ρ l vs) (h : postR X W F ρ σs ah σ (RB X.K ρ) G H Q (.ok (.lst l))) {p : Addr} (hp : H p = none) : Q (.ref p) (upd H p (.lst vs)) := by
  have e := Ext.newG (o := HO.lst vs) (R.free hp) hp
  exact h _ _ _ e (R.newG hp) ⟨p, vs, rfl, .inl (.inl upd_same), RepL.mono e.g .refl _ _ r⟩
end
/-- list + list, whatever holds them -/
def rCatL (K : PySem.W.Frag) : R2 := fun x y H Q => ∃ l b xs zs, x = .ref l ∧ y = .ref b ∧ SqL K H l xs ∧ SqL K H b zs ∧ xs.length + zs.length ≤ sizeLine ∧ ∀ p, H p = none → Q (.ref p) (upd H p (.lst (xs ++ zs)))
theorem op_catL {X : Cx} : OpR X (binaryOp .Add) (rCatL X.K) := by
  intro pins s σ H x y v u Q I rx ry h
  obtain ⟨l, b, xs, zs, rfl, rfl, hH, hB, hz, q⟩ := h
  cases rx
  cases ry
  obtain ⟨its, r, pl, z⟩ := I.list hH
  obtain ⟨its2, r2, pl2, z2⟩ := I.list hB
  have hl := r.length
  have hl2 := r2.length
  obtain ⟨⟨cls, dd, data, sl⟩, ho, hc, n, hd⟩ := id pl.isList
  obtain ⟨⟨cls2, dd2, data2, sl2⟩, ho2, hc2, n2, hd2⟩ := id pl2.isList
  simp only at hc hd hc2 hd2
  subst hc hd hc2 hd2
  have ea : its.toArray ++ its2.toArray = (its ++ its2).toArray := by simp
  refine concat_meets ⟨_, ho, rfl⟩ ⟨_, ho2, rfl⟩ noFill_list_add seq_list_add PySem.F.slot_list_add PySem.F.entry_list_add (PySem.F.args_list_add_2 _ _) (list_addW l b its.toArray its2.toArray n n2 dd dd2 sl sl2 (by rw [List.size_toArray, List.size_toArray]; omega)) ⟨ho, ho2, ?_⟩
  rw [ea]
  exact ⟨.ref _, _, I.lnew (t' := s.toks) (r.append r2) (by rw [List.length_append]; omega), rfl, q _ I.fresh⟩
def rAdd4 (K : PySem.W.Frag) : R2 := fun x y H Q => (rI0 (fun i j => .int (i + j)) x y H Q ∨ (∃ i j, x = .str i ∧ y = .str j ∧ i.length + j.length ≤ sizeLine ∧ Q (.str (i ++ j)) H)) ∨ (rCatA K x y H Q ∨ rCatL K x y H Q)
theorem op_add4 {X : Cx} : OpR X (binaryOp .Add) (rAdd4 X.K) := (op_add.or op_add_str).or (op_catA.or op_catL)
def opAdd : D → D → Res D
  | .int i, .int j => .ok (.int (i + j))
  | .str x, .str y => if x.length + y.length ≤ sizeLine then .ok (.str (x ++ y)) else .stuck
  | .tup a, .tup b => if a.length + b.length ≤ sizeLine then .ok (.tup (a ++ b)) else .stuck
  | a, b => match a.lst?, b.lst? with
    | some x, some y => if x.length + y.length ≤ sizeLine then .ok (.lst (x ++ y)) else .stuck
    | _, _ => .stuck
theorem sim_add_l {X : Cx} {W : WX} {F : Fm} {G : Hp} {ρ : Loc → Option Addr} {σs : List SV} {ah : AH} {σ : L2.St} {H : Hp} {d1 d2 : D} {v1 v2 : V} {Q : VK} (R : Rel X.K X.mg F G ρ σs ah σ H) (r1 : RepB X.K G ρ H d1 v1) (r2 : RepB X.K G ρ H d2 v2)
    (h : postR X W F ρ σs ah σ (RB X.K ρ) G H Q (match d1.lst?, d2.lst? with
    | some x, some y => if x.length + y.length ≤ sizeLine then .ok (.lst (x ++ y)) else .stuck
    | _, _ => .stuck)) : rAdd4 X.K v1 v2 H Q := by
  cases e1 : d1.lst? with
  | none =>
    rw [e1] at h
    exact h.elim
  | some x =>
    cases e2 : d2.lst? with
    | none =>
      rw [e1, e2] at h
      exact h.elim
    | some y =>
      rw [e1, e2] at h
      obtain ⟨a, vs, rfl, h1, q1⟩ := lst?_of R.gH r1 e1
      obtain ⟨b, us, rfl, h2, q2⟩ := lst?_of R.gH r2 e2
      dsimp only at h
      by_cases hz : x.length + y.length ≤ sizeLine
      · rw [if_pos hz] at h
        exact .inr (.inr ⟨a, b, vs, us, rfl, rfl, h1, h2, by rw [← q1.length, ← q2.length]; exact hz, fun p hp => post_lst R (q1.append q2) h hp⟩)
      · rw [if_neg hz] at h
        exact h.elim
theorem sim_add {X : Cx} : Sim2 X opAdd (rAdd4 X.K) := by
  intro W F G ρ σs ah σ H d1 d2 v1 v2 Q R r1 r2 h
  unfold opAdd at h
  split at h
  · rename_i i j
    exact .inl (.inl ⟨i, j, r1, r2, h _ G H .refl R rfl⟩)
  · rename_i x y
    split at h
    · rename_i hz
      exact .inl (.inr ⟨x, y, r1, r2, hz, h _ G H .refl R rfl⟩)
    · exact h.elim
  · rename_i a b
    split at h
    · rename_i hz
      obtain ⟨p, vs, rfl, g1, h1, q1⟩ := tup_of R.gH r1
      obtain ⟨q, us, rfl, g2, h2, q2⟩ := tup_of R.gH r2
      refine .inr (.inl ⟨p, q, vs, us, rfl, rfl, h1, h2, by rw [← q1.length, ← q2.length]; exact hz, fun e => ?_, fun _ e => ?_, fun _ _ n hn => post_tup R (q1.append q2) h hn⟩)
      · subst e
        have ea : a = [] := List.eq_nil_of_length_eq_zero q1.length
        subst ea
        exact h _ G H .refl R ⟨q, us, rfl, g2, q2⟩
      · subst e
        have ea : b = [] := List.eq_nil_of_length_eq_zero q2.length
        subst ea
        rw [List.append_nil] at h
        exact h _ G H .refl R ⟨p, vs, rfl, g1, q1⟩
    · exact h.elim
  · exact sim_add_l R r1 r2 h
section
variable {X : Cx} {W : WX} {e a b c : Expr} {f g : Sg D} {pos : Pos}
theorem fe_add (ha : FE X W a f) (hb : FE X W b g) : FE X W (.BinOp a .Add b pos) (e2 opAdd f g) := fe_op (fun _ => op_add4) sim_add ha hb
/-- ints alone -/
def opII (C : Int → Int → Bool) (g : Int → Int → D) : D → D → Res D
  | .int i, .int j => if C i j then .ok (g i j) else .stuck
  | _, _ => .stuck
theorem sim_ii {C : Int → Int → Bool} {C' : Int → Int → Prop} {g : Int → Int → D} {g' : Int → Int → V} (hc : ∀ i j, C i j = true → C' i j) (hg : ∀ (i j : Int) (G H : Hp) (ρ : Loc → Option Addr), RepB X.K G ρ H (g i j) (g' i j)) : Sim2 X (opII C g) (rI C' g') := by
  intro W F G ρ σs ah σ H d1 d2 v1 v2 Q R r1 r2 h
  unfold opII at h
  split at h
  · rename_i i j
    split at h
    · rename_i hz
      exact ⟨i, j, r1, r2, hc i j hz, h _ G H .refl R (hg i j G H ρ)⟩
    · exact h.elim
  · exact h.elim
theorem sim_ii0 {g : Int → Int → D} {g' : Int → Int → V} (hg : ∀ (i j : Int) (G H : Hp) (ρ : Loc → Option Addr), RepB X.K G ρ H (g i j) (g' i j)) : Sim2 X (opII (fun _ _ => true) g) (rI0 g') := by
  intro W F G ρ σs ah σ H d1 d2 v1 v2 Q R r1 r2 h
  unfold opII at h
  split at h
  · rename_i i j
    exact ⟨i, j, r1, r2, h _ G H .refl R (hg i j G H ρ)⟩
  · exact h.elim
def opSub := opII (fun _ _ => true) fun i j => .int (i - j)
def opMod := opII (fun _ j => decide (j ≠ 0)) fun i j => .int (i.fmod j)
def opDiv := opII (fun _ j => decide (j ≠ 0 ∧ j.natAbs < 1073741824)) fun i j => .int (i.fdiv j)
def opPow := opII (fun i j => decide (0 ≤ j ∧ j ≤ 1000000 ∧ i.natAbs < 2 ^ 64)) fun i j => .int (i ^ j.toNat)
def opShl := opII (fun i j => decide (0 ≤ j ∧ j ≤ 1000000 ∧ i.natAbs < 2 ^ 64)) fun i j => .int (i * 2 ^ j.toNat)
def opShr := opII (fun _ j => decide (0 ≤ j)) fun i j => .int (i / 2 ^ j.toNat)
def opAnd := opII (fun _ _ => true) fun i j => .int (Builtin.bitAnd i j)
def opOr := opII (fun _ _ => true) fun i j => .int (Builtin.bitOr i j)
theorem fe_sub (ha : FE X W a f) (hb : FE X W b g) : FE X W (.BinOp a .Sub b pos) (e2 opSub f g) := fe_op (fun _ => op_sub) (sim_ii0 fun _ _ _ _ _ => rfl) ha hb
theorem fe_mod (ha : FE X W a f) (hb : FE X W b g) : FE X W (.BinOp a .Mod b pos) (e2 opMod f g) := fe_op (fun _ => op_modN) (sim_ii (fun _ j h => (of_decide_eq_true h : j ≠ 0)) fun _ _ _ _ _ => rfl) ha hb
theorem fe_div (ha : FE X W a f) (hb : FE X W b g) : FE X W (.BinOp a .FloorDiv b pos) (e2 opDiv f g) := fe_op (fun _ => op_fdivN) (sim_ii (fun _ j h => (of_decide_eq_true h : j ≠ 0 ∧ j.natAbs < 1073741824)) fun _ _ _ _ _ => rfl) ha hb
theorem fe_pow (ha : FE X W a f) (hb : FE X W b g) : FE X W (.BinOp a .Pow b pos) (e2 opPow f g) := fe_op (fun _ => op_pow) (sim_ii (fun i j h => (of_decide_eq_true h : 0 ≤ j ∧ j ≤ 1000000 ∧ i.natAbs < 2 ^ 64)) fun _ _ _ _ _ => rfl) ha hb
theorem fe_shl (ha : FE X W a f) (hb : FE X W b g) : FE X W (.BinOp a .LShift b pos) (e2 opShl f g) := fe_op (fun _ => op_shl) (sim_ii (fun i j h => (of_decide_eq_true h : 0 ≤ j ∧ j ≤ 1000000 ∧ i.natAbs < 2 ^ 64)) fun _ _ _ _ _ => rfl) ha hb
theorem fe_shr (ha : FE X W a f) (hb : FE X W b g) : FE X W (.BinOp a .RShift b pos) (e2 opShr f g) := fe_op (fun _ => op_shr) (sim_ii (fun _ _ h => of_decide_eq_true h) fun _ _ _ _ _ => rfl) ha hb
theorem fe_band (ha : FE X W a f) (hb : FE X W b g) : FE X W (.BinOp a .BitAnd b pos) (e2 opAnd f g) := fe_op (fun _ => op_and) (sim_ii0 fun _ _ _ _ _ => rfl) ha hb
theorem fe_bor (ha : FE X W a f) (hb : FE X W b g) : FE X W (.BinOp a .BitOr b pos) (e2 opOr f g) := fe_op (fun _ => op_or) (sim_ii0 fun _ _ _ _ _ => rfl) ha hb
/-- int * int, list * int -/
def rRepL : R2 := fun x y H Q => ∃ l k xs, x = .ref l ∧ y = .int k ∧ H l = some (.lst xs) ∧ -(2 ^ 63) ≤ k ∧ k < 2 ^ 63 ∧ xs.length * k.toNat ≤ sizeLine ∧
  ∀ p, H p = none → Q (.ref p) (upd H p (.lst (List.replicate k.toNat xs).flatten))
def opMul := opII (fun i j => decide ((-(2 ^ 64) < i ∧ i < 2 ^ 64) ∨ (-(2 ^ 64) < j ∧ j < 2 ^ 64))) fun i j => .int (i * j)
theorem fe_mul (ha : FE X W a f) (hb : FE X W b g) : FE X W (.BinOp a .Mult b pos) (e2 opMul f g) := fe_op (fun _ => op_mul) (sim_ii (fun i j h => (of_decide_eq_true h : (-(2 ^ 64) < i ∧ i < 2 ^ 64) ∨ (-(2 ^ 64) < j ∧ j < 2 ^ 64))) fun _ _ _ _ _ => rfl) ha hb
def e1 (op : D → Res D) (f : Sg D) : Sg D := fun σs ah => f σs ah >>= op
def opNeg : D → Res D
  | .int i => .ok (.int (-i))
  | _ => .stuck
theorem fe_neg (ha : FE X W a f) : FE X W (.UnaryOp .USub a pos) (e1 opNeg f) := by
  refine ⟨fun gd => (pe_un un_neg (ha.run gd)).imp ?_⟩
  rintro σ H Q ⟨F, G, ρ, σs, ah, R, h⟩
  refine ⟨F, G, ρ, σs, ah, R, h.bind.imp ?_⟩
  rintro x H1 ⟨d1, G1, e1, R1, r1, -, h1⟩
  cases d1 with
  | int i => exact ⟨i, r1, h1 _ G1 H1 .refl R1 rfl⟩
  | _ => exact h1.elim
end
end Rf

set_option Elab.async false
set_option linter.all false
set_option maxRecDepth 100000
set_option maxHeartbeats 4000000
/-! Rf3: comparisons, and/or/not, conditional expressions, displays, subscripts, slices, len, isinstance. -/
namespace Rf
open PySem PySem.Spec PyProof.Rows L2

/-! ### data as PyData -/
mutual
def D.pd : D → Option PyData
  | .non => some .none
  | .bl b => some (.bool b)
  | .int i => some (.int i)
  | .str x => some (.str x)
  | .tup l => match D.pdL l with
    | some ds => some (.tuple ds)
    | none => none
  | .lst l => match D.pdL l with
    | some ds => some (.list ds)
    | none => none
  | .bor l => match D.pdL l with
    | some ds => some (.list ds)
    | none => none
  | .ob _ => none
def D.pdL : List D → Option (List PyData)
  | [] => some []
  | d :: ds => match D.pd d with
    | some p => (match D.pdL ds with
      | some ps => some (p :: ps)
      | none => none)
    | none => none
end
section
variable {K : PySem.W.Frag} {G H : Hp} {ρ : Loc → Option Addr}
mutual
theorem dp_of (s : Same G H) : ∀ (d : D) (v : V) (p : PyData), Rep K G ρ d v → d.pd = some p → Dp K H v p
  | .non, v, p, h, e => by
    have h : v = .non := h
    subst h
    cases e
    exact .non
  | .bl b, v, p, h, e => by
    have h : v = .bl b := h
    subst h
    cases e
    exact .bl b
  | .int b, v, p, h, e => by
    have h : v = .int b := h
    subst h
    cases e
    exact .int b
  | .str b, v, p, h, e => by
    have h : v = .str b := h
    subst h
    cases e
    exact .str b
  | .tup l, v, p, h, e => by
    obtain ⟨a, vs, rfl, q, r⟩ := h
    unfold D.pd at e
    cases el : D.pdL l with
    | none =>
      rw [el] at e
      cases e
    | some ds =>
      rw [el] at e
      cases e
      exact .tup (Same.sqT s q) (dpL_of s l vs ds r el)
  | .lst l, v, p, h, e => by
    obtain ⟨a, vs, rfl, q, r⟩ := h
    unfold D.pd at e
    cases el : D.pdL l with
    | none =>
      rw [el] at e
      cases e
    | some ds =>
      rw [el] at e
      cases e
      exact .lst (Same.rd s q) (dpL_of s l vs ds r el)
  | .bor l, _, _, h, _ => h.elim
  | .ob n, _, _, _, e => by cases e
theorem dpL_of (s : Same G H) : ∀ (l : List D) (vs : List V) (ps : List PyData), RepL K G ρ l vs → D.pdL l = some ps → DpAll K H vs ps
  | [], vs, ps, h, e => by
    have h : vs = [] := h
    subst h
    cases e
    exact .nil
  | d :: ds, vs, ps, h, e => by
    obtain ⟨v, r, rfl, h1, h2⟩ := h
    unfold D.pdL at e
    cases e1 : D.pd d with
    | none =>
      rw [e1] at e
      cases e
    | some p =>
      cases e2 : D.pdL ds with
      | none =>
        rw [e1, e2] at e
        cases e
      | some q =>
        rw [e1, e2] at e
        cases e
        exact .cons (dp_of s d v p h1 e1) (dpL_of s ds r q h2 e2)
end
theorem dpB_of (s : Same G H) {d : D} {v : V} {p : PyData} (h : RepB K G ρ H d v) (e : d.pd = some p) : Dp K H v p := by
  cases d with
  | bor l =>
    obtain ⟨a, vs, rfl, q, r⟩ := h
    unfold D.pd at e
    cases el : D.pdL l with
    | none =>
      rw [el] at e
      cases e
    | some ds =>
      rw [el] at e
      cases e
      exact .lst q (dpL_of s l vs ds r el)
  | _ => exact dp_of s _ v p h e
end

/-! ### ==, != -/
def eqG (a b : D) : Res Bool := match a.pd, b.pd with
  | some x, some y => if (SeqAt.shaped x && SeqAt.shaped y) = true then .ok (PyData.eqv x y) else .stuck
  | _, _ => .stuck
def eqB : D → D → Res Bool
  | .int i, .int j => .ok (decide (i = j))
  | .str x, .str y => .ok (decide (x = y))
  | .bl i, .bl j => .ok (decide (i = j))
  | .non, .non => .ok true
  | .non, .str _ => .ok false
  | .non, .int _ => .ok false
  | .str _, .non => .ok false
  | .int _, .non => .ok false
  | .int _, .str _ => .ok false
  | .str _, .int _ => .ok false
  | a, b => eqG a b
def opEq (a b : D) : Res D := eqB a b >>= fun k => .ok (.bl k)
def opNe (a b : D) : Res D := eqB a b >>= fun k => .ok (.bl (!k))
def rEq4 (K : PySem.W.Frag) : R2 := fun x y H Q => rEq x y H Q ∨ rEqD K x y H Q
def rNe4 (K : PySem.W.Frag) : R2 := fun x y H Q => rNe x y H Q ∨ rNeD K x y H Q
theorem eqB_of {K : PySem.W.Frag} {G H : Hp} {ρ : Loc → Option Addr} (s : Same G H) {a b : D} {x y : V} {k : Bool} (rx : RepB K G ρ H a x) (ry : RepB K G ρ H b y) (e : eqB a b = .ok k) :
    (scal x y = true ∧ k = decide (x = y)) ∨ ∃ p q, Dp K H x p ∧ Dp K H y q ∧ SeqAt.shaped p = true ∧ SeqAt.shaped q = true ∧ k = PyData.eqv p q := by
  unfold eqB at e
  split at e
  · cases e
    rename_i i j
    have h1 : x = .int i := rx
    have h2 : y = .int j := ry
    subst h1 h2
    exact .inl ⟨rfl, by simp⟩
  · cases e
    rename_i i j
    have h1 : x = .str i := rx
    have h2 : y = .str j := ry
    subst h1 h2
    exact .inl ⟨rfl, by simp⟩
  · cases e
    rename_i i j
    have h1 : x = .bl i := rx
    have h2 : y = .bl j := ry
    subst h1 h2
    exact .inl ⟨rfl, by simp⟩
  all_goals first
    | (cases e
       have h1 : x = _ := rx
       have h2 : y = _ := ry
       subst h1 h2
       exact .inl ⟨rfl, by simp⟩)
    | skip
  unfold eqG at e
  cases ea : a.pd with
  | none =>
    rw [ea] at e
    cases e
  | some p =>
    cases eb : b.pd with
    | none =>
      rw [ea, eb] at e
      cases e
    | some q =>
      rw [ea, eb] at e
      dsimp only at e
      split at e
      · rename_i hz
        cases e
        obtain ⟨z1, z2⟩ := Bool.and_eq_true_iff.mp hz
        exact .inr ⟨p, q, dpB_of s rx ea, dpB_of s ry eb, z1, z2, rfl⟩
      · cases e
section
variable {X : Cx} {W : WX} {e a b c : Expr} {f g h : Sg D} {pos : Pos}
theorem sim_eq : Sim2 X opEq (rEq4 X.K) := by
  intro W F G ρ σs ah σ H d1 d2 v1 v2 Q R r1 r2 h
  unfold opEq at h
  cases e : eqB d1 d2 with
  | ok k =>
    rw [e] at h
    have q := h (.bl k) G H .refl R rfl
    rcases eqB_of R.gH r1 r2 e with ⟨z, rfl⟩ | ⟨p, p', h1, h2, z1, z2, rfl⟩
    · exact .inl ⟨z, q⟩
    · exact .inr ⟨p, p', h1, h2, z1, z2, q⟩
  | exc c =>
    exfalso
    revert e
    unfold eqB eqG
    repeat' split
    all_goals (intro e; cases e)
  | stuck =>
    rw [e] at h
    exact h.elim
theorem sim_ne : Sim2 X opNe (rNe4 X.K) := by
  intro W F G ρ σs ah σ H d1 d2 v1 v2 Q R r1 r2 h
  unfold opNe at h
  cases e : eqB d1 d2 with
  | ok k =>
    rw [e] at h
    have q := h (.bl (!k)) G H .refl R rfl
    rcases eqB_of R.gH r1 r2 e with ⟨z, rfl⟩ | ⟨p, p', h1, h2, z1, z2, rfl⟩
    · exact .inl ⟨z, q⟩
    · exact .inr ⟨p, p', h1, h2, z1, z2, q⟩
  | exc c =>
    exfalso
    revert e
    unfold eqB eqG
    repeat' split
    all_goals (intro e; cases e)
  | stuck =>
    rw [e] at h
    exact h.elim
theorem Gd.un64 (gd : Gd X W) : X.A.units + 64 < cLine := by
  have := gd.un
  omega
theorem Gd.un0 (gd : Gd X W) : X.A.units < cLine := by
  have := gd.un
  omega
theorem fe_eq (ha : FE X W a f) (hb : FE X W b g) : FE X W (.Compare a [.Eq] [b] pos) (e2 opEq f g) := fe_cmp (fun gd => op_eq.or (op_eqD gd.un64)) sim_eq ha hb (nomark _)
theorem fe_ne (ha : FE X W a f) (hb : FE X W b g) : FE X W (.Compare a [.NotEq] [b] pos) (e2 opNe f g) := fe_cmp (fun gd => op_ne.or (op_neD gd.un64)) sim_ne ha hb (nomark _)
theorem ft_eq (ha : FE X W a f) (hb : FE X W b g) : FT X W (.Compare a [.Eq] [b] pos) (tB (e2 opEq f g)) := ft_cmp (fun gd => op_eq.or (op_eqD gd.un64)) sim_eq ha hb (nomark _)
theorem ft_ne (ha : FE X W a f) (hb : FE X W b g) : FT X W (.Compare a [.NotEq] [b] pos) (tB (e2 opNe f g)) := ft_cmp (fun gd => op_ne.or (op_neD gd.un64)) sim_ne ha hb (nomark _)

/-! ### order: ints, tuples of ints -/
def D.ints? : List D → Option (List Int)
  | [] => some []
  | .int i :: ds => (D.ints? ds).map (i :: ·)
  | _ => none
theorem ints?_of {K : PySem.W.Frag} {G : Hp} {ρ : Loc → Option Addr} : ∀ {ds : List D} {ns : List Int} {vs : List V}, RepL K G ρ ds vs → D.ints? ds = some ns → vs = ns.map V.int
  | [], _, _, h, e => by
    cases e
    exact h
  | .int i :: ds, ns, _, h, e => by
    obtain ⟨v, r, rfl, h1, h2⟩ := h
    unfold D.ints? at e
    obtain ⟨ms, e1, rfl⟩ := Option.map_eq_some_iff.mp e
    have h1 : v = .int i := h1
    rw [h1, ints?_of h2 e1]
    rfl
  | .non :: _, _, _, _, e => by cases e
  | .bl _ :: _, _, _, _, e => by cases e
  | .str _ :: _, _, _, _, e => by cases e
  | .tup _ :: _, _, _, _, e => by cases e
  | .lst _ :: _, _, _, _, e => by cases e
  | .bor _ :: _, _, _, _, e => by cases e
  | .ob _ :: _, _, _, _, e => by cases e
/-- ints by p; tuples of ints by lex -/
def opOrd (p : Int → Int → Bool) (lx : List Int → List Int → Bool) : D → D → Res D
  | .int i, .int j => .ok (.bl (p i j))
  | .tup a, .tup b => match D.ints? a, D.ints? b with
    | some x, some y => .ok (.bl (lx x y))
    | _, _ => .stuck
  | _, _ => .stuck
def rLx (lx : List Int → List Int → Bool) (K : PySem.W.Frag) : R2 := fun x y H Q => ∃ (a b : Addr) (ns ms : List Int), x = .ref a ∧ y = .ref b ∧ SqT K H a (ns.map V.int) ∧ SqT K H b (ms.map V.int) ∧ Q (.bl (lx ns ms)) H
theorem sim_ord {p : Int → Int → Bool} {lx : List Int → List Int → Bool} : Sim2 X (opOrd p lx) (fun x y H Q => rI0 (fun i j => .bl (p i j)) x y H Q ∨ rLx lx X.K x y H Q) := by
  intro W F G ρ σs ah σ H d1 d2 v1 v2 Q R r1 r2 h
  unfold opOrd at h
  split at h
  · rename_i i j
    exact .inl ⟨i, j, r1, r2, h _ G H .refl R rfl⟩
  · rename_i x y
    obtain ⟨a, vs, rfl, _, h1, q1⟩ := tup_of R.gH r1
    obtain ⟨b, us, rfl, _, h2, q2⟩ := tup_of R.gH r2
    cases e1 : D.ints? x with
    | none =>
      rw [e1] at h
      exact h.elim
    | some ns =>
      cases e2 : D.ints? y with
      | none =>
        rw [e1, e2] at h
        exact h.elim
      | some ms =>
        rw [e1, e2] at h
        rw [ints?_of q1 e1] at h1
        rw [ints?_of q2 e2] at h2
        exact .inr ⟨a, b, ns, ms, rfl, rfl, h1, h2, h _ G H .refl R rfl⟩
  · exact h.elim
/-- lexicographic, by what two differing items say and what lengths say -/
def lexO (r : Int → Int → Bool) (z : Nat → Nat → Bool) : List Int → List Int → Bool
  | x :: xs, y :: ys => if x = y then lexO r z xs ys else r x y
  | xs, ys => z xs.length ys.length
theorem lexAt_shift {e r : Nat → Bool} {z : Bool} : ∀ (k i : Nat), Ob.lexAt e r z (i + 1) k = Ob.lexAt (fun j => e (j + 1)) (fun j => r (j + 1)) z i k
  | 0, i => rfl
  | k + 1, i => by
    rw [Ob.lexAt_succ, Ob.lexAt_succ, lexAt_shift k (i + 1)]
theorem lexAt_lexO {rr : Int → Int → Bool} {zz : Nat → Nat → Bool} (hz : ∀ m n, zz (m + 1) (n + 1) = zz m n) : ∀ (ns ms : List Int),
    Ob.lexAt (fun j => decide (ns.getD j 0 = ms.getD j 0)) (fun j => rr (ns.getD j 0) (ms.getD j 0)) (zz ns.length ms.length) 0 (min ns.length ms.length) = lexO rr zz ns ms
  | [], ms => by simp [lexO, Ob.lexAt_zero]
  | x :: xs, [] => by simp [lexO, Ob.lexAt_zero]
  | x :: xs, y :: ys => by
    have e : min (x :: xs).length (y :: ys).length = min xs.length ys.length + 1 := by
      rw [List.length_cons, List.length_cons]
      omega
    rw [e, Ob.lexAt_succ, lexAt_shift, List.length_cons, List.length_cons, hz]
    show (if decide (x = y) = true then Ob.lexAt (fun j => decide (xs.getD j 0 = ys.getD j 0)) (fun j => rr (xs.getD j 0) (ys.getD j 0)) (zz xs.length ys.length) 0 (min xs.length ys.length) else rr x y) = lexO rr zz (x :: xs) (y :: ys)
    rw [lexAt_lexO hz xs ys]
    show _ = (if x = y then lexO rr zz xs ys else rr x y)
    by_cases h : x = y
    · rw [if_pos h, if_pos (decide_eq_true h)]
    · rw [if_neg h, if_neg (by rw [decide_eq_false h]; decide)]
theorem op_lexT {o : CmpOp} {rr : Int → Int → Bool} {zz : Nat → Nat → Bool} (hz : ∀ m n, zz (m + 1) (n + 1) = zz m n)
    (hr : ∀ (A : Around) (s : Shared) (i j : Int) (t u : Tok), Ob.RcOp o A s (.int i t) (.int j u) (rr i j))
    (ht : ∀ {A : Around} {s : Shared} {l b : Addr} {items items2 : Array Value} {e r : Nat → Bool}, s.heap.IsTuple l items → s.heap.IsTuple b items2 → A.units < cLine → (∀ j (h1 : j < items.size) (h2 : j < items2.size), SeqAt.EqAt A.in1 s items[j] items2[j] (e j)) →
      (∀ j (h1 : j < items.size) (h2 : j < items2.size), e j = false → Ob.RcOp o A.in1 s items[j] items2[j] (r j)) → Ob.RcOp o A s (.ref l) (.ref b) (Ob.lexAt e r (zz items.size items2.size) 0 (min items.size items2.size)))
    (hu : X.A.units < cLine) (ho : ∀ u v, compareOp o u v = richCompare o u v := by intros; rfl) : OpR X (compareOp o) (rLx (lexO rr zz) X.K) := by
  intro pins s σ H x y v u Q I rx ry h
  obtain ⟨a, b, ns, ms, rfl, rfl, ha, hb, q⟩ := h
  cases rx
  cases ry
  obtain ⟨its, r1, p1, _⟩ := I.tuple ha
  obtain ⟨its2, r2, p2, _⟩ := I.tuple hb
  have i1 : IntsAre its ns := Vals.ints r1
  have i2 : IntsAre its2 ms := Vals.ints r2
  have e1 : its.toArray.size = ns.length := by rw [List.size_toArray]; exact i1.length
  have e2 : its2.toArray.size = ms.length := by rw [List.size_toArray]; exact i2.length
  have at1 : ∀ j (h1 : j < its.toArray.size), ∃ t, its.toArray[j] = .int (ns.getD j 0) t := fun j h1 => PyProof.Rows.IntsAre.int_at i1 _ _ (by simp at h1; simp [h1])
  have at2 : ∀ j (h1 : j < its2.toArray.size), ∃ t, its2.toArray[j] = .int (ms.getD j 0) t := fun j h1 => PyProof.Rows.IntsAre.int_at i2 _ _ (by simp at h1; simp [h1])
  have R := ht (A := X.A) (s := s) (e := fun j => decide (ns.getD j 0 = ms.getD j 0)) (r := fun j => rr (ns.getD j 0) (ms.getD j 0)) p1 p2 hu (fun j h1 h2 => by
    obtain ⟨t, et⟩ := at1 j h1
    obtain ⟨t', et'⟩ := at2 j h2
    rw [et, et']
    have z : (ns.getD j 0 == ms.getD j 0) = decide (ns.getD j 0 = ms.getD j 0) := by
      by_cases q : ns.getD j 0 = ms.getD j 0
      · rw [decide_eq_true q]; exact beq_iff_eq.mpr q
      · rw [decide_eq_false q]; exact beq_eq_false_iff_ne.mpr q
    rw [← z]
    exact SeqAt.EqAt.int_int _ _ _ _) (fun j h1 h2 _ => by
    obtain ⟨t, et⟩ := at1 j h1
    obtain ⟨t', et'⟩ := at2 j h2
    rw [et, et']
    exact hr _ _ _ _ _ _)
  rw [e1, e2, lexAt_lexO hz] at R
  rw [ho]
  exact R X.prog X.w X.xe (EP X pins σ Q) ⟨.bl _, H, I, rfl, q⟩
def lxLt := lexO (fun i j => decide (i < j)) (fun m n => decide (m < n))
def lxGt := lexO (fun i j => decide (j < i)) (fun m n => decide (n < m))
def lxLe := lexO (fun i j => decide (i ≤ j)) (fun m n => decide (m ≤ n))
def lxGe := lexO (fun i j => decide (j ≤ i)) (fun m n => decide (n ≤ m))
def opLt := opOrd (fun i j => decide (i < j)) lxLt
def opGt := opOrd (fun i j => decide (j < i)) lxGt
def opLe := opOrd (fun i j => decide (i ≤ j)) lxLe
def opGe := opOrd (fun i j => decide (j ≤ i)) lxGe
theorem or_lt (gd : Gd X W) : OpR X (compareOp .Lt) (fun x y H Q => rI0 (fun i j => .bl (decide (i < j))) x y H Q ∨ rLx lxLt X.K x y H Q) := op_lt.or (op_lexT (fun m n => by simp) (fun A s i j t u => Ob.RcOp.lt_int i j t u) (fun h1 h2 h3 h4 h5 => Ob.RcOp.tuples_lt h1 h2 h3 h4 h5) gd.un0)
theorem or_gt (gd : Gd X W) : OpR X (compareOp .Gt) (fun x y H Q => rI0 (fun i j => .bl (decide (j < i))) x y H Q ∨ rLx lxGt X.K x y H Q) := op_gt.or (op_lexT (fun m n => by simp) (fun A s i j t u => Ob.RcOp.gt_int i j t u) (fun h1 h2 h3 h4 h5 => Ob.RcOp.tuples_gt h1 h2 h3 h4 h5) gd.un0)
theorem or_le (gd : Gd X W) : OpR X (compareOp .LtE) (fun x y H Q => rI0 (fun i j => .bl (decide (i ≤ j))) x y H Q ∨ rLx lxLe X.K x y H Q) := op_le.or (op_lexT (fun m n => by simp) (fun A s i j t u => Ob.RcOp.le_int i j t u) (fun h1 h2 h3 h4 h5 => Ob.RcOp.tuples_le h1 h2 h3 h4 h5) gd.un0)
theorem or_ge (gd : Gd X W) : OpR X (compareOp .GtE) (fun x y H Q => rI0 (fun i j => .bl (decide (j ≤ i))) x y H Q ∨ rLx lxGe X.K x y H Q) := op_ge.or (op_lexT (fun m n => by simp) (fun A s i j t u => Ob.RcOp.ge_int i j t u) (fun h1 h2 h3 h4 h5 => Ob.RcOp.tuples_ge h1 h2 h3 h4 h5) gd.un0)
theorem fe_lt (ha : FE X W a f) (hb : FE X W b g) : FE X W (.Compare a [.Lt] [b] pos) (e2 opLt f g) := fe_cmp or_lt sim_ord ha hb (nomark _)
theorem fe_gt (ha : FE X W a f) (hb : FE X W b g) : FE X W (.Compare a [.Gt] [b] pos) (e2 opGt f g) := fe_cmp or_gt sim_ord ha hb (nomark _)
theorem fe_le (ha : FE X W a f) (hb : FE X W b g) : FE X W (.Compare a [.LtE] [b] pos) (e2 opLe f g) := fe_cmp or_le sim_ord ha hb (nomark _)
theorem fe_ge (ha : FE X W a f) (hb : FE X W b g) : FE X W (.Compare a [.GtE] [b] pos) (e2 opGe f g) := fe_cmp or_ge sim_ord ha hb (nomark _)
theorem ft_lt (ha : FE X W a f) (hb : FE X W b g) : FT X W (.Compare a [.Lt] [b] pos) (tB (e2 opLt f g)) := ft_cmp or_lt sim_ord ha hb (nomark _)
theorem ft_gt (ha : FE X W a f) (hb : FE X W b g) : FT X W (.Compare a [.Gt] [b] pos) (tB (e2 opGt f g)) := ft_cmp or_gt sim_ord ha hb (nomark _)
theorem ft_le (ha : FE X W a f) (hb : FE X W b g) : FT X W (.Compare a [.LtE] [b] pos) (tB (e2 opLe f g)) := ft_cmp or_le sim_ord ha hb (nomark _)
theorem ft_ge (ha : FE X W a f) (hb : FE X W b g) : FT X W (.Compare a [.GtE] [b] pos) (tB (e2 opGe f g)) := ft_cmp or_ge sim_ord ha hb (nomark _)

/-! ### is None -/
def isN : D → Bool
  | .non => true
  | _ => false
theorem isN_of {K : PySem.W.Frag} {G H : Hp} {ρ : Loc → Option Addr} {d : D} {v : V} (h : RepB K G ρ H d v) : isN d = decide (v = .non) := by
  cases d with
  | non =>
    have h : v = .non := h
    subst h
    rfl
  | bl b =>
    have h : v = _ := h
    subst h
    rfl
  | int b =>
    have h : v = _ := h
    subst h
    rfl
  | str b =>
    have h : v = _ := h
    subst h
    rfl
  | tup l =>
    obtain ⟨a, vs, rfl, _⟩ := h
    rfl
  | lst l =>
    obtain ⟨a, vs, rfl, _⟩ := h
    rfl
  | bor l =>
    obtain ⟨a, vs, rfl, _⟩ := h
    rfl
  | ob l =>
    obtain ⟨a, rfl, _⟩ := h
    rfl
def opIsN (a : D) : D → Res D
  | .non => .ok (.bl (isN a))
  | _ => .stuck
def opNotN (a : D) : D → Res D
  | .non => .ok (.bl (!isN a))
  | _ => .stuck
theorem sim_isN : Sim2 X opIsN (fun x y H Q => y = .non ∧ Q (.bl (decide (x = .non))) H) := by
  intro W F G ρ σs ah σ H d1 d2 v1 v2 Q R r1 r2 h
  cases d2 with
  | non => exact ⟨r2, by rw [← isN_of r1]; exact h _ G H .refl R rfl⟩
  | _ => exact h.elim
theorem sim_notN : Sim2 X opNotN (fun x y H Q => y = .non ∧ Q (.bl (!decide (x = .non))) H) := by
  intro W F G ρ σs ah σ H d1 d2 v1 v2 Q R r1 r2 h
  cases d2 with
  | non => exact ⟨r2, by rw [← isN_of r1]; exact h _ G H .refl R rfl⟩
  | _ => exact h.elim
theorem fe_isN (ha : FE X W a f) (hb : FE X W b g) : FE X W (.Compare a [.Is] [b] pos) (e2 opIsN f g) := fe_cmp (fun _ => op_isN) sim_isN ha hb (nomark _)
theorem fe_notN (ha : FE X W a f) (hb : FE X W b g) : FE X W (.Compare a [.IsNot] [b] pos) (e2 opNotN f g) := fe_cmp (fun _ => op_notN) sim_notN ha hb (nomark _)
theorem ft_isN (ha : FE X W a f) (hb : FE X W b g) : FT X W (.Compare a [.Is] [b] pos) (tB (e2 opIsN f g)) := ft_cmp (fun _ => op_isN) sim_isN ha hb (nomark _)
theorem ft_notN (ha : FE X W a f) (hb : FE X W b g) : FT X W (.Compare a [.IsNot] [b] pos) (tB (e2 opNotN f g)) := ft_cmp (fun _ => op_notN) sim_notN ha hb (nomark _)

/-! ### truth, and, or, not -/
def dTru : D → Res Bool
  | .non => .ok false
  | .bl b => .ok b
  | .int i => .ok (i != 0)
  | .str x => if x.length ≤ sizeLine then .ok ((x.length : Int) != 0) else .stuck
  | .tup l => .ok (!l.isEmpty)
  | .lst l => .ok (!l.isEmpty)
  | .bor l => .ok (!l.isEmpty)
  | .ob _ => .stuck
theorem emp_of {K : PySem.W.Frag} {G : Hp} {ρ : Loc → Option Addr} {l : List D} {vs : List V} (r : RepL K G ρ l vs) : (!l.isEmpty) = !vs.isEmpty := by
  have e := r.length
  cases l with
  | nil =>
    cases vs with
    | nil => rfl
    | cons _ _ => cases e
  | cons _ _ =>
    cases vs with
    | nil => cases e
    | cons _ _ => rfl
theorem tru_of {K : PySem.W.Frag} {G H : Hp} {ρ : Loc → Option Addr} (s : Same G H) {d : D} {v : V} {k : Bool} (h : RepB K G ρ H d v) (e : dTru d = .ok k) : TruV K v H k := by
  cases d with
  | non =>
    have h : v = _ := h
    subst h
    cases e
    rfl
  | bl b =>
    have h : v = _ := h
    subst h
    cases e
    rfl
  | int i =>
    have h : v = _ := h
    subst h
    cases e
    rfl
  | str x =>
    have h : v = _ := h
    subst h
    unfold dTru at e
    dsimp only at e
    split at e
    · cases e
      exact ⟨by assumption, rfl⟩
    · cases e
  | tup l =>
    obtain ⟨a, vs, rfl, _, h1, q⟩ := tup_of s h
    cases e
    exact .inr (.inl ⟨vs, h1, emp_of q⟩)
  | lst l =>
    obtain ⟨a, vs, rfl, h1, q⟩ := lst?_of s h rfl
    cases e
    exact .inl ⟨vs, h1, emp_of q⟩
  | bor l =>
    obtain ⟨a, vs, rfl, h1, q⟩ := lst?_of s h rfl
    cases e
    exact .inl ⟨vs, h1, emp_of q⟩
  | ob n => cases e
def tTru (f : Sg D) : Sg Bool := fun σs ah => f σs ah >>= dTru
theorem dTru_noexc : ∀ {d : D} {c : Str}, dTru d ≠ .exc c
  | .str x, c => by
    show (if x.length ≤ sizeLine then Res.ok ((x.length : Int) != 0) else .stuck) ≠ .exc c
    split <;> (intro e; cases e)
  | .non, _ => fun e => by cases e
  | .bl _, _ => fun e => by cases e
  | .int _, _ => fun e => by cases e
  | .tup _, _ => fun e => by cases e
  | .lst _, _ => fun e => by cases e
  | .bor _, _ => fun e => by cases e
  | .ob _, _ => fun e => by cases e
theorem ft_tru (ha : FE X W a f) (he : ∀ whole, isTrue a X.env whole = (do let v ← whole; standAt a.pos; holding [v] (truthy v)) := by intro _; rfl) : FT X W a (tTru f) := by
  refine ⟨fun gd => (pt_truth (ha.run gd) he).imp ?_⟩
  rintro σ H Q ⟨F, G, ρ, σs, ah, R, q⟩
  refine ⟨F, G, ρ, σs, ah, R, q.bind.imp ?_⟩
  rintro v H' ⟨d, G', e, R', r, -, h'⟩
  cases ek : dTru d with
  | ok k =>
    rw [ek] at h'
    exact ⟨k, tru_of R'.gH r ek, h' k G' H' .refl R' rfl⟩
  | exc c => exact (dTru_noexc ek).elim
  | stuck =>
    rw [ek] at h'
    exact h'.elim
variable {rest : List Expr} {s t : Sg Bool}
def bAnd (s t : Sg Bool) : Sg Bool := fun σs ah => s σs ah >>= fun k => if k = true then t σs ah else .ok false
def bOr (s t : Sg Bool) : Sg Bool := fun σs ah => s σs ah >>= fun k => if k = true then .ok true else t σs ah
def bNot (s : Sg Bool) : Sg Bool := fun σs ah => s σs ah >>= fun k => .ok (!k)
theorem FW.ft (h : FW X W a s) : FT X W a s := ⟨fun gd => (h.run gd).pt⟩
theorem fw_and1 (ha : FT X W a s) : FW X W (.BoolOp .And [a] pos) s := ⟨fun gd => pw_and1 (ha.run gd)⟩
theorem fw_or1 (ha : FT X W a s) : FW X W (.BoolOp .Or [a] pos) s := ⟨fun gd => pw_or1 (ha.run gd)⟩
theorem fw_and (ha : FT X W a s) (hb : FW X W (.BoolOp .And (b :: rest) pos) t) : FW X W (.BoolOp .And (a :: b :: rest) pos) (bAnd s t) := by
  refine ⟨fun gd => (pw_and (ha.run gd) (hb.run gd)).imp ?_⟩
  rintro σ H Q ⟨F, G, ρ, σs, ah, R, q⟩
  refine ⟨F, G, ρ, σs, ah, R, q.bind.imp ?_⟩
  rintro k H' ⟨k', G', e, R', rfl, -, h'⟩
  cases k' with
  | true =>
    rw [if_pos rfl] at h'
    exact iteT ⟨F, G', ρ, σs, ah, R', h'⟩
  | false =>
    rw [if_neg (by decide)] at h'
    exact iteF (h' false G' H' .refl R' rfl)
theorem fw_or (ha : FT X W a s) (hb : FW X W (.BoolOp .Or (b :: rest) pos) t) : FW X W (.BoolOp .Or (a :: b :: rest) pos) (bOr s t) := by
  refine ⟨fun gd => (pw_or (ha.run gd) (hb.run gd)).imp ?_⟩
  rintro σ H Q ⟨F, G, ρ, σs, ah, R, q⟩
  refine ⟨F, G, ρ, σs, ah, R, q.bind.imp ?_⟩
  rintro k H' ⟨k', G', e, R', rfl, -, h'⟩
  cases k' with
  | true =>
    rw [if_pos rfl] at h'
    exact iteT (h' true G' H' .refl R' rfl)
  | false =>
    rw [if_neg (by decide)] at h'
    exact iteF ⟨F, G', ρ, σs, ah, R', h'⟩
theorem ft_and (ha : FT X W a s) (hb : FW X W (.BoolOp .And (b :: rest) pos) t) : FT X W (.BoolOp .And (a :: b :: rest) pos) (bAnd s t) := (fw_and ha hb).ft
theorem ft_or (ha : FT X W a s) (hb : FW X W (.BoolOp .Or (b :: rest) pos) t) : FT X W (.BoolOp .Or (a :: b :: rest) pos) (bOr s t) := (fw_or ha hb).ft
theorem ft_not (ha : FT X W a s) : FT X W (.UnaryOp .Not a pos) (bNot s) := by
  refine ⟨fun gd => (pt_not (ha.run gd)).imp ?_⟩
  rintro σ H Q ⟨F, G, ρ, σs, ah, R, q⟩
  refine ⟨F, G, ρ, σs, ah, R, q.bind.imp ?_⟩
  rintro k H' ⟨k', G', e, R', rfl, -, h'⟩
  exact h' (!k') G' H' .refl R' rfl
/-- and, or as values: bools but for the last -/
def eAnd (f g : Sg D) : Sg D := fun σs ah => f σs ah >>= fun d => dB d >>= fun k => if k = true then g σs ah else .ok (.bl false)
def eOr (f g : Sg D) : Sg D := fun σs ah => f σs ah >>= fun d => dB d >>= fun k => if k = true then .ok (.bl true) else g σs ah
theorem fe_one {op : BoolOp} (ha : FE X W a f) : FE X W (.BoolOp op [a] pos) f := ⟨fun gd => pe_one (ha.run gd)⟩
theorem fe_and (ha : FE X W a f) (hb : FE X W (.BoolOp .And (b :: rest) pos) g) : FE X W (.BoolOp .And (a :: b :: rest) pos) (eAnd f g) := by
  refine ⟨fun gd => (pe_and (ha.run gd) (hb.run gd)).imp ?_⟩
  rintro σ H Q ⟨F, G, ρ, σs, ah, R, q⟩
  refine ⟨F, G, ρ, σs, ah, R, q.bind.imp ?_⟩
  rintro v H' ⟨d, G', e, R', r, -, h'⟩
  cases d with
  | bl k =>
    refine ⟨k, r, ?_⟩
    cases k with
    | true => exact iteT ⟨F, G', ρ, σs, ah, R', h'⟩
    | false => exact iteF (h' _ G' H' .refl R' rfl)
  | _ => exact h'.elim
theorem fe_or (ha : FE X W a f) (hb : FE X W (.BoolOp .Or (b :: rest) pos) g) : FE X W (.BoolOp .Or (a :: b :: rest) pos) (eOr f g) := by
  refine ⟨fun gd => (pe_or (ha.run gd) (hb.run gd)).imp ?_⟩
  rintro σ H Q ⟨F, G, ρ, σs, ah, R, q⟩
  refine ⟨F, G, ρ, σs, ah, R, q.bind.imp ?_⟩
  rintro v H' ⟨d, G', e, R', r, -, h'⟩
  cases d with
  | bl k =>
    refine ⟨k, r, ?_⟩
    cases k with
    | true => exact iteT (h' _ G' H' .refl R' rfl)
    | false => exact iteF ⟨F, G', ρ, σs, ah, R', h'⟩
  | _ => exact h'.elim
/-- not as a value, by truth -/
def eNot (f : Sg D) : Sg D := fun σs ah => f σs ah >>= fun d => dTru d >>= fun k => .ok (.bl (!k))
theorem fe_not (ha : FE X W a f) : FE X W (.UnaryOp .Not a pos) (eNot f) := by
  refine ⟨fun gd => (pe_notT (ha.run gd)).imp ?_⟩
  rintro σ H Q ⟨F, G, ρ, σs, ah, R, q⟩
  refine ⟨F, G, ρ, σs, ah, R, q.bind.imp ?_⟩
  rintro v H' ⟨d, G', e, R', r, -, h'⟩
  cases ek : dTru d with
  | ok k =>
    rw [ek] at h'
    exact ⟨k, tru_of R'.gH r ek, h' _ G' H' .refl R' rfl⟩
  | exc c => exact (dTru_noexc ek).elim
  | stuck =>
    rw [ek] at h'
    exact h'.elim
def eIf (s : Sg Bool) (f g : Sg D) : Sg D := fun σs ah => s σs ah >>= fun k => if k = true then f σs ah else g σs ah
theorem fe_if (hc : FT X W c s) (ha : FE X W a f) (hb : FE X W b g) : FE X W (.IfExp c a b pos) (eIf s f g) := by
  refine ⟨fun gd => (pe_ifExp (hc.run gd) (ha.run gd) (hb.run gd)).imp ?_⟩
  rintro σ H Q ⟨F, G, ρ, σs, ah, R, q⟩
  refine ⟨F, G, ρ, σs, ah, R, q.bind.imp ?_⟩
  rintro k H' ⟨k', G', e, R', rfl, -, h'⟩
  cases k' with
  | true =>
    rw [if_pos rfl] at h'
    exact iteT ⟨F, G', ρ, σs, ah, R', h'⟩
  | false =>
    rw [if_neg (by decide)] at h'
    exact iteF ⟨F, G', ρ, σs, ah, R', h'⟩

/-! ### argument lists, displays -/
variable {es : List Expr} {l : Sg (List D)}
def lNil : Sg (List D) := fun _ _ => .ok []
def lCons (f : Sg D) (l : Sg (List D)) : Sg (List D) := fun σs ah => f σs ah >>= fun d => l σs ah >>= fun ds => .ok (d :: ds)
theorem fa_nil : FA X W [] lNil := by
  refine ⟨fun gd => pa_nil.imp ?_⟩
  rintro σ H Q ⟨F, G, ρ, σs, ah, R, q⟩
  exact q [] G H .refl R rfl
theorem fa_cons (ha : FE X W a f) (hr : FA X W es l) (hs : starEach (a :: es) X.env = (false, eval a X.env) :: starEach es X.env := by rfl) : FA X W (a :: es) (lCons f l) := by
  refine ⟨fun gd => (pa_cons (ha.run gd) (hr.run gd) hs).imp ?_⟩
  rintro σ H Q ⟨F, G, ρ, σs, ah, R, q⟩
  refine ⟨F, G, ρ, σs, ah, R, q.bind.imp ?_⟩
  rintro v H' ⟨d, G', e, R', r, -, h'⟩
  refine ⟨F, G', ρ, σs, ah, R', h'.bind.imp ?_⟩
  rintro vs H2 ⟨ds, G2, e2, R2, rs, -, h2⟩
  exact h2 _ G2 H2 .refl R2 ⟨v, vs, rfl, r.mono e2.g .refl e2.h, rs⟩
/-- a display's items: none borrowed, not too many -/
def okItems (mk : List D → D) (ds : List D) : Res D := if ds.any D.isBor = false ∧ ds.length ≤ sizeLine then .ok (mk ds) else .stuck
def eTup (l : Sg (List D)) : Sg D := fun σs ah => l σs ah >>= okItems .tup
def eLst (l : Sg (List D)) : Sg D := fun σs ah => l σs ah >>= okItems .lst
theorem fe_tup {k : Nat} (h : FA X W es l) : FE X W (.Tuple es k pos) (eTup l) := by
  refine ⟨fun gd => (pe_tup (h.run gd)).imp ?_⟩
  rintro σ H Q ⟨F, G, ρ, σs, ah, R, q⟩
  refine ⟨F, G, ρ, σs, ah, R, q.bind.imp ?_⟩
  rintro vs H' ⟨ds, G', e, R', r, -, h'⟩
  unfold okItems at h'
  split at h'
  · rename_i hz
    have r' := r.rep hz.1
    exact ⟨by rw [← r'.length]; exact hz.2, fun p hp => post_tup R' r' h' hp⟩
  · exact h'.elim
theorem fe_lst (h : FA X W es l) : FE X W (.List es pos) (eLst l) := by
  refine ⟨fun gd => (pe_lst (h.run gd)).imp ?_⟩
  rintro σ H Q ⟨F, G, ρ, σs, ah, R, q⟩
  refine ⟨F, G, ρ, σs, ah, R, q.bind.imp ?_⟩
  rintro vs H' ⟨ds, G', e, R', r, -, h'⟩
  unfold okItems at h'
  split at h'
  · rename_i hz
    have r' := r.rep hz.1
    exact ⟨by rw [← r'.length]; exact hz.2, fun p hp => post_lst R' r' h' hp⟩
  · exact h'.elim

/-! ### subscripts, slices -/
def opIx : D → D → Res D
  | .tup l, .int i => match atI l i with
    | some d => .ok d
    | none => .stuck
  | .str z, .int i => if z.length ≤ sizeLine then (match atI z.cps.toList i with
    | some c => .ok (.str ⟨#[c]⟩)
    | none => .stuck) else .stuck
  | a, .int i => match a.lst? with
    | some l => (match atI l i with
      | some d => .ok d
      | none => .stuck)
    | none => .stuck
  | _, _ => .stuck
theorem atI_rep {K : PySem.W.Frag} {G : Hp} {ρ : Loc → Option Addr} {l : List D} {vs : List V} {i : Int} {d : D} (r : RepL K G ρ l vs) (e : atI l i = some d) : ∃ v, atI vs i = some v ∧ Rep K G ρ d v := by
  unfold atI at e ⊢
  obtain ⟨j, e1, e2⟩ := Option.bind_eq_some_iff.mp e
  obtain ⟨v, e3, e4⟩ := r.get e2
  rw [r.length] at e1
  exact ⟨v, by rw [e1]; exact e3, e4⟩
theorem sim_ix : Sim2 X opIx (rIx X.K) := by
  intro W F G ρ σs ah σ H d1 d2 v1 v2 Q R r1 r2 h
  unfold opIx at h
  split at h
  · rename_i l i
    obtain ⟨a, vs, rfl, _, h1, q1⟩ := tup_of R.gH r1
    cases e : atI l i with
    | none =>
      rw [e] at h
      exact h.elim
    | some d =>
      rw [e] at h
      obtain ⟨v, e1, e2⟩ := atI_rep q1 e
      exact .inr (.inl ⟨a, vs, i, v, rfl, r2, h1, e1, h v G H .refl R e2.b⟩)
  · rename_i z i
    split at h
    · rename_i hz
      cases e : atI z.cps.toList i with
      | none =>
        rw [e] at h
        exact h.elim
      | some c =>
        rw [e] at h
        exact .inr (.inr ⟨z, i, c, r1, r2, hz, e, h _ G H .refl R rfl⟩)
    · exact h.elim
  · rename_i i _ _
    cases el : d1.lst? with
    | none =>
      rw [el] at h
      exact h.elim
    | some l =>
      rw [el] at h
      obtain ⟨a, vs, rfl, h1, q1⟩ := lst?_of R.gH r1 el
      dsimp only at h
      cases e : atI l i with
      | none =>
        rw [e] at h
        exact h.elim
      | some d =>
        rw [e] at h
        obtain ⟨v, e1, e2⟩ := atI_rep q1 e
        exact .inl ⟨a, vs, i, v, rfl, r2, h1, e1, h v G H .refl R e2.b⟩
  · exact h.elim
theorem fe_ix (ha : FE X W a f) (hb : FE X W b g) (hs : PlainIx b := by exact fun _ _ => rfl) : FE X W (.Subscript a b pos) (e2 opIx f g) :=
  ⟨fun gd => (pe_ix ix_seq (ha.run gd) (hb.run gd) hs).imp fun _ _ _ => tOp_sim sim_ix⟩
end
end Rf

set_option Elab.async false
set_option linter.all false
set_option maxRecDepth 100000
set_option maxHeartbeats 4000000
/-! Rf4: slices, in, calls of built-ins. -/
namespace Rf
open PySem PySem.Spec PyProof.Rows L2

/-! ### slices -/
def cutL {α : Type} (xs : List α) (lo hi : Option Int) : List α := (xs.drop (HT.sIx xs.length 0 lo)).take (HT.sIx xs.length xs.length hi - HT.sIx xs.length 0 lo)
theorem RepL.cut {K : PySem.W.Frag} {G : Hp} {ρ : Loc → Option Addr} {l : List D} {vs : List V} (r : RepL K G ρ l vs) (lo hi : Option Int) : RepL K G ρ (cutL l lo hi) (cutV vs lo hi) := by
  unfold cutL cutV
  rw [r.length]
  exact (r.drop _).take _
theorem cutL_whole {α : Type} {xs : List α} {lo hi : Option Int} (h : HT.sIx xs.length 0 lo = 0 ∧ HT.sIx xs.length xs.length hi = xs.length) : cutL xs lo hi = xs := by
  unfold cutL
  rw [h.1, h.2]
  simp
abbrev REqO : Hp → Hp → Option Int → Option Int → Prop := fun _ _ a b => a = b
def tO (X : Cx) (W : WX) (f : Sg (Option Int)) : TO := fun σ H Q => ∃ F G ρ σs ah, Rel X.K X.mg F G ρ σs ah σ H ∧ postR X W F ρ σs ah σ REqO G H Q (f σs ah)
structure FO (X : Cx) (W : WX) (e : Option Expr) (f : Sg (Option Int)) : Prop where
  run : Gd X W → PO X e (tO X W f)
theorem _root_.L2.PO.imp {X : Cx} {e : Option Expr} {t t' : TO} (h : PO X e t) (k : ∀ σ H Q, t' σ H Q → t σ H Q) : PO X e t' := ⟨fun pins s σ H Q I q => h.run pins s σ H Q I (k σ H Q q)⟩
def oNone : Sg (Option Int) := fun _ _ => .ok none
def dI : D → Res Int
  | .int i => .ok i
  | _ => .stuck
def oSome (f : Sg D) : Sg (Option Int) := fun σs ah => f σs ah >>= fun d => dI d >>= fun i => .ok (some i)
def opSl (lo hi : Option Int) : D → Res D
  | .tup l => .ok (.tup (cutL l lo hi))
  | .str z => if z.length ≤ sizeLine then .ok (.str (cutS z lo hi)) else .stuck
  | .lst l => .ok (.lst (cutL l lo hi))
  | .bor l => .ok (.lst (cutL l lo hi))
  | _ => .stuck
def eSl (f : Sg D) (l h : Sg (Option Int)) : Sg D := fun σs ah => f σs ah >>= fun d => l σs ah >>= fun lo => h σs ah >>= fun hi => opSl lo hi d
def rSl4 (K : PySem.W.Frag) : V → Option Int → Option Int → Hp → VK → Prop := fun x lo hi H Q => rSlA K x lo hi H Q ∨ (rSlS x lo hi H Q ∨ rSlL K x lo hi H Q)
section
variable {X : Cx} {W : WX} {e a b c : Expr} {f g h : Sg D} {pos p2 : Pos} {lo hi : Option Expr} {l u : Sg (Option Int)}
theorem fo_none : FO X W none oNone := by
  refine ⟨fun gd => po_none.imp ?_⟩
  rintro σ H Q ⟨F, G, ρ, σs, ah, R, h⟩
  exact h none G H .refl R rfl
theorem fo_some (ha : FE X W a f) : FO X W (some a) (oSome f) := by
  refine ⟨fun gd => (po_some (ha.run gd)).imp ?_⟩
  rintro σ H Q ⟨F, G, ρ, σs, ah, R, h⟩
  refine ⟨F, G, ρ, σs, ah, R, h.bind.imp ?_⟩
  rintro v H' ⟨d, G', e, R', r, -, h'⟩
  cases d with
  | int i => exact ⟨i, r, h' (some i) G' H' .refl R' rfl⟩
  | _ => exact h'.elim
theorem fe_sl (he : FE X W e f) (hl : FO X W lo l) (hu : FO X W hi u) : FE X W (.Subscript e (.Slice lo hi none p2) pos) (eSl f l u) := by
  refine ⟨fun gd => (pe_slice (sl_tupA.or (sl_str.or sl_list)) (he.run gd) (hl.run gd) (hu.run gd)).imp ?_⟩
  rintro σ H Q ⟨F, G, ρ, σs, ah, R, h⟩
  refine ⟨F, G, ρ, σs, ah, R, h.bind.imp ?_⟩
  rintro v H1 ⟨d, G1, e1, R1, r1, -, h1⟩
  refine ⟨F, G1, ρ, σs, ah, R1, h1.bind.imp ?_⟩
  rintro i H2 ⟨i', G2, e2, R2, rfl, -, h2⟩
  refine ⟨F, G2, ρ, σs, ah, R2, h2.bind.imp ?_⟩
  rintro j H3 ⟨j', G3, e3, R3, rfl, -, h3⟩
  have r : RepB X.K G3 ρ H3 d v := (r1.mono e2.g .refl e2.h).mono e3.g .refl e3.h
  clear r1 h h1 h2
  cases d with
  | tup l =>
    obtain ⟨p, vs, rfl, g1, q1, q2⟩ := tup_of R3.gH r
    refine .inl ⟨p, vs, rfl, q1, fun hw => ?_, fun _ n hn => post_tup R3 (q2.cut i' j') h3 hn⟩
    have e : cutL l i' j' = l := cutL_whole (by rw [q2.length]; exact hw)
    have h4 : postR X W F ρ σs ah σ (RB X.K ρ) G3 H3 Q (.ok (.tup (cutL l i' j'))) := h3
    rw [e] at h4
    exact h4 _ G3 H3 .refl R3 r
  | str z =>
    unfold opSl at h3
    dsimp only at h3
    split at h3
    · rename_i hz
      exact .inr (.inl ⟨z, r, hz, h3 _ G3 H3 .refl R3 rfl⟩)
    · exact h3.elim
  | lst l =>
    obtain ⟨p, vs, rfl, q1, q2⟩ := lst?_of R3.gH r rfl
    exact .inr (.inr ⟨p, vs, rfl, q1, fun n hn => post_lst R3 (q2.cut i' j') h3 hn⟩)
  | bor l =>
    obtain ⟨p, vs, rfl, q1, q2⟩ := lst?_of R3.gH r rfl
    exact .inr (.inr ⟨p, vs, rfl, q1, fun n hn => post_lst R3 (q2.cut i' j') h3 hn⟩)
  | _ => exact h3.elim

/-! ### in, not in -/
def D.strs? : List D → Option (List Str)
  | [] => some []
  | .str i :: ds => (D.strs? ds).map (i :: ·)
  | _ => none
theorem strs?_of {K : PySem.W.Frag} {G : Hp} {ρ : Loc → Option Addr} : ∀ {ds : List D} {ns : List Str} {vs : List V}, RepL K G ρ ds vs → D.strs? ds = some ns → vs = ns.map V.str
  | [], _, _, h, e => by
    cases e
    exact h
  | .str i :: ds, ns, _, h, e => by
    obtain ⟨v, r, rfl, h1, h2⟩ := h
    unfold D.strs? at e
    obtain ⟨ms, e1, rfl⟩ := Option.map_eq_some_iff.mp e
    have h1 : v = .str i := h1
    rw [h1, strs?_of h2 e1]
    rfl
  | .non :: _, _, _, _, e => by cases e
  | .bl _ :: _, _, _, _, e => by cases e
  | .int _ :: _, _, _, _, e => by cases e
  | .tup _ :: _, _, _, _, e => by cases e
  | .lst _ :: _, _, _, _, e => by cases e
  | .bor _ :: _, _, _, _, e => by cases e
  | .ob _ :: _, _, _, _, e => by cases e
def inB : D → D → Res Bool
  | .str x, .tup l => match D.strs? l with
    | some ns => .ok (decide (x ∈ ns))
    | none => .stuck
  | .int x, .tup l => match D.ints? l with
    | some ns => .ok (decide (x ∈ ns))
    | none => .stuck
  | .str x, .str z => match x.cps.toList with
    | [c] => .ok (decide (c ∈ z.cps.toList))
    | _ => .stuck
  | x, y => match y.lst? with
    | some l => (match x.pd, D.pdL l with
      | some d, some ds => if (SeqAt.shaped d && SeqAt.shaped (.list ds)) = true then .ok (ds.any fun z => PyData.eqv z d) else .stuck
      | _, _ => .stuck)
    | none => .stuck
def opIn (a b : D) : Res D := inB a b >>= fun k => .ok (.bl k)
def opNotIn (a b : D) : Res D := inB a b >>= fun k => .ok (.bl (!k))
theorem dpL_lst {K : PySem.W.Frag} {G H : Hp} {ρ : Loc → Option Addr} (s : Same G H) {d : D} {l : List D} {v : V} {ds : List PyData} (h : RepB K G ρ H d v) (e : d.lst? = some l) (ep : D.pdL l = some ds) : Dp K H v (.list ds) := by
  obtain ⟨a, vs, rfl, q1, q2⟩ := lst?_of s h e
  exact .lst q1 (dpL_of s l vs ds q2 ep)
def rInB (K : PySem.W.Frag) (x y : V) (H : Hp) (k : Bool) : Prop :=
  (∃ d ds, Dp K H x d ∧ Dp K H y (.list ds) ∧ SeqAt.shaped d = true ∧ SeqAt.shaped (.list ds) = true ∧ k = ds.any fun z => PyData.eqv z d) ∨
  (∃ p xs, y = .ref p ∧ (SqL K H p xs ∨ SqT K H p xs) ∧ flatV x = true ∧ xs.all flatV = true ∧ k = inV x xs) ∨
  ∃ (c : Nat) (z : Str), x = .str ⟨#[c]⟩ ∧ y = .str z ∧ k = decide (c ∈ z.cps.toList)
theorem any_eqV_str (x : Str) : ∀ ns : List Str, inV (.str x) (ns.map V.str) = decide (x ∈ ns)
  | [] => rfl
  | n :: ns => by
    have ih := any_eqV_str x ns
    unfold inV at ih ⊢
    rw [List.map_cons, List.any_cons, ih]
    have e : eqV (V.str n) (V.str x) = decide (n = x) := by
      show (decide (n = x)) = _
      rfl
    rw [e]
    by_cases h : n = x
    · subst h
      simp
    · have h' : ¬ x = n := fun q => h q.symm
      simp [h, h']
theorem any_eqV_int (x : Int) : ∀ ns : List Int, inV (.int x) (ns.map V.int) = decide (x ∈ ns)
  | [] => rfl
  | n :: ns => by
    have ih := any_eqV_int x ns
    unfold inV at ih ⊢
    rw [List.map_cons, List.any_cons, ih]
    have e : eqV (V.int n) (V.int x) = (n == x) := by rfl
    rw [e]
    by_cases h : n = x
    · subst h
      simp
    · have h' : ¬ x = n := fun q => h q.symm
      simp [h, h']
theorem all_flat_str : ∀ ns : List Str, (ns.map V.str).all flatV = true
  | [] => rfl
  | n :: ns => by
    rw [List.map_cons, List.all_cons, all_flat_str ns]
    rfl
theorem all_flat_int : ∀ ns : List Int, (ns.map V.int).all flatV = true
  | [] => rfl
  | n :: ns => by
    rw [List.map_cons, List.all_cons, all_flat_int ns]
    rfl
theorem inB_of {K : PySem.W.Frag} {G H : Hp} {ρ : Loc → Option Addr} (s : Same G H) {a b : D} {x y : V} {k : Bool} (rx : RepB K G ρ H a x) (ry : RepB K G ρ H b y) (e : inB a b = .ok k) : rInB K x y H k := by
  unfold inB at e
  split at e
  · rename_i z l
    obtain ⟨p, vs, rfl, _, h1, q1⟩ := tup_of s ry
    cases el : D.strs? l with
    | none =>
      rw [el] at e
      cases e
    | some ns =>
      rw [el] at e
      cases e
      have ev := strs?_of q1 el
      subst ev
      have hx : x = .str z := rx
      subst hx
      exact .inr (.inl ⟨p, _, rfl, .inr h1, rfl, all_flat_str ns, (any_eqV_str z ns).symm⟩)
  · rename_i z l
    obtain ⟨p, vs, rfl, _, h1, q1⟩ := tup_of s ry
    cases el : D.ints? l with
    | none =>
      rw [el] at e
      cases e
    | some ns =>
      rw [el] at e
      cases e
      have ev := ints?_of q1 el
      subst ev
      have hx : x = .int z := rx
      subst hx
      exact .inr (.inl ⟨p, _, rfl, .inr h1, rfl, all_flat_int ns, (any_eqV_int z ns).symm⟩)
  · rename_i u z
    split at e
    · rename_i c hc
      cases e
      have hu : u = ⟨#[c]⟩ := by
        cases u
        simp only [Str.mk.injEq]
        apply Array.ext'
        exact hc
      subst hu
      exact .inr (.inr ⟨c, z, rx, ry, rfl⟩)
    · cases e
  · cases el : b.lst? with
    | none =>
      rw [el] at e
      cases e
    | some l =>
      rw [el] at e
      dsimp only at e
      cases ea : a.pd with
      | none =>
        rw [ea] at e
        cases e
      | some d =>
        cases eb : D.pdL l with
        | none =>
          rw [ea, eb] at e
          cases e
        | some ds =>
          rw [ea, eb] at e
          dsimp only at e
          split at e
          · rename_i hz
            cases e
            obtain ⟨z1, z2⟩ := Bool.and_eq_true_iff.mp hz
            exact .inl ⟨d, ds, dpB_of s rx ea, dpL_lst s ry el eb, z1, z2, rfl⟩
          · cases e
theorem inB_noexc {a b : D} {c : Str} : inB a b ≠ .exc c := by
  unfold inB
  repeat' split
  all_goals (intro e; cases e)
def rIn4 (K : PySem.W.Frag) : R2 := fun x y H Q => rInD K x y H Q ∨ (rIn K false x y H Q ∨ ∃ (c : Nat) (z : Str), x = .str ⟨#[c]⟩ ∧ y = .str z ∧ Q (.bl (decide (c ∈ z.cps.toList))) H)
def rNotIn4 (K : PySem.W.Frag) : R2 := fun x y H Q => rNotInD K x y H Q ∨ (rIn K true x y H Q ∨ ∃ (c : Nat) (z : Str), x = .str ⟨#[c]⟩ ∧ y = .str z ∧ Q (.bl (!decide (c ∈ z.cps.toList))) H)
theorem sim_in : Sim2 X opIn (rIn4 X.K) := by
  intro W F G ρ σs ah σ H d1 d2 v1 v2 Q R r1 r2 h
  unfold opIn at h
  cases e : inB d1 d2 with
  | ok k =>
    rw [e] at h
    have q := h (.bl k) G H .refl R rfl
    rcases inB_of R.gH r1 r2 e with ⟨d, ds, h1, h2, z1, z2, rfl⟩ | ⟨p, xs, h1, h2, h3, h4, rfl⟩ | ⟨c, z, h1, h2, rfl⟩
    · exact .inl ⟨d, ds, h1, h2, z1, z2, q⟩
    · exact .inr (.inl ⟨p, xs, h1, h2, h3, h4, q⟩)
    · exact .inr (.inr ⟨c, z, h1, h2, q⟩)
  | exc c => exact (inB_noexc e).elim
  | stuck =>
    rw [e] at h
    exact h.elim
theorem sim_notIn : Sim2 X opNotIn (rNotIn4 X.K) := by
  intro W F G ρ σs ah σ H d1 d2 v1 v2 Q R r1 r2 h
  unfold opNotIn at h
  cases e : inB d1 d2 with
  | ok k =>
    rw [e] at h
    have q := h (.bl (!k)) G H .refl R rfl
    rcases inB_of R.gH r1 r2 e with ⟨d, ds, h1, h2, z1, z2, rfl⟩ | ⟨p, xs, h1, h2, h3, h4, rfl⟩ | ⟨c, z, h1, h2, rfl⟩
    · exact .inl ⟨d, ds, h1, h2, z1, z2, q⟩
    · exact .inr (.inl ⟨p, xs, h1, h2, h3, h4, q⟩)
    · exact .inr (.inr ⟨c, z, h1, h2, q⟩)
  | exc c => exact (inB_noexc e).elim
  | stuck =>
    rw [e] at h
    exact h.elim
theorem Gd.un65 (gd : Gd X W) : X.A.units + 65 < cLine := by
  have := gd.un
  omega
theorem fe_in (ha : FE X W a f) (hb : FE X W b g) (hm : behindInMarks .In b = false := by rfl) : FE X W (.Compare a [.In] [b] pos) (e2 opIn f g) := fe_cmp (fun gd => (op_inD gd.un65).or (op_in_seq.or op_in_sign)) sim_in ha hb hm
theorem fe_notIn (ha : FE X W a f) (hb : FE X W b g) (hm : behindInMarks .NotIn b = false := by rfl) : FE X W (.Compare a [.NotIn] [b] pos) (e2 opNotIn f g) := fe_cmp (fun gd => (op_notInD gd.un65).or (op_notIn_seq.or op_notIn_sign)) sim_notIn ha hb hm
theorem ft_in (ha : FE X W a f) (hb : FE X W b g) (hm : behindInMarks .In b = false := by rfl) : FT X W (.Compare a [.In] [b] pos) (tB (e2 opIn f g)) := ft_cmp (fun gd => (op_inD gd.un65).or (op_in_seq.or op_in_sign)) sim_in ha hb hm
theorem ft_notIn (ha : FE X W a f) (hb : FE X W b g) (hm : behindInMarks .NotIn b = false := by rfl) : FT X W (.Compare a [.NotIn] [b] pos) (tB (e2 opNotIn f g)) := ft_cmp (fun gd => (op_notInD gd.un65).or (op_notIn_seq.or op_notIn_sign)) sim_notIn ha hb hm

/-! ### calls of built-ins -/
def eB (op : List D → Res D) (l : Sg (List D)) : Sg D := fun σs ah => l σs ah >>= op
def SimC (X : Cx) (op : List D → Res D) (r : List V → Hp → VK → Prop) : Prop :=
  ∀ (W : WX) (F : Fm) (G : Hp) (ρ : Loc → Option Addr) (σs : List SV) (ah : AH) (σ : L2.St) (H : Hp) (ds : List D) (vs : List V) (Q : VK), Rel X.K X.mg F G ρ σs ah σ H → RepBL X.K G ρ H ds vs →
    postR X W F ρ σs ah σ (RB X.K ρ) G H Q (op ds) → r vs H Q
variable {x : Str} {p : Pos} {es : List Expr} {ls : Sg (List D)} {id T : String} {op : List D → Res D} {r : List V → Hp → VK → Prop}
theorem fe_callB (hc : Gd X W → CallR X (.builtin id) r) (hs : SimC X op r) (hv : bootBuiltins x = some (.builtin id)) (hm : X.mg x = none) (ha : FA X W (e :: es) ls) (hg : Gl X x := by rfl) (hn : x ≠ "__name__" := by decide) (hdb : (x == ("__debug__" : Str)) = false := by decide)
    (he : starEach (e :: es) X.env = (false, eval e X.env) :: starEach es X.env := by rfl) (hpl : (backTo pos (starEach es X.env)).any (·.1) = false := by rfl) : FE X W (.Call (.Name x p) (e :: es) [] pos) (eB op ls) := by
  refine ⟨fun gd => (pe_callB (hc gd) hg hm hv (ha.run gd) hn hdb he hpl).imp ?_⟩
  rintro σ H Q ⟨F, G, ρ, σs, ah, R, h⟩
  refine ⟨F, G, ρ, σs, ah, R, h.bind.imp ?_⟩
  rintro vs H' ⟨ds, G', e, R', r, -, h'⟩
  exact hs W F G' ρ σs ah σ H' ds vs Q R' r h'
theorem fe_callTy (hc : Gd X W → CallR X (.type T) r) (hs : SimC X op r) (hv : bootBuiltins x = some (.type T)) (hm : X.mg x = none) (ha : FA X W (e :: es) ls) (hg : Gl X x := by rfl) (hn : x ≠ "__name__" := by decide) (hdb : (x == ("__debug__" : Str)) = false := by decide)
    (he : starEach (e :: es) X.env = (false, eval e X.env) :: starEach es X.env := by rfl) (hpl : (backTo pos (starEach es X.env)).any (·.1) = false := by rfl) : FE X W (.Call (.Name x p) (e :: es) [] pos) (eB op ls) := by
  refine ⟨fun gd => (pe_callTy (hc gd) hg hm hv (ha.run gd) hn hdb he hpl).imp ?_⟩
  rintro σ H Q ⟨F, G, ρ, σs, ah, R, h⟩
  refine ⟨F, G, ρ, σs, ah, R, h.bind.imp ?_⟩
  rintro vs H' ⟨ds, G', e, R', r, -, h'⟩
  exact hs W F G' ρ σs ah σ H' ds vs Q R' r h'
theorem repB1 {K : PySem.W.Frag} {G H : Hp} {ρ : Loc → Option Addr} {d : D} {vs : List V} (h : RepBL K G ρ H [d] vs) : ∃ v, vs = [v] ∧ RepB K G ρ H d v := by
  obtain ⟨v, r, rfl, h1, h2⟩ := h
  have h2 : r = [] := h2
  subst h2
  exact ⟨v, rfl, h1⟩
theorem repB2 {K : PySem.W.Frag} {G H : Hp} {ρ : Loc → Option Addr} {d e : D} {vs : List V} (h : RepBL K G ρ H [d, e] vs) : ∃ v u, vs = [v, u] ∧ RepB K G ρ H d v ∧ RepB K G ρ H e u := by
  obtain ⟨v, r, rfl, h1, h2⟩ := h
  obtain ⟨u, rfl, h3⟩ := repB1 h2
  exact ⟨v, u, rfl, h1, h3⟩
/-- len -/
def bLen : List D → Res D
  | [.str x] => if x.length ≤ sizeLine then .ok (.int x.length) else .stuck
  | [.tup l] => .ok (.int l.length)
  | [.lst l] => .ok (.int l.length)
  | [.bor l] => .ok (.int l.length)
  | _ => .stuck
theorem sim_len : SimC X bLen (fun xs H Q => ∃ x n, xs = [x] ∧ LenV X.K x H n ∧ Q (.int n) H) := by
  intro W F G ρ σs ah σ H ds vs Q R r h
  unfold bLen at h
  split at h
  · rename_i x
    obtain ⟨v, rfl, q⟩ := repB1 r
    split at h
    · rename_i hz
      have q : v = .str x := q
      subst q
      exact ⟨_, _, rfl, ⟨hz, rfl⟩, h _ G H .refl R rfl⟩
    · exact h.elim
  · obtain ⟨v, rfl, q⟩ := repB1 r
    obtain ⟨p, us, rfl, _, q1, q2⟩ := tup_of R.gH q
    refine ⟨_, _, rfl, .inr ⟨us, q1, rfl⟩, ?_⟩
    rw [← q2.length]
    exact h _ G H .refl R rfl
  · obtain ⟨v, rfl, q⟩ := repB1 r
    obtain ⟨p, us, rfl, q1, q2⟩ := lst?_of R.gH q rfl
    refine ⟨_, _, rfl, .inl ⟨us, q1, rfl⟩, ?_⟩
    rw [← q2.length]
    exact h _ G H .refl R rfl
  · obtain ⟨v, rfl, q⟩ := repB1 r
    obtain ⟨p, us, rfl, q1, q2⟩ := lst?_of R.gH q rfl
    refine ⟨_, _, rfl, .inl ⟨us, q1, rfl⟩, ?_⟩
    rw [← q2.length]
    exact h _ G H .refl R rfl
  · exact h.elim
theorem fe_len (hm : X.mg "len" = none) (ha : FA X W [a] ls) (hg : Gl X "len" := by rfl) (he : starEach [a] X.env = (false, eval a X.env) :: starEach [] X.env := by rfl) : FE X W (.Call (.Name "len" p) [a] [] pos) (eB bLen ls) :=
  fe_callB (fun _ => call_len) sim_len PySem.boot_len hm ha hg (by decide) (by decide) he rfl
/-- max, min of two ints; abs -/
def bMax2 : List D → Res D
  | [.int i, .int j] => .ok (.int (if j > i then j else i))
  | _ => .stuck
def bMin2 : List D → Res D
  | [.int i, .int j] => .ok (.int (if j < i then j else i))
  | _ => .stuck
def bAbs : List D → Res D
  | [.int i] => .ok (.int (if i < 0 then -i else i))
  | _ => .stuck
theorem sim_max2 : SimC X bMax2 (fun xs H Q => ∃ i j, xs = [.int i, .int j] ∧ Q (.int (if j > i then j else i)) H) := by
  intro W F G ρ σs ah σ H ds vs Q R r h
  unfold bMax2 at h
  split at h
  · rename_i i j
    obtain ⟨v, u, rfl, r1, r2⟩ := repB2 r
    have r1 : v = .int i := r1
    have r2 : u = .int j := r2
    subst r1 r2
    exact ⟨i, j, rfl, h _ G H .refl R rfl⟩
  · exact h.elim
theorem sim_min2 : SimC X bMin2 (fun xs H Q => ∃ i j, xs = [.int i, .int j] ∧ Q (.int (if j < i then j else i)) H) := by
  intro W F G ρ σs ah σ H ds vs Q R r h
  unfold bMin2 at h
  split at h
  · rename_i i j
    obtain ⟨v, u, rfl, r1, r2⟩ := repB2 r
    have r1 : v = .int i := r1
    have r2 : u = .int j := r2
    subst r1 r2
    exact ⟨i, j, rfl, h _ G H .refl R rfl⟩
  · exact h.elim
theorem sim_abs : SimC X bAbs (fun xs H Q => ∃ i, xs = [.int i] ∧ Q (.int (if i < 0 then -i else i)) H) := by
  intro W F G ρ σs ah σ H ds vs Q R r h
  unfold bAbs at h
  split at h
  · rename_i i
    obtain ⟨v, rfl, r1⟩ := repB1 r
    have r1 : v = .int i := r1
    subst r1
    exact ⟨i, rfl, h _ G H .refl R rfl⟩
  · exact h.elim
theorem fe_max2 (hm : X.mg "max" = none) (ha : FA X W [a, b] ls) (hg : Gl X "max" := by rfl) (he : starEach [a, b] X.env = (false, eval a X.env) :: starEach [b] X.env := by rfl) (hpl : (backTo pos (starEach [b] X.env)).any (·.1) = false := by rfl) : FE X W (.Call (.Name "max" p) [a, b] [] pos) (eB bMax2 ls) :=
  fe_callB (fun gd => call_max2 gd.calm) sim_max2 (by decide +kernel) hm ha hg (by decide) (by decide) he hpl
theorem fe_min2 (hm : X.mg "min" = none) (ha : FA X W [a, b] ls) (hg : Gl X "min" := by rfl) (he : starEach [a, b] X.env = (false, eval a X.env) :: starEach [b] X.env := by rfl) (hpl : (backTo pos (starEach [b] X.env)).any (·.1) = false := by rfl) : FE X W (.Call (.Name "min" p) [a, b] [] pos) (eB bMin2 ls) :=
  fe_callB (fun gd => call_min2 gd.calm) sim_min2 (by decide +kernel) hm ha hg (by decide) (by decide) he hpl
theorem fe_abs (hm : X.mg "abs" = none) (ha : FA X W [a] ls) (hg : Gl X "abs" := by rfl) (he : starEach [a] X.env = (false, eval a X.env) :: starEach [] X.env := by rfl) : FE X W (.Call (.Name "abs" p) [a] [] pos) (eB bAbs ls) :=
  fe_callB (fun gd => call_abs) sim_abs (by decide +kernel) hm ha hg (by decide) (by decide) he rfl
/-- tuple(xs), list(xs) -/
def bTuple : List D → Res D
  | [.tup l] => .ok (.tup l)
  | [.lst l] => .ok (.tup l)
  | [.bor l] => .ok (.tup l)
  | _ => .stuck
def bList : List D → Res D
  | [.tup l] => .ok (.lst l)
  | [.lst l] => .ok (.lst l)
  | [.bor l] => .ok (.lst l)
  | _ => .stuck
theorem sim_tuple : SimC X bTuple (fun xs H Q => ∃ p ys, xs = [.ref p] ∧ ((SqL X.K H p ys ∧ ∀ l, H l = none → Q (.ref l) (upd H l (.tup ys))) ∨ (SqT X.K H p ys ∧ Q (.ref p) H))) := by
  intro W F G ρ σs ah σ H ds vs Q R r h
  unfold bTuple at h
  split at h
  · obtain ⟨v, rfl, q⟩ := repB1 r
    have h' := h _ G H .refl R q
    obtain ⟨p, us, rfl, _, q1, q2⟩ := tup_of R.gH q
    exact ⟨p, us, rfl, .inr ⟨q1, h'⟩⟩
  · obtain ⟨v, rfl, q⟩ := repB1 r
    obtain ⟨p, us, rfl, q1, q2⟩ := lst?_of R.gH q rfl
    exact ⟨p, us, rfl, .inl ⟨q1, fun n hn => post_tup R q2 h hn⟩⟩
  · obtain ⟨v, rfl, q⟩ := repB1 r
    obtain ⟨p, us, rfl, q1, q2⟩ := lst?_of R.gH q rfl
    exact ⟨p, us, rfl, .inl ⟨q1, fun n hn => post_tup R q2 h hn⟩⟩
  · exact h.elim
theorem sim_list : SimC X bList (fun xs H Q => ∃ p ys, xs = [.ref p] ∧ (SqL X.K H p ys ∨ SqT X.K H p ys) ∧ ∀ l, H l = none → Q (.ref l) (upd H l (.lst ys))) := by
  intro W F G ρ σs ah σ H ds vs Q R r h
  unfold bList at h
  split at h
  · obtain ⟨v, rfl, q⟩ := repB1 r
    obtain ⟨p, us, rfl, _, q1, q2⟩ := tup_of R.gH q
    exact ⟨p, us, rfl, .inr q1, fun n hn => post_lst R q2 h hn⟩
  · obtain ⟨v, rfl, q⟩ := repB1 r
    obtain ⟨p, us, rfl, q1, q2⟩ := lst?_of R.gH q rfl
    exact ⟨p, us, rfl, .inl q1, fun n hn => post_lst R q2 h hn⟩
  · obtain ⟨v, rfl, q⟩ := repB1 r
    obtain ⟨p, us, rfl, q1, q2⟩ := lst?_of R.gH q rfl
    exact ⟨p, us, rfl, .inl q1, fun n hn => post_lst R q2 h hn⟩
  · exact h.elim
theorem fe_tuple (hm : X.mg "tuple" = none) (ha : FA X W [a] ls) (hg : Gl X "tuple" := by rfl) (he : starEach [a] X.env = (false, eval a X.env) :: starEach [] X.env := by rfl) : FE X W (.Call (.Name "tuple" p) [a] [] pos) (eB bTuple ls) :=
  fe_callTy (fun gd => call_tuple_of) sim_tuple (by decide +kernel) hm ha hg (by decide) (by decide) he rfl
theorem fe_list (hm : X.mg "list" = none) (ha : FA X W [a] ls) (hg : Gl X "list" := by rfl) (he : starEach [a] X.env = (false, eval a X.env) :: starEach [] X.env := by rfl) : FE X W (.Call (.Name "list" p) [a] [] pos) (eB bList ls) :=
  fe_callTy (fun gd => call_list_of) sim_list (by decide +kernel) hm ha hg (by decide) (by decide) he rfl
/-- int(n), int(bool); str(n) -/
def bInt : List D → Res D
  | [.int i] => .ok (.int i)
  | [.bl k] => .ok (.int (if k then 1 else 0))
  | [.str a] => if a.length ≤ 640 then (match PySem.intText? a with
    | some n => .ok (.int n)
    | none => .stuck) else .stuck
  | _ => .stuck
theorem sim_int : SimC X bInt (fun xs H Q => ((∃ i, xs = [.int i] ∧ Q (.int i) H) ∨ ∃ k, xs = [.bl k] ∧ Q (.int (if k then 1 else 0)) H) ∨ ∃ a n, xs = [.str a] ∧ PySem.intText? a = some n ∧ a.length ≤ 640 ∧ Q (.int n) H) := by
  intro W F G ρ σs ah σ H ds vs Q R r h
  unfold bInt at h
  split at h
  · rename_i i
    obtain ⟨v, rfl, q⟩ := repB1 r
    have q : v = .int i := q
    subst q
    exact .inl (.inl ⟨i, rfl, h _ G H .refl R rfl⟩)
  · rename_i i
    obtain ⟨v, rfl, q⟩ := repB1 r
    have q : v = .bl i := q
    subst q
    exact .inl (.inr ⟨i, rfl, h _ G H .refl R rfl⟩)
  · rename_i a
    obtain ⟨v, rfl, q⟩ := repB1 r
    have q : v = .str a := q
    subst q
    split at h
    · rename_i hz
      cases e : PySem.intText? a with
      | none =>
        rw [e] at h
        exact h.elim
      | some n =>
        rw [e] at h
        exact .inr ⟨a, n, rfl, e, hz, h _ G H .refl R rfl⟩
    · exact h.elim
  · exact h.elim
theorem fe_intc (hm : X.mg "int" = none) (ha : FA X W [a] ls) (hg : Gl X "int" := by rfl) (he : starEach [a] X.env = (false, eval a X.env) :: starEach [] X.env := by rfl) : FE X W (.Call (.Name "int" p) [a] [] pos) (eB bInt ls) :=
  fe_callTy (fun gd => call_int1.or call_int_str) sim_int (by decide +kernel) hm ha hg (by decide) (by decide) he rfl
def bStr : List D → Res D
  | [.int i] => if i.natAbs.log2 < 1920 then .ok (.str (toString i)) else .stuck
  | _ => .stuck
theorem sim_str : SimC X bStr (fun xs H Q => ∃ i, xs = [.int i] ∧ i.natAbs.log2 < 1920 ∧ Q (.str (toString i)) H) := by
  intro W F G ρ σs ah σ H ds vs Q R r h
  unfold bStr at h
  split at h
  · rename_i i
    obtain ⟨v, rfl, q⟩ := repB1 r
    have q : v = .int i := q
    subst q
    split at h
    · rename_i hz
      exact ⟨i, rfl, hz, h _ G H .refl R rfl⟩
    · exact h.elim
  · exact h.elim
theorem fe_strc (hm : X.mg "str" = none) (ha : FA X W [a] ls) (hg : Gl X "str" := by rfl) (he : starEach [a] X.env = (false, eval a X.env) :: starEach [] X.env := by rfl) : FE X W (.Call (.Name "str" p) [a] [] pos) (eB bStr ls) :=
  fe_callTy (fun gd => call_str_int) sim_str (by decide +kernel) hm ha hg (by decide) (by decide) he rfl

/-! ### isinstance of a built-in class -/
def tyName : D → Option String
  | .non => some "NoneType"
  | .bl _ => some "bool"
  | .int _ => some "int"
  | .str _ => some "str"
  | .tup _ => some "tuple"
  | .lst _ => some "list"
  | .bor _ => some "list"
  | .ob _ => none
/-- whether the data is of the class T: int, bool, str, tuple, list -/
def isTy (T : String) : D → Res Bool
  | .non => .ok false
  | .bl _ => .ok (T == "bool" || T == "int")
  | .int _ => .ok (T == "int")
  | .str _ => .ok (T == "str")
  | .tup _ => .ok (T == "tuple")
  | .lst _ => .ok (T == "list")
  | .bor _ => .ok (T == "list")
  | .ob _ => .stuck
/-- the kit's answers for T -/
structure KitT (K : PySem.W.Frag) (T : String) : Prop where
  non : PySem.W.kitOne K (.type "NoneType") (.type T) = some false
  bl : PySem.W.kitOne K (.type "bool") (.type T) = some (T == "bool" || T == "int")
  int : PySem.W.kitOne K (.type "int") (.type T) = some (T == "int")
  str : PySem.W.kitOne K (.type "str") (.type T) = some (T == "str")
  tup : PySem.W.kitOne K (.type "tuple") (.type T) = some (T == "tuple")
  lst : PySem.W.kitOne K (.type "list") (.type T) = some (T == "list")
def eIsi (T : String) (f : Sg D) : Sg D := fun σs ah => f σs ah >>= fun d => isTy T d >>= fun k => .ok (.bl k)
theorem tyX_tup {K : PySem.W.Frag} {H : Hp} {a : Addr} {vs : List V} (h : SqT K H a vs) : TyX K H (.ref a) (.type "tuple") := by
  rcases h with (h | ⟨o, h⟩) | ⟨o, its, n, h1, h2, _⟩
  · exact .base (.tup h)
  · exact .fTuple h
  · exact .kTuple h1 h2
theorem tyX_lst {K : PySem.W.Frag} {H : Hp} {a : Addr} {vs : List V} (h : SqL K H a vs) : TyX K H (.ref a) (.type "list") := by
  rcases h with (h | ⟨o, h⟩) | ⟨o, its, n, h1, h2, _⟩
  · exact .base (.lst h)
  · exact .base (.frz h)
  · exact .kList h1 h2
theorem isTy_of {K : PySem.W.Frag} {G H : Hp} {ρ : Loc → Option Addr} (s : Same G H) {T : String} (kt : KitT K T) {d : D} {v : V} {k : Bool} (r : RepB K G ρ H d v) (e : isTy T d = .ok k) : ∃ t, TyX K H v t ∧ PySem.W.kitOne K t (.type T) = some k := by
  cases d with
  | non =>
    have r : v = _ := r
    subst r
    cases e
    exact ⟨_, .base .non, kt.non⟩
  | bl b =>
    have r : v = _ := r
    subst r
    cases e
    exact ⟨_, .base (.bl b), kt.bl⟩
  | int b =>
    have r : v = _ := r
    subst r
    cases e
    exact ⟨_, .base (.int b), kt.int⟩
  | str b =>
    have r : v = _ := r
    subst r
    cases e
    exact ⟨_, .base (.str b), kt.str⟩
  | tup l =>
    obtain ⟨a, vs, rfl, _, q1, q2⟩ := tup_of s r
    cases e
    exact ⟨_, tyX_tup q1, kt.tup⟩
  | lst l =>
    obtain ⟨a, vs, rfl, q1, q2⟩ := lst?_of s r rfl
    cases e
    exact ⟨_, tyX_lst q1, kt.lst⟩
  | bor l =>
    obtain ⟨a, vs, rfl, q1, q2⟩ := lst?_of s r rfl
    cases e
    exact ⟨_, tyX_lst q1, kt.lst⟩
  | ob n => cases e
theorem isTy_noexc : ∀ {T : String} {d : D} {c : Str}, isTy T d ≠ .exc c
  | _, .non, _ => fun e => by cases e
  | _, .bl _, _ => fun e => by cases e
  | _, .int _, _ => fun e => by cases e
  | _, .str _, _ => fun e => by cases e
  | _, .tup _, _ => fun e => by cases e
  | _, .lst _, _ => fun e => by cases e
  | _, .bor _, _ => fun e => by cases e
  | _, .ob _, _ => fun e => by cases e
theorem fe_isi {tn : Str} {p3 : Pos} (T : String) (hv : bootBuiltins tn = some (.type T)) (kt : KitT X.K T) (hm : X.mg "isinstance" = none) (hmt : X.mg tn = none) (ha : FE X W a f) (hg : Gl X "isinstance" := by rfl) (hgt : Gl X tn := by rfl) (hnt : tn ≠ "__name__" := by decide)
    (hdt : (tn == ("__debug__" : Str)) = false := by decide) (he : starEach [a, .Name tn p3] X.env = (false, eval a X.env) :: starEach [.Name tn p3] X.env := by rfl)
    (he2 : starEach [.Name tn p3] X.env = (false, eval (.Name tn p3) X.env) :: starEach [] X.env := by rfl) (hpl : (backTo pos (starEach [.Name tn p3] X.env)).any (·.1) = false := by rfl) :
    FE X W (.Call (.Name "isinstance" p) [a, .Name tn p3] [] pos) (eIsi T f) := by
  refine ⟨fun gd => (pe_callB call_isi hg hm (by decide +kernel) (pa_cons (ha.run gd) (pa_cons (pe_bltn (v := .ty T) hgt hmt hv rfl hnt hdt) pa_nil he2) he) (by decide) (by decide) he hpl).imp ?_⟩
  rintro σ H Q ⟨F, G, ρ, σs, ah, R, h⟩
  refine ⟨F, G, ρ, σs, ah, R, h.bind.imp ?_⟩
  rintro v H' ⟨d, G', e, R', r, -, h'⟩
  cases ek : isTy T d with
  | ok k =>
    rw [ek] at h'
    obtain ⟨t, h1, h2⟩ := isTy_of R'.gH kt r ek
    exact ⟨v, .ty T, t, .type T, k, rfl, .ty T, h1, h2, h' (.bl k) G' H' .refl R' rfl⟩
  | exc c => exact (isTy_noexc ek).elim
  | stuck =>
    rw [ek] at h'
    exact h'.elim
end
theorem kit_int (K : PySem.W.Frag) : KitT K "int" := ⟨by rfl, by rfl, by rfl, by rfl, by rfl, by rfl⟩
theorem kit_bool (K : PySem.W.Frag) : KitT K "bool" := ⟨by rfl, by rfl, by rfl, by rfl, by rfl, by rfl⟩
theorem kit_str (K : PySem.W.Frag) : KitT K "str" := ⟨by rfl, by rfl, by rfl, by rfl, by rfl, by rfl⟩
theorem kit_tuple (K : PySem.W.Frag) : KitT K "tuple" := ⟨by rfl, by rfl, by rfl, by rfl, by rfl, by rfl⟩
theorem kit_list (K : PySem.W.Frag) : KitT K "list" := ⟨by rfl, by rfl, by rfl, by rfl, by rfl, by rfl⟩
end Rf

set_option Elab.async false
set_option linter.all false
set_option maxRecDepth 100000
set_option maxHeartbeats 4000000
/-! Rf5: slots stored, lists changed, what is walked, comprehensions. -/
namespace Rf
open PySem PySem.Spec PyProof.Rows L2

/-! ### slots -/
def updL (ρ : Loc → Option Addr) (l : Loc) (oa : Option Addr) : Loc → Option Addr := fun x => if x = l then oa else ρ x
theorem updL_same {ρ : Loc → Option Addr} {l : Loc} {oa : Option Addr} : updL ρ l oa l = oa := if_pos rfl
theorem updL_ne {ρ : Loc → Option Addr} {l x : Loc} {oa : Option Addr} (h : x ≠ l) : updL ρ l oa x = ρ x := if_neg h
def SameO (ρ ρ' : Loc → Option Addr) : Prop := ∀ n, ρ (.obj n) = ρ' (.obj n)
theorem SameO.refl {ρ : Loc → Option Addr} : SameO ρ ρ := fun _ => rfl
theorem SameO.trans {ρ ρ₁ ρ' : Loc → Option Addr} (a : SameO ρ ρ₁) (b : SameO ρ₁ ρ') : SameO ρ ρ' := fun n => (a n).trans (b n)
theorem SameO.k {ρ ρ' : Loc → Option Addr} (a : SameO ρ ρ') : Keeps ρ ρ' := fun n x h => (a n) ▸ h
theorem SameO.k' {ρ ρ' : Loc → Option Addr} (a : SameO ρ ρ') : Keeps ρ' ρ := fun n x h => (a n).symm ▸ h
theorem same_slot {ρ : Loc → Option Addr} {i : Nat} {oa : Option Addr} : SameO ρ (updL ρ (.slot i) oa) := fun n => (updL_ne (l := .slot i) (x := .obj n) (fun z => by cases z)).symm
theorem keeps_slot {ρ : Loc → Option Addr} {i : Nat} {oa : Option Addr} : Keeps ρ (updL ρ (.slot i) oa) := fun n a h => by rw [updL_ne (l := .slot i) (x := .obj n) (fun z => by cases z)]; exact h
section
variable {K : PySem.W.Frag} {mg : Str → Option Value} {F : Fm} {G G' H H' : Hp} {ρ ρ' : Loc → Option Addr} {σs : List SV} {ah : AH} {σ : L2.St}
theorem Rel.setS (R : Rel K mg F G ρ σs ah σ H) (i : Nat) (s : SV) (o : Option V) (oa : Option Addr) (hs : RepS K G (updL ρ (.slot i) oa) H (.slot i) s o)
    (ha : ∀ a, oa = some a → (∀ l, l ≠ .slot i → ρ l ≠ some a) ∧ G a = none ∧ (∃ o, H a = some o ∧ isTup o = false) ∧ F.B a = none) : Rel K mg F G (updL ρ (.slot i) oa) (σs.set i s) ah (σ.set i o) H where
  gH := R.gH
  g0 := R.g0
  gN := R.gN
  inj := fun l l' a h h' => by
    by_cases e : l = .slot i
    · by_cases e' : l' = .slot i
      · rw [e, e']
      · rw [e, updL_same] at h
        rw [updL_ne e'] at h'
        exact absurd h' ((ha a h).1 l' e')
    · rw [updL_ne e] at h
      by_cases e' : l' = .slot i
      · rw [e', updL_same] at h'
        exact absurd h ((ha a h').1 l e)
      · rw [updL_ne e'] at h'
        exact R.inj l l' a h h'
  dis := fun l a h => by
    by_cases e : l = .slot i
    · rw [e, updL_same] at h
      exact (ha a h).2.1
    · rw [updL_ne e] at h
      exact R.dis l a h
  liv := fun l a h => by
    by_cases e : l = .slot i
    · rw [e, updL_same] at h
      exact (ha a h).2.2.1
    · rw [updL_ne e] at h
      exact R.liv l a h
  own := fun l a h hl => by
    by_cases e : l = .slot i
    · rw [e, updL_same] at h
      exact (ha a h).2.2.2
    · rw [updL_ne e] at h
      exact R.own l a h hl
  may := fun l a h hl => by
    by_cases e : l = .slot i
    · rw [e] at hl
      cases hl
    · rw [updL_ne e] at h
      exact R.may l a h hl
  bas := R.bas
  tra := R.tra
  len := by rw [List.length_set, List.length_set, R.len]
  slo := fun j x y h1 h2 => by
    by_cases e : j = i
    · subst e
      have hj : j < σs.length := by
        have := (List.getElem?_eq_some_iff.mp h1).1
        rw [List.length_set] at this
        exact this
      rw [List.getElem?_set_self hj] at h1
      rw [List.getElem?_set_self (by rw [← R.len]; exact hj)] at h2
      cases h1
      cases h2
      exact hs
    · rw [List.getElem?_set_ne (Ne.symm e)] at h1 h2
      exact (R.slo j x y h1 h2).mono (.refl _) keeps_slot fun a q => ⟨by rw [updL_ne (by intro z; cases z; exact e rfl)]; exact q, fun _ z => z⟩
  hea := fun n m h => (R.hea n m h).mono (.refl _) keeps_slot (fun _ _ _ z => z) fun f a q => ⟨by rw [updL_ne (by intro z; cases z)]; exact q, fun _ z => z⟩
theorem Rel.set (R : Rel K mg F G ρ σs ah σ H) (i : Nat) {d : D} {v : V} (r : Rep K G ρ d v) : Rel K mg F G (updL ρ (.slot i) none) (σs.set i (.val d)) ah (σ.set i (some v)) H :=
  R.setS i (.val d) (some v) none ⟨v, rfl, Rep.mono (.refl _) keeps_slot _ _ r⟩ fun a z => nomatch z
theorem Rel.unset (R : Rel K mg F G ρ σs ah σ H) (i : Nat) : Rel K mg F G (updL ρ (.slot i) none) (σs.set i .un) ah (σ.set i none) H :=
  R.setS i .un none none trivial fun a z => nomatch z
/-- a slot's own list, a new one -/
theorem Rel.setOwn (R : Rel K mg F G ρ σs ah σ H) (i : Nat) {ds : List D} {vs : List V} {p : Addr} (r : RepL K G ρ ds vs) (hp : H p = none) : Rel K mg F G (updL ρ (.slot i) (some p)) (σs.set i (.own ds)) ah (σ.set i (some (.ref p))) (upd H p (.lst vs)) := by
  refine (R.new (o := HO.lst vs) hp).setS i (.own ds) (some (.ref p)) (some p) ⟨p, vs, rfl, updL_same, upd_same, RepL.mono (.refl _) keeps_slot _ _ r⟩ fun a e => ?_
  cases e
  refine ⟨fun l hl e => ?_, R.free hp, ⟨_, upd_same, rfl⟩, ?_⟩
  · obtain ⟨o, e1, _⟩ := R.liv l _ e
    rw [hp] at e1
    cases e1
  · cases q : F.B p with
    | none => rfl
    | some u =>
      obtain ⟨o', e1⟩ := R.tra p u q
      rw [hp] at e1
      cases e1
/-- .. a new dict -/
theorem Rel.setDct (R : Rel K mg F G ρ σs ah σ H) (i : Nat) {p : Addr} (hp : H p = none) : Rel K mg F G (updL ρ (.slot i) (some p)) (σs.set i (.dct [])) ah (σ.set i (some (.ref p))) (upd H p (.dK [])) := by
  refine (R.new (o := HO.dK []) hp).setS i (.dct []) (some (.ref p)) (some p) ⟨p, [], rfl, updL_same, upd_same, rfl⟩ fun a e => ?_
  cases e
  refine ⟨fun l hl e => ?_, R.free hp, ⟨_, upd_same, rfl⟩, ?_⟩
  · obtain ⟨o, e1, _⟩ := R.liv l _ e
    rw [hp] at e1
    cases e1
  · cases q : F.B p with
    | none => rfl
    | some u =>
      obtain ⟨o', e1⟩ := R.tra p u q
      rw [hp] at e1
      cases e1
/-- the slot's own object is changed -/
theorem Rel.mutS (R : Rel K mg F G ρ σs ah σ H) {i : Nat} {a : Addr} {o' : HO} {s : SV} (h : ρ (.slot i) = some a) (ht : isTup o' = false) (hs : ∀ o, σ[i]? = some o → RepS K G ρ (upd H a o') (.slot i) s o) : Rel K mg F G ρ (σs.set i s) ah σ (upd H a o') := by
  have hB : F.B a = none := R.own _ a h rfl
  have ne : ∀ l b, ρ l = some b → l ≠ .slot i → b ≠ a := fun l b e hl z => hl (R.inj l _ b e (by rw [z]; exact h))
  have hG : G a = none := R.dis _ a h
  refine ⟨fun b o e => ?_, R.g0, R.gN, R.inj, R.dis, fun l b e => ?_, R.own, R.may, fun b o e m => ?_, fun b o e => ?_, by rw [List.length_set, R.len], fun j x y h1 h2 => ?_, fun n m e => ?_⟩
  · rw [upd_ne (ne_of_none e hG)]
    exact R.gH b o e
  · by_cases z : b = a
    · subst z
      exact ⟨o', upd_same, ht⟩
    · rw [upd_ne z]
      exact R.liv l b e
  · rw [upd_ne (ne_of_none e hB)]
    exact R.bas b o e m
  · rw [upd_ne (ne_of_none e hB)]
    exact R.tra b o e
  · by_cases z : j = i
    · subst z
      have hj : j < σs.length := by
        have := (List.getElem?_eq_some_iff.mp h1).1
        rw [List.length_set] at this
        exact this
      rw [List.getElem?_set_self hj] at h1
      cases h1
      exact hs y h2
    · rw [List.getElem?_set_ne (Ne.symm z)] at h1
      exact (R.slo j x y h1 h2).mono (.refl _) .refl fun b q => ⟨q, fun o e => by rw [upd_ne (ne _ b q (by intro z'; cases z'; exact z rfl))]; exact e⟩
  · exact (R.hea n m e).mono (.refl _) .refl (fun b o q e => by rw [upd_ne (ne _ b q (by intro z; cases z))]; exact e) fun f b q => ⟨q, fun o e => by rw [upd_ne (ne _ b q (by intro z; cases z))]; exact e⟩
/-- the slot's own list is given up: from now on it is a value that nobody changes -/
theorem Rel.freeze (R : Rel K mg F G ρ σs ah σ H) {i : Nat} {ds : List D} (hi : σs[i]? = some (.own ds)) :
    ∃ G', Same G G' ∧ Rel K mg F G' (updL ρ (.slot i) none) (σs.set i (.val (.lst ds))) ah σ H := by
  have hl : i < σ.length := by
    rw [← R.len]
    exact (List.getElem?_eq_some_iff.mp hi).1
  obtain ⟨a, vs, e, h1, h2, r⟩ := R.slo i _ _ hi (List.getElem?_eq_getElem hl)
  have hG : G a = none := R.dis _ a h1
  have hB : F.B a = none := R.own _ a h1 rfl
  have ne : ∀ l b, ρ l = some b → l ≠ .slot i → b ≠ a := fun l b e hl z => hl (R.inj l _ b e (by rw [z]; exact h1))
  have sG : Same G (upd G a (.lst vs)) := same_new hG
  have eσ : σ.set i (some (.ref a)) = σ := by
    apply List.ext_getElem?
    intro j
    by_cases z : i = j
    · subst z
      rw [List.getElem?_set_self hl, List.getElem?_eq_getElem hl, e]
    · rw [List.getElem?_set_ne z]
  refine ⟨upd G a (.lst vs), sG, ?_⟩
  have R1 := R.setS i .un none none trivial fun a z => nomatch z
  refine ⟨fun b o e => ?_, R.g0.trans sG, fun b o e => ?_, R1.inj, fun l b e => ?_, R1.liv, R1.own, R1.may, R.bas, R.tra, by rw [List.length_set, R.len], fun j x y e1 e2 => ?_, fun n m e => (R1.hea n m e).mono sG .refl (fun _ _ _ z => z) fun f b q => ⟨q, fun _ z => z⟩⟩
  · by_cases z : b = a
    · subst z
      rw [upd_same] at e
      cases e
      exact h2
    · rw [upd_ne z] at e
      exact R.gH b o e
  · by_cases z : b = a
    · subst z
      exact .inr hB
    · rw [upd_ne z] at e
      exact R.gN b o e
  · have hl : l ≠ .slot i := by
      intro z
      rw [z, updL_same] at e
      cases e
    have e' := e
    rw [updL_ne hl] at e'
    rw [upd_ne (ne l b e' hl)]
    exact R.dis l b e'
  · by_cases z : j = i
    · subst z
      rw [List.getElem?_set_self (by rw [R.len]; exact hl)] at e1
      cases e1
      rw [List.getElem?_eq_getElem hl, e] at e2
      cases e2
      exact ⟨_, rfl, a, vs, rfl, .inl (.inl upd_same), RepL.mono sG keeps_slot _ _ r⟩
    · rw [List.getElem?_set_ne (Ne.symm z)] at e1
      exact (R.slo j x y e1 e2).mono sG keeps_slot fun b q => ⟨by rw [updL_ne (by intro z'; cases z'; exact z rfl)]; exact q, fun _ z => z⟩
end

/-! ### targets -/
inductive Tgt where
  | nm (i : Nat) | tp (is : List Nat)
def setVs : List SV → List Nat → List D → List SV
  | σs, i :: is, d :: ds => setVs (σs.set i (.val d)) is ds
  | σs, _, _ => σs
def setO : L2.St → List Nat → List V → L2.St
  | σ, i :: is, v :: vs => setO (σ.set i (some v)) is vs
  | σ, _, _ => σ
def assignT : Tgt → D → List SV → Res (List SV)
  | .nm i, d, σs => if d.isBor = false then .ok (σs.set i (.val d)) else .stuck
  | .tp is, .tup ds, σs => if ds.length = is.length then .ok (setVs σs is ds) else .stuck
  | .tp _, _, _ => .stuck
def gNs : List Nat → TGs
  | [] => gNil
  | i :: is => gCons (gName i) (gNs is)
def gOf (K : PySem.W.Frag) : Tgt → TG
  | .nm i => gName i
  | .tp is => gTup K is.length (gNs is)
def Tgt.slots : Tgt → List Nat
  | .nm i => [i]
  | .tp is => is
theorem gNs_ok : ∀ {is : List Nat} {vs : List V} {σ : L2.St} {H : Hp} {Q : L2.St → Hp → Prop}, vs.length = is.length → Q (setO σ is vs) H → gNs is vs σ H Q
  | [], [], _, _, _, _, h => ⟨rfl, h⟩
  | [], _ :: _, _, _, _, e, _ => by cases e
  | _ :: _, [], _, _, _, e, _ => by cases e
  | i :: is, v :: vs, _, _, _, e, h => ⟨v, vs, rfl, gNs_ok (Nat.succ.inj e) h⟩
section
variable {K : PySem.W.Frag} {mg : Str → Option Value} {F : Fm} {G H : Hp} {ρ : Loc → Option Addr} {σs : List SV} {ah : AH} {σ : L2.St}
theorem Rel.setVs : ∀ {is : List Nat} {ds : List D} {vs : List V} {σs : List SV} {σ : L2.St} {ρ : Loc → Option Addr}, Rel K mg F G ρ σs ah σ H → RepL K G ρ ds vs → ∃ ρ', SameO ρ ρ' ∧ Rel K mg F G ρ' (Rf.setVs σs is ds) ah (setO σ is vs) H
  | [], ds, vs, σs, σ, ρ, R, r => by
    refine ⟨ρ, .refl, ?_⟩
    cases ds <;> cases vs <;> exact R
  | i :: is, [], vs, σs, σ, ρ, R, r => by
    have r : vs = [] := r
    subst r
    exact ⟨ρ, .refl, R⟩
  | i :: is, d :: ds, _, σs, σ, ρ, R, r => by
    obtain ⟨v, vs, rfl, r1, r2⟩ := r
    obtain ⟨ρ', k, R'⟩ := Rel.setVs (is := is) (R.set i r1) (RepL.mono (.refl _) keeps_slot _ _ r2)
    exact ⟨ρ', same_slot.trans k, R'⟩
theorem gOf_ok {tgt : Tgt} {d : D} {v : V} {σs' : List SV} {Q : L2.St → Hp → Prop} (R : Rel K mg F G ρ σs ah σ H) (r : Rep K G ρ d v) (e : assignT tgt d σs = .ok σs')
    (h : ∀ ρ' vs, vs.length = tgt.slots.length → SameO ρ ρ' → Rel K mg F G ρ' σs' ah (setO σ tgt.slots vs) H → Q (setO σ tgt.slots vs) H) : gOf K tgt v σ H Q := by
  cases tgt with
  | nm i =>
    have e : (if d.isBor = false then Res.ok (σs.set i (.val d)) else .stuck) = .ok σs' := e
    split at e
    · cases e
      exact h _ [v] rfl same_slot (R.set i r)
    · cases e
  | tp is =>
    cases d with
    | tup ds =>
      have e : (if ds.length = is.length then Res.ok (Rf.setVs σs is ds) else .stuck) = .ok σs' := e
      split at e
      · rename_i hz
        cases e
        obtain ⟨a, vs, rfl, q, rl⟩ := r
        obtain ⟨ρ', k, R'⟩ := R.setVs (is := is) rl
        exact ⟨a, vs, rfl, Same.sqT R.gH q, by rw [← rl.length]; exact hz, gNs_ok (by rw [← rl.length]; exact hz) (h ρ' vs (by rw [← rl.length]; exact hz) k R')⟩
      · cases e
    | _ => cases e
end
structure FG (X : Cx) (tg : Expr) (tgt : Tgt) : Prop where
  run : X.calm = true → PG X tg (gOf X.K tgt)
structure FGs (X : Cx) (tgs : List Expr) (is : List Nat) : Prop where
  run : PGs X tgs (gNs is)
theorem fg_nm {X : Cx} {x : Str} {pos : Pos} (i : Nat) (hN : X.N.Nodup) (hi : X.N[i]? = some x := by rfl) (hx : L2.Loc X.env.scope x := by first | exact Or.inl rfl | exact Or.inr rfl) (hf : X.fn x = true ∨ X.env.scope.names.lookup x = some .local := by first | exact .inl rfl | exact .inr rfl) : FG X (.Name x pos) (.nm i) :=
  ⟨fun _ => pg_name hN hi hx hf⟩
theorem fgs_nil {X : Cx} : FGs X [] [] := ⟨pgs_nil⟩
theorem fgs_cons {X : Cx} {x : Str} {pos : Pos} {es : List Expr} {is : List Nat} (i : Nat) (hN : X.N.Nodup) (h : FGs X es is) (hi : X.N[i]? = some x := by rfl) (hx : L2.Loc X.env.scope x := by first | exact Or.inl rfl | exact Or.inr rfl) (hf : X.fn x = true ∨ X.env.scope.names.lookup x = some .local := by first | exact .inl rfl | exact .inr rfl)
    (hs : (assignEach (.Name x pos :: es) X.env).map (·.2) = assign (.Name x pos) X.env :: (assignEach es X.env).map (·.2) := by rfl) : FGs X (.Name x pos :: es) (i :: is) := ⟨pgs_cons (pg_name hN hi hx hf) h.run hs⟩
theorem fg_tp {X : Cx} {es : List Expr} {is : List Nat} {k : Nat} {pos : Pos} (h : FGs X es is) (hn : (assignEach es X.env).length = is.length := by rfl) (hst : (assignEach es X.env).findIdx? (·.1) = none := by rfl) : FG X (.Tuple es k pos) (.tp is) :=
  ⟨fun hc => pg_tup hc h.run hn hst⟩

/-! ### what is walked -/
structure ItD (K : PySem.W.Frag) (Z G : Hp) (ρ : Loc → Option Addr) (J : It) (ds : List D) : Prop where
  run : ∀ (G' : Hp) (ρ' : Loc → Option Addr) (H' : Hp), Same G G' → Keeps ρ ρ' → Same G' H' → Same Z H' → (∀ i, ds.length ≤ i → J.stop i H') ∧
    ∀ i d, ds[i]? = some d → J.go i H' ∧ ∀ x H'', J.yld i H' x H'' → ∃ G'', Ext G' H' G'' H'' ∧ Same G'' H'' ∧ Rep K G'' ρ' d x
def RIt (K : PySem.W.Frag) (ρ : Loc → Option Addr) (b : Bool) : Hp → Hp → List D → It → Prop := fun G H ds J => ItD K (if b = true then G else H) G ρ J ds
def tIt (X : Cx) (W : WX) (b : Bool) (f : Sg (List D)) : TI := fun σ H Q => ∃ F G ρ σs ah, Rel X.K X.mg F G ρ σs ah σ H ∧ postR X W F ρ σs ah σ (RIt X.K ρ b) G H Q (f σs ah)
/-- b: nothing of what is walked may be changed by somebody (a for); else (a comprehension) nothing is changed anyway -/
structure FI (X : Cx) (W : WX) (tg iter : Expr) (b : Bool) (f : Sg (List D)) : Prop where
  run : Gd X W → PI X tg iter (tIt X W b f)
theorem _root_.L2.PI.imp {X : Cx} {tg iter : Expr} {t t' : TI} (h : PI X tg iter t) (k : ∀ σ H R, t' σ H R → t σ H R) : PI X tg iter t' := ⟨fun pins s σ H R I q => h.run pins s σ H R I (k σ H R q)⟩
theorem _root_.L2.PI.or {X : Cx} {tg iter : Expr} {t t' : TI} (h : PI X tg iter t) (h' : PI X tg iter t') : PI X tg iter (fun σ H R => t σ H R ∨ t' σ H R) := ⟨fun pins s σ H R I q => by
  rcases q with q | q
  · exact h.run pins s σ H R I q
  · exact h'.run pins s σ H R I q⟩
def signs (x : Str) : List D := x.cps.toList.map fun c => .str ⟨#[c]⟩
def seqOf (b : Bool) : D → Res (List D)
  | .tup l => .ok l
  | .lst l => .ok l
  | .bor l => if b = true then .stuck else .ok l
  | .str x => .ok (signs x)
  | _ => .stuck
def iSeq (b : Bool) (f : Sg D) : Sg (List D) := fun σs ah => f σs ah >>= seqOf b
theorem itd_list {K : PySem.W.Frag} {Z G : Hp} {ρ : Loc → Option Addr} {a : Addr} {l : List D} {vs : List V} (h : SqL K Z a vs) (r : RepL K G ρ l vs) : ItD K Z G ρ (Itl K a) l := by
  refine ⟨fun G' ρ' H' sG k gH sZ => ?_⟩
  have q : SqL K H' a vs := Same.rd sZ h
  refine ⟨fun i hi => ⟨vs, q, by rw [← r.length]; exact hi⟩, fun i d e => ?_⟩
  obtain ⟨v, e1, e2⟩ := r.get e
  refine ⟨⟨vs, v, q, e1⟩, fun x H'' y => ?_⟩
  obtain ⟨rfl, y⟩ := y
  have e3 := y vs q
  rw [e1] at e3
  cases e3
  exact ⟨G', .refl, gH, Rep.mono sG k _ _ e2⟩
theorem itd_tup {K : PySem.W.Frag} {Z G : Hp} {ρ : Loc → Option Addr} {a : Addr} {l : List D} {vs : List V} (h : SqT K G a vs) (r : RepL K G ρ l vs) : ItD K Z G ρ (Itt K a) l := by
  refine ⟨fun G' ρ' H' sG k gH sZ => ?_⟩
  have q : SqT K H' a vs := Same.sqT gH (Same.sqT sG h)
  refine ⟨fun i hi => ⟨vs, q, by rw [← r.length]; exact hi⟩, fun i d e => ?_⟩
  obtain ⟨v, e1, e2⟩ := r.get e
  refine ⟨⟨vs, v, q, e1⟩, fun x H'' y => ?_⟩
  obtain ⟨rfl, y⟩ := y
  have e3 := y vs q
  rw [e1] at e3
  cases e3
  exact ⟨G', .refl, gH, Rep.mono sG k _ _ e2⟩
theorem itd_str {K : PySem.W.Frag} {Z G : Hp} {ρ : Loc → Option Addr} {x : Str} : ItD K Z G ρ (Its x) (signs x) := by
  refine ⟨fun G' ρ' H' sG k gH sZ => ⟨fun i hi => ?_, fun i d e => ?_⟩⟩
  · show x.cps.size ≤ i
    unfold signs at hi
    rw [List.length_map, Array.length_toList] at hi
    exact hi
  · unfold signs at e
    rw [List.getElem?_map] at e
    obtain ⟨c, e1, rfl⟩ := Option.map_eq_some_iff.mp e
    rw [Array.getElem?_toList] at e1
    refine ⟨(Array.getElem?_eq_some_iff.mp e1).1, fun v H'' y => ?_⟩
    obtain ⟨rfl, c', e2, rfl⟩ := y
    rw [e1] at e2
    cases e2
    exact ⟨G', .refl, gH, rfl⟩
def rngL (lo : Int) (n : Nat) : List D := (List.range n).map fun (i : Nat) => D.int (lo + (i : Int))
theorem itd_rng {K : PySem.W.Frag} {Z G : Hp} {ρ : Loc → Option Addr} {lo : Int} {n : Nat} : ItD K Z G ρ (Itr lo n) (rngL lo n) := by
  refine ⟨fun G' ρ' H' sG k gH sZ => ⟨fun i hi => ?_, fun i d e => ?_⟩⟩
  · show n ≤ i
    unfold rngL at hi
    rw [List.length_map, List.length_range] at hi
    exact hi
  · unfold rngL at e
    rw [List.getElem?_map] at e
    obtain ⟨c, e1, rfl⟩ := Option.map_eq_some_iff.mp e
    have hi : i < n := by
      have := (List.getElem?_eq_some_iff.mp e1).1
      rw [List.length_range] at this
      exact this
    have e2 : c = i := by
      rw [List.getElem?_range hi] at e1
      exact (Option.some.inj e1).symm
    subst e2
    refine ⟨hi, fun v H'' y => ?_⟩
    obtain ⟨rfl, rfl⟩ := y
    exact ⟨G', .refl, gH, rfl⟩
section
variable {X : Cx} {W : WX} {tg iter a b : Expr} {f g : Sg D} {ls : Sg (List D)} {p pos : Pos}
theorem fi_seq (k : Bool) (h : FE X W iter f) : FI X W tg iter k (iSeq k f) := by
  refine ⟨fun gd => ((pi_list (h.run gd)).or ((pi_tup (h.run gd)).or (pi_str (h.run gd)))).imp ?_⟩
  rintro σ H R ⟨F, G, ρ, σs, ah, RR, h⟩
  unfold iSeq at h
  cases e : f σs ah with
  | exc c =>
    rw [e] at h
    exact .inl ⟨F, G, ρ, σs, ah, RR, by rw [e]; exact h⟩
  | stuck =>
    rw [e] at h
    exact h.elim
  | ok d =>
    rw [e] at h
    cases d with
    | tup l =>
      refine .inr (.inl ⟨F, G, ρ, σs, ah, RR, ?_⟩)
      rw [e]
      intro v G' H' ex R' r
      obtain ⟨a, vs, rfl, q0, q1, q2⟩ := tup_of R'.gH r
      exact ⟨a, rfl, ⟨vs, q1⟩, h _ G' H' ex R' (itd_tup q0 q2)⟩
    | lst l =>
      refine .inl ⟨F, G, ρ, σs, ah, RR, ?_⟩
      rw [e]
      intro v G' H' ex R' r
      obtain ⟨a, vs, rfl, q1, q2⟩ := id r
      have q3 := Same.rd R'.gH q1
      refine ⟨a, rfl, ⟨vs, q3⟩, h _ G' H' ex R' ?_⟩
      refine itd_list ?_ q2
      cases k with
      | true => exact q1
      | false => exact q3
    | bor l =>
      cases k with
      | true => exact h.elim
      | false =>
        refine .inl ⟨F, G, ρ, σs, ah, RR, ?_⟩
        rw [e]
        intro v G' H' ex R' r
        obtain ⟨a, vs, rfl, q1, q2⟩ := lst?_of R'.gH r rfl
        exact ⟨a, rfl, ⟨vs, q1⟩, h _ G' H' ex R' (itd_list q1 q2)⟩
    | str x =>
      refine .inr (.inr ⟨F, G, ρ, σs, ah, RR, ?_⟩)
      rw [e]
      intro v G' H' ex R' r
      exact ⟨x, r, h _ G' H' ex R' itd_str⟩
    | _ => exact h.elim
def rngOf1 : List D → Res (List D)
  | [.int j] => if -(2 ^ 62) ≤ j ∧ j < 2 ^ 62 then .ok (rngL 0 j.toNat) else .stuck
  | _ => .stuck
def rngOf2 : List D → Res (List D)
  | [.int i, .int j] => if -(2 ^ 62) ≤ i ∧ i < 2 ^ 62 ∧ -(2 ^ 62) ≤ j ∧ j < 2 ^ 62 then .ok (rngL i (j - i).toNat) else .stuck
  | _ => .stuck
def iRng1 (l : Sg (List D)) : Sg (List D) := fun σs ah => l σs ah >>= rngOf1
def iRng2 (l : Sg (List D)) : Sg (List D) := fun σs ah => l σs ah >>= rngOf2
theorem fi_rng1 (k : Bool) (hm : X.mg "range" = none) (h : FA X W [a] ls) (hg : Gl X "range" := by rfl) (hs : starEach [a] X.env = [(false, eval a X.env)] := by rfl) : FI X W tg (.Call (.Name "range" p) [a] [] pos) k (Rf.iRng1 ls) := by
  refine ⟨fun gd => (pi_range1 hg hm (h.run gd) hs).imp ?_⟩
  rintro σ H R ⟨F, G, ρ, σs, ah, RR, h⟩
  refine ⟨F, G, ρ, σs, ah, RR, h.bind.imp ?_⟩
  rintro vs H' ⟨ds, G', e, R', r, -, h'⟩
  unfold rngOf1 at h'
  split at h'
  · rename_i j
    obtain ⟨v, rfl, q⟩ := repB1 r
    have q : v = .int j := q
    subst q
    split at h'
    · rename_i hz
      exact ⟨j, rfl, hz.1, hz.2, h' _ G' H' .refl R' itd_rng⟩
    · exact h'.elim
  · exact h'.elim
theorem fi_rng2 (k : Bool) (hm : X.mg "range" = none) (h : FA X W [a, b] ls) (hg : Gl X "range" := by rfl) (hs : starEach [a, b] X.env = [(false, eval a X.env), (false, eval b X.env)] := by rfl) (hs2 : starEach [b] X.env = [(false, eval b X.env)] := by rfl) : FI X W tg (.Call (.Name "range" p) [a, b] [] pos) k (Rf.iRng2 ls) := by
  refine ⟨fun gd => (pi_range2 hg hm (h.run gd) hs hs2).imp ?_⟩
  rintro σ H R ⟨F, G, ρ, σs, ah, RR, h⟩
  refine ⟨F, G, ρ, σs, ah, RR, h.bind.imp ?_⟩
  rintro vs H' ⟨ds, G', e, R', r, -, h'⟩
  unfold rngOf2 at h'
  split at h'
  · rename_i i j
    obtain ⟨v, u, rfl, q1, q2⟩ := repB2 r
    have q1 : v = .int i := q1
    have q2 : u = .int j := q2
    subst q1 q2
    split at h'
    · rename_i hz
      exact ⟨i, j, rfl, hz, h' _ G' H' .refl R' itd_rng⟩
    · exact h'.elim
  · exact h'.elim
end

/-! ### comprehensions -/
abbrev W0 : WX := fun _ _ _ _ => False
theorem Gd.blk {X : Cx} {W : WX} (gd : Gd X W) (s : Shared) (H : Hp) (scope : Scope) (cenv : Env) (fp : List Addr) : Gd (X.blk s H scope cenv fp) W0 :=
  ⟨takes0, PassesOwn.never, gd.calm, gd.nd, gd.un⟩
structure FTs (X : Cx) (W : WX) (ifs : List Expr) (f : Sg Bool) : Prop where
  run : Gd X W → PTs X ifs (tT X W f)
def sYes : Sg Bool := fun _ _ => .ok true
theorem fts_nil {X : Cx} {W : WX} : FTs X W [] sYes := by
  refine ⟨fun gd => ⟨fun pins s σ H Q I h => pts_nil.run pins s σ H Q I ?_⟩⟩
  obtain ⟨F, G, ρ, σs, ah, R, h⟩ := h
  exact h true G H .refl R rfl
theorem fts_one {X : Cx} {W : WX} {c : Expr} {f : Sg Bool} (h : FT X W c f) : FTs X W [c] f := ⟨fun gd => pts_one (h.run gd)⟩
/-- no exception leaves a block -/
def noX {α : Type} : Res α → Res α
  | .exc _ => .stuck
  | r => r
def wipeS (σs : List SV) : List Nat → List SV
  | [] => σs
  | v :: vs => (wipeS σs vs).set v .un
/-- one item of a comprehension -/
def lcItem (tgt : Tgt) (cond : Sg Bool) (elt : Sg D) (σw : List SV) (ah : AH) (d : D) : Res (Option D) :=
  assignT tgt d σw >>= fun σ2 => noX (cond σ2 ah) >>= fun k => if k = true then (noX (elt σ2 ah) >>= fun y => if y.isBor = false then .ok (some y) else .stuck) else .ok none
def lcD (item : D → Res (Option D)) : List D → Res (List D)
  | [] => .ok []
  | d :: ds => item d >>= fun o => lcD item ds >>= fun r => .ok (match o with
    | some y => y :: r
    | none => r)
def eLc (it : Sg (List D)) (vs : List Nat) (tgt : Tgt) (cond : Sg Bool) (elt : Sg D) : Sg (List D) := fun σs ah => it σs ah >>= fun ds => if ds.length ≤ sizeLine then noX (lcD (lcItem tgt cond elt (wipeS σs vs) ah) ds) else .stuck
def eLst' (l : Sg (List D)) : Sg D := fun σs ah => l σs ah >>= fun ds => .ok (.lst ds)
theorem wipe_get (σ : L2.St) : ∀ (vs : List Nat) (j : Nat), j < σ.length → (wipe σ vs)[j]? = if j ∈ vs then some none else σ[j]?
  | [], j, h => by simp [wipe]
  | v :: vs, j, h => by
    unfold wipe
    by_cases e : v = j
    · subst e
      rw [List.getElem?_set_self (by rw [wipe_length]; exact h)]
      simp
    · rw [List.getElem?_set_ne e, wipe_get σ vs j h]
      have e' : ¬ j = v := fun q => e q.symm
      simp [e']
theorem wipe_ext {σ τ : L2.St} {vs : List Nat} (hl : σ.length = τ.length) (h : ∀ j, j ∉ vs → σ[j]? = τ[j]?) : wipe σ vs = wipe τ vs := by
  apply List.ext_getElem?
  intro j
  by_cases hj : j < σ.length
  · rw [wipe_get σ vs j hj, wipe_get τ vs j (hl ▸ hj)]
    split
    · rfl
    · exact h j (by assumption)
  · rw [List.getElem?_eq_none (by rw [wipe_length]; omega), List.getElem?_eq_none (by rw [wipe_length]; omega)]
theorem setO_length : ∀ (is : List Nat) (vs : List V) (σ : L2.St), (setO σ is vs).length = σ.length
  | [], vs, σ => by cases vs <;> rfl
  | i :: is, [], σ => rfl
  | i :: is, v :: vs, σ => by
    show (setO (σ.set i (some v)) is vs).length = _
    rw [setO_length is vs, List.length_set]
theorem setO_get : ∀ (is : List Nat) (vs : List V) (σ : L2.St) (j : Nat), j ∉ is → (setO σ is vs)[j]? = σ[j]?
  | [], vs, σ, j, _ => by cases vs <;> rfl
  | i :: is, [], σ, j, _ => rfl
  | i :: is, v :: vs, σ, j, h => by
    show (setO (σ.set i (some v)) is vs)[j]? = _
    simp only [List.mem_cons, not_or] at h
    rw [setO_get is vs _ j h.2, List.getElem?_set_ne (fun e => h.1 e.symm)]
theorem wipe_setO {σ : L2.St} {vs is : List Nat} {us : List V} (h : ∀ i ∈ is, i ∈ vs) : wipe (setO (wipe σ vs) is us) vs = wipe σ vs := by
  refine wipe_ext (by rw [setO_length, wipe_length]) fun j hj => ?_
  rw [setO_get is us _ j fun q => hj (h j q)]
  by_cases hl : j < σ.length
  · rw [wipe_get σ vs j hl, if_neg hj]
  · rw [List.getElem?_eq_none (by rw [wipe_length]; omega), List.getElem?_eq_none (by omega)]
theorem Rel.wipe {K : PySem.W.Frag} {mg : Str → Option Value} {F : Fm} {G H : Hp} {ρ : Loc → Option Addr} {σs : List SV} {ah : AH} {σ : L2.St} (R : Rel K mg F G ρ σs ah σ H) : ∀ vs : List Nat, ∃ ρ', SameO ρ ρ' ∧ Rel K mg F G ρ' (wipeS σs vs) ah (L2.wipe σ vs) H
  | [] => ⟨ρ, .refl, R⟩
  | v :: vs => by
    obtain ⟨ρ', k, R'⟩ := Rel.wipe R vs
    exact ⟨_, k.trans same_slot, R'.unset v⟩
theorem noX_ok {α : Type} {r : Res α} {a : α} (h : noX r = .ok a) : r = .ok a := by
  cases r with
  | ok b => exact h
  | exc c => cases h
  | stuck => cases h
theorem lcD_noexc {item : D → Res (Option D)} (h : ∀ d c, item d ≠ .exc c) : ∀ (ds : List D) (c : Str), lcD item ds ≠ .exc c
  | [], c => fun e => nomatch e
  | d :: ds, c => by
    intro e
    unfold lcD at e
    cases e1 : item d with
    | ok o =>
      rw [e1] at e
      cases e2 : lcD item ds with
      | ok r =>
        rw [Res.bind_ok, e2] at e
        cases e
      | exc c' => exact lcD_noexc h ds c' e2
      | stuck =>
        rw [Res.bind_ok, e2] at e
        cases e
    | exc c' => exact h d c' e1
    | stuck =>
      rw [e1] at e
      cases e
theorem lcD_len {item : D → Res (Option D)} : ∀ {ds r : List D}, lcD item ds = .ok r → r.length ≤ ds.length
  | [], r, h => by
    cases h
    exact Nat.le_refl _
  | d :: ds, r, h => by
    unfold lcD at h
    cases e1 : item d with
    | ok o =>
      rw [e1, Res.bind_ok] at h
      cases e2 : lcD item ds with
      | ok r' =>
        rw [e2, Res.bind_ok] at h
        cases h
        have := lcD_len e2
        cases o with
        | none => exact Nat.le_succ_of_le this
        | some y => exact Nat.succ_le_succ this
      | exc c =>
        rw [e2] at h
        cases h
      | stuck =>
        rw [e2] at h
        cases h
    | exc c =>
      rw [e1] at h
      cases h
    | stuck =>
      rw [e1] at h
      cases h
section
variable {X : Cx} {W : WX} {tg iter elt : Expr} {ifs : List Expr} {scope : Scope} {own : List (Str × Nat)} {pos : Pos} {it : Sg (List D)} {tgt : Tgt} {cond : Sg Bool} {fe : Sg D}
/-- the new list at P, between two turns: all that is known and tracked stays, the list is nobody's yet -/
structure LcAt (K : PySem.W.Frag) (ρ : Rf.Loc → Option Addr) (P : Addr) (G1 H1 G H : Hp) (acc : List V) (ds : List D) : Prop where
  g : Same G1 G
  h : Same H1 H
  n : ∀ a o, G a = some o → G1 a = some o ∨ H1 a = none
  gh : Same G H
  gp : G P = none
  hp : H P = some (.lst acc)
  r : RepL K G ρ ds acc
theorem bind_okE {α β : Type} {r : Res α} {k : α → Res β} {b : β} (h : (r >>= k) = .ok b) : ∃ a, r = .ok a ∧ k a = .ok b := by
  cases r with
  | ok a => exact ⟨a, rfl, h⟩
  | exc c => cases h
  | stuck => cases h
/-- the comprehension's reading -/
theorem tLc_ok (hsl : ∀ i ∈ tgt.slots, i ∈ own.map (·.2)) {σ : L2.St} {H : Hp} {Q : VK} {F : Fm} {G : Hp} {ρ : Rf.Loc → Option Addr} {σs : List SV} {ah : AH} (R : Rel X.K X.mg F G ρ σs ah σ H)
    (h : postR X W F ρ σs ah σ (RIt X.K ρ false) G H (fun J H1 => ∃ ds G1 r, Rel X.K X.mg F G1 ρ σs ah σ H1 ∧ ItD X.K H1 G1 ρ J ds ∧ ds.length ≤ sizeLine ∧ lcD (lcItem tgt cond fe (wipeS σs (own.map (·.2))) ah) ds = .ok r ∧
      ∀ P Gi Hi acc, H1 P = none → LcAt X.K ρ P G1 H1 Gi Hi acc r → Q (.ref P) Hi) (it σs ah)) :
    tLc (tIt X W false it) (gOf X.K tgt) (tT X W0 cond) (tE X W0 fe) (own.map (·.2)) σ H Q := by
  refine ⟨F, G, ρ, σs, ah, R, h.imp ?_⟩
  rintro J H1 ⟨ds, G1, r, R1, IT, hz, hr, fin⟩ P hP
  refine ⟨fun i m Hi => m = ds.length - i ∧ i ≤ ds.length ∧ ∃ Gi acc ac r', LcAt X.K ρ P G1 H1 Gi Hi acc ac ∧ ac.length ≤ i ∧ lcD (lcItem tgt cond fe (wipeS σs (own.map (·.2))) ah) (ds.drop i) = .ok r' ∧ r = ac ++ r', ⟨ds.length, by simp, Nat.zero_le _, G1, [], [], r, ?_, Nat.le_refl _, hr, rfl⟩, ?_⟩
  · exact ⟨.refl _, same_new hP, fun _ _ h => .inl h, R1.gH.trans (same_new hP), R1.free hP, upd_same, rfl⟩
  rintro i m Hi ⟨rfl, hi, Gi, acc, ac, r', A, hac, hr', er⟩
  obtain ⟨it1, it2⟩ := IT.run Gi ρ Hi A.g .refl A.gh A.h
  by_cases hlt : i < ds.length
  · refine .inr ?_
    have ed : ds[i]? = some ds[i] := List.getElem?_eq_getElem hlt
    obtain ⟨go, yl⟩ := it2 i _ ed
    refine ⟨go, fun H' => ∃ Gi acc ac r', LcAt X.K ρ P G1 H1 Gi H' acc ac ∧ ac.length ≤ i + 1 ∧ lcD (lcItem tgt cond fe (wipeS σs (own.map (·.2))) ah) (ds.drop (i + 1)) = .ok r' ∧ r = ac ++ r', fun H' q => ⟨ds.length - (i + 1), by omega, rfl, hlt, q⟩, ?_⟩
    intro x H2 y
    obtain ⟨G2, ex2, gh2, rd⟩ := yl x H2 y
    have R2 : Rel X.K X.mg F G2 ρ σs ah σ H2 := R1.ext (A.g.trans ex2.g) (A.h.trans ex2.h) gh2 fun a o q => by
      rcases ex2.n a o q with z | z
      · exact A.n a o z
      · exact .inr (A.h.free z)
    obtain ⟨ρw, kw, Rw⟩ := R2.wipe (own.map (·.2))
    rw [List.drop_eq_getElem_cons hlt] at hr'
    unfold lcD at hr'
    obtain ⟨o, eo, hr'⟩ := bind_okE hr'
    obtain ⟨r2, er2, hr'⟩ := bind_okE hr'
    unfold lcItem at eo
    obtain ⟨σ2, e1, eo⟩ := bind_okE eo
    obtain ⟨k, e2, eo⟩ := bind_okE eo
    refine gOf_ok Rw (Rep.mono (.refl _) kw.k _ _ rd) e1 fun ρ3 us hus k3 R3 => ?_
    refine ⟨wipe_setO fun j hj => hsl j hj, F, G2, ρ3, σ2, ah, R3, ?_⟩
    have kk : SameO ρ ρ3 := kw.trans k3
    rw [noX_ok e2]
    intro b G3 H3 ex3 R3' eb
    cases eb
    have ext : ∀ {G4 H4 : Hp}, Ext G2 H2 G4 H4 → Ext Gi Hi G4 H4 := fun e => ex2.trans e
    have keep : ∀ {G4 H4 : Hp}, Ext Gi Hi G4 H4 → G4 P = none ∧ H4 P = some (.lst acc) := fun {G4 H4} e => by
      refine ⟨?_, e.h _ _ A.hp⟩
      cases q : G4 P with
      | none => rfl
      | some o =>
        rcases e.n P o q with z | z
        · rw [A.gp] at z
          cases z
        · rw [A.hp] at z
          cases z
    have new : ∀ {G4 H4 : Hp}, Ext Gi Hi G4 H4 → ∀ a o, G4 a = some o → G1 a = some o ∨ H1 a = none := fun {G4 H4} e a o q => by
      rcases e.n a o q with z | z
      · exact A.n a o z
      · exact .inr (A.h.free z)
    cases k with
    | false =>
      refine iteF ?_
      rw [if_neg (by decide)] at eo
      cases eo
      cases hr'
      have e := ext ex3
      obtain ⟨g4, h4⟩ := keep e
      exact ⟨G3, acc, ac, r2, ⟨A.g.trans e.g, A.h.trans e.h, new e, R3'.gH, g4, h4, RepL.mono e.g .refl _ _ A.r⟩, Nat.le_succ_of_le hac, er2, er⟩
    | true =>
      refine iteT ?_
      rw [if_pos rfl] at eo
      obtain ⟨y, e3, eo⟩ := bind_okE eo
      refine ⟨F, G3, ρ3, σ2, ah, R3', ?_⟩
      rw [noX_ok e3]
      intro v G4 H4 ex4 R4 rv
      split at eo
      · rename_i hb
        cases eo
        cases hr'
        have e := ext (ex3.trans ex4)
        obtain ⟨g4, h4⟩ := keep e
        have rv' : Rep X.K G4 ρ y v := Rep.mono (.refl _) kk.k' _ _ (rv.rep hb)
        have ra := RepL.mono e.g .refl _ _ A.r
        refine ⟨acc, h4, ?_, G4, acc ++ [v], ac ++ [y], r2, ⟨A.g.trans e.g, ?_, new e, ?_, g4, upd_same, ra.append (.cons rv' .nil)⟩, ?_, er2, by rw [er, List.append_assoc]; rfl⟩
        · rw [← A.r.length]
          omega
        · intro b o q
          rw [upd_ne (ne_of_none q hP)]
          exact A.h.trans e.h b o q
        · intro b o q
          rw [upd_ne (ne_of_none q g4)]
          exact R4.gH b o q
        · rw [List.length_append, List.length_singleton]
          omega
      · cases eo
  · have e : i = ds.length := by omega
    refine .inl ⟨it1 i (by omega), ?_⟩
    rw [List.drop_of_length_le (by omega)] at hr'
    cases hr'
    rw [List.append_nil] at er
    subst er
    exact fin P Gi Hi acc hP A
theorem eLc_ok {σs : List SV} {ah : AH} {vs : List Nat} {ds : List D} (e : it σs ah = .ok ds) : eLc it vs tgt cond fe σs ah = if ds.length ≤ sizeLine then noX (lcD (lcItem tgt cond fe (wipeS σs vs) ah) ds) else .stuck := by
  unfold eLc
  rw [e]
  rfl
theorem noX_cases {α : Type} (r : Res α) : (∃ a, r = .ok a ∧ noX r = .ok a) ∨ noX r = .stuck := by
  cases r with
  | ok a => exact .inl ⟨a, rfl, rfl⟩
  | exc c => exact .inr rfl
  | stuck => exact .inr rfl
/-- as a value: nobody changes it -/
theorem fe_lc {pos' : Pos} (hi : FI X W tg iter false it) (ok : blkC X.N X.env.scope scope own = true) (hsl : ∀ i ∈ tgt.slots, i ∈ own.map (·.2))
    (hg : ∀ (s : Shared) (H : Hp) (C : Addr) (cl : List (Str × Addr)) (fp : List Addr), FG (X.blk s H scope (compEnvC scope cl C X.env) fp) tg tgt) (ht : ∀ (s : Shared) (H : Hp) (C : Addr) (cl : List (Str × Addr)) (fp : List Addr), FTs (X.blk s H scope (compEnvC scope cl C X.env) fp) W0 ifs cond)
    (he : ∀ (s : Shared) (H : Hp) (C : Addr) (cl : List (Str × Addr)) (fp : List Addr), FE (X.blk s H scope (compEnvC scope cl C X.env) fp) W0 elt fe) (hs : ∀ x, foldedSetIterable iter X.env x = pure x := by intro _; rfl) :
    FE X W (.ListComp elt [⟨tg, iter, ifs, 0⟩] scope pos) (eLst' (eLc it (own.map (·.2)) tgt cond fe)) := by
  refine ⟨fun gd => (pe_lc (g := gOf X.K tgt) (tt := tT X W0 cond) (te := tE X W0 fe) gd.calm gd.nd (hi.run gd) (blkOk_by ok) (fun s H C cl fp => (hg s H C cl fp).run gd.calm) (fun s H C cl fp => (ht s H C cl fp).run (gd.blk s H scope _ fp)) (fun s H C cl fp => (he s H C cl fp).run (gd.blk s H scope _ fp)) hs).imp ?_⟩
  rintro σ H Q ⟨F, G, ρ, σs, ah, R, h⟩
  refine tLc_ok hsl R ?_
  unfold eLst' at h
  cases e : it σs ah with
  | exc c =>
    have e' : eLc it (own.map (·.2)) tgt cond fe σs ah = .exc c := by unfold eLc; rw [e]; rfl
    rw [e'] at h
    exact h
  | stuck =>
    have e' : eLc it (own.map (·.2)) tgt cond fe σs ah = .stuck := by unfold eLc; rw [e]; rfl
    rw [e'] at h
    exact h.elim
  | ok ds =>
    rw [eLc_ok e] at h
    intro J G1 H1 ex R1 IT
    split at h
    · rename_i hz
      rcases noX_cases (lcD (lcItem tgt cond fe (wipeS σs (own.map (·.2))) ah) ds) with ⟨r, e1, e2⟩ | e2
      · rw [e2] at h
        refine ⟨ds, G1, r, R1, IT, hz, e1, fun P Gi Hi acc hP A => ?_⟩
        have gne : ∀ b o, Gi b = some o → b ≠ P := fun b o q z => by
          rw [z, A.gp] at q
          cases q
        have ex2 : Ext G1 H1 (upd Gi P (.lst acc)) Hi := ⟨fun b o q => by rw [upd_ne (gne b o (A.g b o q))]; exact A.g b o q, A.h, fun a o q => by
          by_cases z : a = P
          · subst z
            exact .inr hP
          · rw [upd_ne z] at q
            exact A.n a o q⟩
        have gh : Same (upd Gi P (.lst acc)) Hi := fun b o q => by
          by_cases z : b = P
          · subst z
            rw [upd_same] at q
            cases q
            exact A.hp
          · rw [upd_ne z] at q
            exact A.gh b o q
        refine h _ _ Hi (ex.trans ex2) (R1.ext ex2.g ex2.h gh ex2.n) ⟨P, acc, rfl, .inl (.inl upd_same), RepL.mono (fun b o q => ?_) .refl _ _ A.r⟩
        rw [upd_ne (gne b o q)]
        exact q
      · rw [e2] at h
        exact h.elim
    · exact h.elim
end
end Rf

set_option Elab.async false
set_option linter.all false
set_option maxRecDepth 100000
set_option maxHeartbeats 4000000
/-! Rf6: statements. -/
namespace Rf
open PySem PySem.Spec PyProof.Rows L2

inductive Fl where
  | nx | ret (d : D) | bk | ct
inductive RS where
  | go (fl : Fl) (σs : List SV) (ah : AH) | exc (c : Str) (σs : List SV) (ah : AH) | stuck
abbrev Ss := List SV → AH → RS
def bindS {α : Type} (r : Res α) (σs : List SV) (ah : AH) (k : α → RS) : RS := match r with
  | .ok a => k a
  | .exc c => .exc c σs ah
  | .stuck => .stuck
/-- the objects' places: where nothing may be changed, just the same -/
def KO (b : Bool) (ρ ρ' : Loc → Option Addr) : Prop := Keeps ρ ρ' ∧ (b = false → SameO ρ ρ')
theorem KO.refl {b : Bool} {ρ : Loc → Option Addr} : KO b ρ ρ := ⟨.refl, fun _ => .refl⟩
theorem KO.trans {b : Bool} {ρ ρ₁ ρ' : Loc → Option Addr} (a : KO b ρ ρ₁) (c : KO b ρ₁ ρ') : KO b ρ ρ' := ⟨a.1.trans c.1, fun e => (a.2 e).trans (c.2 e)⟩
theorem SameO.ko {b : Bool} {ρ ρ' : Loc → Option Addr} (a : SameO ρ ρ') : KO b ρ ρ' := ⟨a.k, fun _ => a⟩
def endOf (D : Ends) (K : PySem.W.Frag) (G : Hp) (ρ : Loc → Option Addr) (fl : Fl) (σ : L2.St) (H : Hp) : Prop := match fl with
  | .nx => D.nx σ H
  | .bk => D.bk σ H
  | .ct => D.ct σ H
  | .ret d => ∀ v, Rep K G ρ d v → D.rt v H
def postS (X : Cx) (W : WX) (F : Fm) (G : Hp) (ρ : Loc → Option Addr) (D : Ends) : RS → Prop
  | .go fl σs' ah' => ∀ G' ρ' σ' H', Same G G' → KO F.rw ρ ρ' → Rel X.K X.mg F G' ρ' σs' ah' σ' H' → endOf D X.K G' ρ' fl σ' H'
  | .exc c σs' ah' => ∀ dct G' ρ' σ' H', Same G G' → KO F.rw ρ ρ' → Rel X.K X.mg F G' ρ' σs' ah' σ' H' → W (clsA X.mg c) dct σ' H'
  | .stuck => False
def tS (X : Cx) (W : WX) (rw : Bool) (g : Ss) : TS := fun D σ H => ∃ F G ρ σs ah, F.rw = rw ∧ Rel X.K X.mg F G ρ σs ah σ H ∧ postS X W F G ρ D (g σs ah)
structure FS (X : Cx) (W : WX) (rw : Bool) (st : Stmt) (g : Ss) : Prop where
  run : Gd X W → PS X st (tS X W rw g)
structure FSs (X : Cx) (W : WX) (rw : Bool) (sts : List Stmt) (g : Ss) : Prop where
  run : Gd X W → PSs X sts (tS X W rw g)
theorem _root_.L2.PS.imp {X : Cx} {st : Stmt} {t t' : TS} (h : PS X st t) (k : ∀ D σ H, t' D σ H → t D σ H) : PS X st t' := ⟨fun pins s σ H D I q => h.run pins s σ H D I (k D σ H q)⟩
theorem _root_.L2.PSs.imp {X : Cx} {st : List Stmt} {t t' : TS} (h : PSs X st t) (k : ∀ D σ H, t' D σ H → t D σ H) : PSs X st t' := ⟨fun pins s σ H D I q => h.run pins s σ H D I (k D σ H q)⟩
section
variable {X : Cx} {W : WX} {F : Fm} {G G' : Hp} {ρ ρ' : Loc → Option Addr} {D : Ends} {r : RS}
theorem postS.later (h : postS X W F G ρ D r) (s : Same G G') (k : KO F.rw ρ ρ') : postS X W F G' ρ' D r := by
  cases r with
  | go fl σs' ah' => exact fun G2 ρ2 σ' H' s2 k2 R => h G2 ρ2 σ' H' (s.trans s2) (k.trans k2) R
  | exc c σs' ah' => exact fun d G2 ρ2 σ' H' s2 k2 R => h d G2 ρ2 σ' H' (s.trans s2) (k.trans k2) R
  | stuck => exact h
/-- an expression ahead -/
theorem postS.bind {α β : Type} {σs : List SV} {ah : AH} {σ : L2.St} {H : Hp} {R : Hp → Hp → α → β → Prop} {f : Res α} {k : α → RS} (h : postS X W F G ρ D (bindS f σs ah k)) :
    postR X W F ρ σs ah σ R G H (fun b H' => ∃ a G', Same G G' ∧ Rel X.K X.mg F G' ρ σs ah σ H' ∧ R G' H' a b ∧ f = .ok a ∧ postS X W F G' ρ D (k a)) f := by
  cases f with
  | ok a => exact fun b G' H' e q1 q2 => ⟨a, G', e.g, q1, q2, rfl, postS.later h e.g .refl⟩
  | exc c => exact fun d G' H' e q => h d G' ρ σ H' e.g .refl q
  | stuck => exact h
end
def sNil : Ss := fun σs ah => .go .nx σs ah
def sSeq (g k : Ss) : Ss := fun σs ah => match g σs ah with
  | .go .nx σ' a' => k σ' a'
  | r => r
/-- slot i's own list is from here on a value -/
def sFrz (i : Nat) (k : Ss) : Ss := fun σs ah => match σs[i]? with
  | some (.own ds) => k (σs.set i (.val (.lst ds))) ah
  | _ => k σs ah
section
variable {X : Cx} {W : WX} {rw : Bool} {st : Stmt} {rest body orelse : List Stmt} {g k : Ss} {e a b c : Expr} {f : Sg D} {t : Sg Bool} {pos : Pos}
theorem fss_nil : FSs X W rw [] sNil := by
  refine ⟨fun gd => pss_nil.imp ?_⟩
  rintro D σ H ⟨F, G, ρ, σs, ah, e, R, h⟩
  exact h G ρ σ H (.refl _) .refl R
theorem fss_cons (h1 : FS X W rw st g) (h2 : FSs X W rw rest k) : FSs X W rw (st :: rest) (sSeq g k) := by
  refine ⟨fun gd => (pss_cons (h1.run gd) (h2.run gd)).imp ?_⟩
  rintro D σ H ⟨F, G, ρ, σs, ah, e, R, h⟩
  refine ⟨F, G, ρ, σs, ah, e, R, ?_⟩
  unfold sSeq at h
  cases eg : g σs ah with
  | stuck =>
    rw [eg] at h
    exact h
  | exc c σ' a' =>
    rw [eg] at h
    exact h
  | go fl σ' a' =>
    rw [eg] at h
    cases fl with
    | nx =>
      intro G' ρ' σ2 H' s kk R'
      exact ⟨F, G', ρ', σ', a', e, R', postS.later h s kk⟩
    | ret d => exact h
    | bk => exact h
    | ct => exact h
theorem fss_frz (i : Nat) (h : FSs X W rw rest k) : FSs X W rw rest (sFrz i k) := by
  refine ⟨fun gd => (h.run gd).imp ?_⟩
  rintro D σ H ⟨F, G, ρ, σs, ah, e, R, h⟩
  unfold sFrz at h
  split at h
  · rename_i ds hi
    obtain ⟨G', s, R'⟩ := R.freeze hi
    exact ⟨F, G', _, _, ah, e, R', postS.later h s same_slot.ko⟩
  · exact ⟨F, G, ρ, σs, ah, e, R, h⟩
def sRet (f : Sg D) : Ss := fun σs ah => bindS (f σs ah) σs ah fun d => if d.isBor = false then .go (.ret d) σs ah else .stuck
theorem fs_ret (h : FE X W e f) : FS X W rw (.Return (some e) pos) (sRet f) := by
  refine ⟨fun gd => (ps_ret (h.run gd)).imp ?_⟩
  rintro D σ H ⟨F, G, ρ, σs, ah, e, R, h⟩
  refine ⟨F, G, ρ, σs, ah, R, h.bind.imp ?_⟩
  rintro v H' ⟨d, G', s, R', r, -, h'⟩
  split at h'
  · rename_i hb
    exact h' G' ρ σ H' (.refl _) .refl R' v (r.rep hb)
  · exact h'.elim
def sRetN : Ss := fun σs ah => .go (.ret .non) σs ah
theorem fs_retN : FS X W rw (.Return none pos) sRetN := by
  refine ⟨fun gd => ps_retN.imp ?_⟩
  rintro D σ H ⟨F, G, ρ, σs, ah, e, R, h⟩
  exact h G ρ σ H (.refl _) .refl R .non rfl
def sBreak : Ss := fun σs ah => .go .bk σs ah
def sCont : Ss := fun σs ah => .go .ct σs ah
theorem fs_pass : FS X W rw (.Pass pos) sNil := by
  refine ⟨fun gd => ps_pass.imp ?_⟩
  rintro D σ H ⟨F, G, ρ, σs, ah, e, R, h⟩
  exact h G ρ σ H (.refl _) .refl R
theorem fs_break : FS X W rw (.Break pos) sBreak := by
  refine ⟨fun gd => ps_break.imp ?_⟩
  rintro D σ H ⟨F, G, ρ, σs, ah, e, R, h⟩
  exact h G ρ σ H (.refl _) .refl R
theorem fs_cont : FS X W rw (.Continue pos) sCont := by
  refine ⟨fun gd => ps_continue.imp ?_⟩
  rintro D σ H ⟨F, G, ρ, σs, ah, e, R, h⟩
  exact h G ρ σ H (.refl _) .refl R
def sIf (t : Sg Bool) (g k : Ss) : Ss := fun σs ah => bindS (t σs ah) σs ah fun b => if b = true then g σs ah else k σs ah
theorem fs_if (hc : FT X W c t) (ha : FSs X W rw body g) (hb : FSs X W rw orelse k) : FS X W rw (.If c body orelse pos) (sIf t g k) := by
  refine ⟨fun gd => (ps_if (hc.run gd) (ha.run gd) (hb.run gd)).imp ?_⟩
  rintro D σ H ⟨F, G, ρ, σs, ah, e, R, h⟩
  refine ⟨F, G, ρ, σs, ah, R, h.bind.imp ?_⟩
  rintro b H' ⟨b', G', s, R', rfl, -, h'⟩
  cases b' with
  | true =>
    rw [if_pos rfl] at h'
    exact iteT ⟨F, G', ρ, σs, ah, e, R', h'⟩
  | false =>
    rw [if_neg (by decide)] at h'
    exact iteF ⟨F, G', ρ, σs, ah, e, R', h'⟩
/-- an expression whose value is dropped -/
def sDrop (f : Sg D) : Ss := fun σs ah => bindS (f σs ah) σs ah fun _ => .go .nx σs ah
theorem fs_expr (h : FE X W e f) (hs : swapsWith e none pos.line X.env = pure false := by rfl) : FS X W rw (.Expr e pos) (sDrop f) := by
  refine ⟨fun gd => (ps_expr (h.run gd) hs).imp ?_⟩
  rintro D σ H ⟨F, G, ρ, σs, ah, e, R, h⟩
  refine ⟨F, G, ρ, σs, ah, R, h.bind.imp ?_⟩
  rintro v H' ⟨d, G', s, R', r, -, h'⟩
  exact h' G' ρ σ H' (.refl _) .refl R'
theorem fs_doc {x : Str} {j : Nat} {p2 : Pos} : FS X W rw (.Expr (.Constant (.str x) j p2) pos) sNil := by
  refine ⟨fun gd => ps_doc.imp ?_⟩
  rintro D σ H ⟨F, G, ρ, σs, ah, e, R, h⟩
  exact h G ρ σ H (.refl _) .refl R

/-! ### names stored -/
def sSet (tgt : Tgt) (f : Sg D) : Ss := fun σs ah => bindS (f σs ah) σs ah fun d => match assignT tgt d σs with
  | .ok σ' => .go .nx σ' ah
  | _ => .stuck
theorem asgT_sim {En : Ends} {F : Fm} {G : Hp} {ρ : Loc → Option Addr} {σs : List SV} {ah : AH} {σ : L2.St} {H : Hp} {tgt : Tgt} {d : D} {v : V} (R : Rel X.K X.mg F G ρ σs ah σ H) (r : RepB X.K G ρ H d v)
    (h : postS X W F G ρ En (match assignT tgt d σs with
  | .ok σ' => .go .nx σ' ah
  | _ => .stuck)) : gOf X.K tgt v σ H En.nx := by
  cases e : assignT tgt d σs with
  | ok σ' =>
    rw [e] at h
    have hb : d.isBor = false := by
      cases d with
      | bor l =>
        cases tgt with
        | nm i => cases e
        | tp is => cases e
      | _ => rfl
    exact gOf_ok R (r.rep hb) e fun ρ' vs _ k R' => h G ρ' _ H (.refl _) k.ko R'
  | exc c =>
    rw [e] at h
    exact h.elim
  | stuck =>
    rw [e] at h
    exact h.elim
theorem fs_set {tg : Expr} {tgt : Tgt} (h : FE X W e f) (hg : FG X tg tgt) (hs : swapsWithSole [tg] e pos.line X.env = pure false := by rfl) (hw : swappedStores [tg] e X.env = pure none := by rfl)
    (h1 : (assignEach [tg] X.env).map (·.2) = [assign tg X.env] := by rfl) : FS X W rw (.Assign [tg] e pos) (sSet tgt f) := by
  refine ⟨fun gd => (ps_asg (h.run gd) (hg.run gd.calm) hs hw h1).imp ?_⟩
  rintro D σ H ⟨F, G, ρ, σs, ah, e, R, h⟩
  refine ⟨F, G, ρ, σs, ah, R, h.bind.imp ?_⟩
  rintro v H' ⟨d, G', s, R', r, -, h'⟩
  exact asgT_sim R' r h'
/-- name = [..] on one line, the name a local that no block captures -/
theorem fs_setLc {x : Str} {px : Pos} {tg iter elt : Expr} {ifs : List Expr} {scope : Scope} {own : List (Str × Nat)} {lpos : Pos} {it : Sg (List D)} {tgt : Tgt} {cond : Sg Bool} {fe : Sg D} (i : Nat) (hi : FI X W tg iter false it) (ok : blkC X.N X.env.scope scope own = true) (hsl : ∀ i ∈ tgt.slots, i ∈ own.map (·.2))
    (hg : ∀ (s : Shared) (H : Hp) (C : Addr) (cl : List (Str × Addr)) (fp : List Addr), FG (X.blk s H scope (compEnvC scope cl C X.env) fp) tg tgt) (ht : ∀ (s : Shared) (H : Hp) (C : Addr) (cl : List (Str × Addr)) (fp : List Addr), FTs (X.blk s H scope (compEnvC scope cl C X.env) fp) W0 ifs cond)
    (he : ∀ (s : Shared) (H : Hp) (C : Addr) (cl : List (Str × Addr)) (fp : List Addr), FE (X.blk s H scope (compEnvC scope cl C X.env) fp) W0 elt fe) (hy : X.N[i]? = some x := by rfl) (hyl : X.env.scope.names.lookup x = some .local := by rfl)
    (hsw : swapsWith (.ListComp elt [⟨tg, iter, ifs, 0⟩] scope lpos) (some (.Name x px)) pos.line X.env = pure true := by exact sw_true rfl rfl rfl (by decide +kernel)) (hs : ∀ x, foldedSetIterable iter X.env x = pure x := by intro _; rfl) :
    FS X W rw (.Assign [.Name x px] (.ListComp elt [⟨tg, iter, ifs, 0⟩] scope lpos) pos) (sSet (.nm i) (eLst' (eLc it (own.map (·.2)) tgt cond fe))) := by
  refine ⟨fun gd => (ps_setLc (g := gOf X.K tgt) (tt := tT X W0 cond) (te := tE X W0 fe) gd.calm gd.nd hy hyl hsw (hi.run gd) (blkOk_by ok) (fun s H C cl fp => (hg s H C cl fp).run gd.calm) (fun s H C cl fp => (ht s H C cl fp).run (gd.blk s H scope _ fp)) (fun s H C cl fp => (he s H C cl fp).run (gd.blk s H scope _ fp)) hs).imp ?_⟩
  rintro D σ H ⟨F, G, ρ, σs, ah, erw, R, h⟩
  refine tLc_ok hsl R ?_
  unfold sSet eLst' at h
  cases e : it σs ah with
  | exc c =>
    have e' : eLc it (own.map (·.2)) tgt cond fe σs ah = .exc c := by unfold eLc; rw [e]; rfl
    rw [e'] at h
    exact fun d G' H' ex q => h d G' ρ σ H' ex.g .refl q
  | stuck =>
    have e' : eLc it (own.map (·.2)) tgt cond fe σs ah = .stuck := by unfold eLc; rw [e]; rfl
    rw [e'] at h
    exact h.elim
  | ok ds =>
    rw [eLc_ok e] at h
    intro J G1 H1 ex R1 IT
    split at h
    · rename_i hz
      rcases noX_cases (lcD (lcItem tgt cond fe (wipeS σs (own.map (·.2))) ah) ds) with ⟨r, e1, e2⟩ | e2
      · rw [e2] at h
        refine ⟨ds, G1, r, R1, IT, hz, e1, fun P Gi Hi acc hP A => ?_⟩
        have gne : ∀ b o, Gi b = some o → b ≠ P := fun b o q z => by
          rw [z, A.gp] at q
          cases q
        have ex2 : Ext G1 H1 (upd Gi P (.lst acc)) Hi := ⟨fun b o q => by rw [upd_ne (gne b o (A.g b o q))]; exact A.g b o q, A.h, fun a o q => by
          by_cases z : a = P
          · subst z
            exact .inr hP
          · rw [upd_ne z] at q
            exact A.n a o q⟩
        have gh : Same (upd Gi P (.lst acc)) Hi := fun b o q => by
          by_cases z : b = P
          · subst z
            rw [upd_same] at q
            cases q
            exact A.hp
          · rw [upd_ne z] at q
            exact A.gh b o q
        have hr : RepB X.K (upd Gi P (.lst acc)) ρ Hi (.lst r) (.ref P) := ⟨P, acc, rfl, .inl (.inl upd_same), RepL.mono (fun b o q => by rw [upd_ne (gne b o q)]; exact q) .refl _ _ A.r⟩
        exact asgT_sim (tgt := .nm i) (R1.ext ex2.g ex2.h gh ex2.n) hr (postS.later h (ex.g.trans ex2.g) .refl)
      · rw [e2] at h
        exact h.elim
    · exact h.elim

/-! ### a new list that the slot alone holds -/
/-- its list is new: nobody else holds it -/
def postF (X : Cx) (W : WX) (F : Fm) (ρ : Loc → Option Addr) (σs : List SV) (ah : AH) (σ : L2.St) (G H : Hp) (Q : VK) : Res (List D) → Prop
  | .ok ds => ∀ p vs G' H', Ext G H G' H' → Rel X.K X.mg F G' ρ σs ah σ H' → H' p = none → RepL X.K G' ρ ds vs → Q (.ref p) (upd H' p (.lst vs))
  | .exc c => ∀ dct G' H', Ext G H G' H' → Rel X.K X.mg F G' ρ σs ah σ H' → W (clsA X.mg c) dct σ H'
  | .stuck => False
def tF (X : Cx) (W : WX) (f : Sg (List D)) : TE := fun σ H Q => ∃ F G ρ σs ah, Rel X.K X.mg F G ρ σs ah σ H ∧ postF X W F ρ σs ah σ G H Q (f σs ah)
structure FF (X : Cx) (W : WX) (e : Expr) (f : Sg (List D)) : Prop where
  run : Gd X W → PE X e (tF X W f)
variable {es : List Expr} {ls : Sg (List D)}
def okList (ds : List D) : Res (List D) := if ds.any D.isBor = false ∧ ds.length ≤ sizeLine then .ok ds else .stuck
def lLst (l : Sg (List D)) : Sg (List D) := fun σs ah => l σs ah >>= okList
theorem ff_lst (h : FA X W es ls) : FF X W (.List es pos) (lLst ls) := by
  refine ⟨fun gd => (pe_lst (h.run gd)).imp ?_⟩
  rintro σ H Q ⟨F, G, ρ, σs, ah, R, q⟩
  refine ⟨F, G, ρ, σs, ah, R, ?_⟩
  unfold lLst at q
  cases e : ls σs ah with
  | exc c =>
    rw [e] at q
    exact q
  | stuck =>
    rw [e] at q
    exact q
  | ok ds =>
    rw [e, Res.bind_ok] at q
    intro vs G' H' ex R' r
    unfold okList at q
    split at q
    · rename_i hz
      have r' := r.rep hz.1
      exact ⟨by rw [← r'.length]; exact hz.2, fun p hp => q p vs G' H' ex R' hp r'⟩
    · exact q.elim
/-- list(x) -/
def lList : List D → Res (List D)
  | [.tup l] => .ok l
  | [.lst l] => .ok l
  | [.bor l] => .ok l
  | _ => .stuck
theorem ff_list {p : Pos} (hm : X.mg "list" = none) (ha : FA X W [a] ls) (hg : Gl X "list" := by rfl) (he : starEach [a] X.env = (false, eval a X.env) :: starEach [] X.env := by rfl) : FF X W (.Call (.Name "list" p) [a] [] pos) (fun σs ah => ls σs ah >>= lList) := by
  refine ⟨fun gd => (pe_callTy call_list_of hg hm (by decide +kernel) (ha.run gd) (by decide) (by decide) he rfl).imp ?_⟩
  rintro σ H Q ⟨F, G, ρ, σs, ah, R, q⟩
  refine ⟨F, G, ρ, σs, ah, R, ?_⟩
  dsimp only at q
  cases e : ls σs ah with
  | exc c =>
    rw [e] at q
    exact q
  | stuck =>
    rw [e] at q
    exact q
  | ok ds =>
    rw [e, Res.bind_ok] at q
    intro vs G' H' ex R' r
    unfold lList at q
    split at q
    · obtain ⟨v, rfl, rr⟩ := repB1 r
      obtain ⟨p, us, rfl, _, q1, q2⟩ := tup_of R'.gH rr
      exact ⟨p, us, rfl, .inr q1, fun n hn => q n us G' H' ex R' hn q2⟩
    · obtain ⟨v, rfl, rr⟩ := repB1 r
      obtain ⟨p, us, rfl, q1, q2⟩ := lst?_of R'.gH rr rfl
      exact ⟨p, us, rfl, .inl q1, fun n hn => q n us G' H' ex R' hn q2⟩
    · obtain ⟨v, rfl, rr⟩ := repB1 r
      obtain ⟨p, us, rfl, q1, q2⟩ := lst?_of R'.gH rr rfl
      exact ⟨p, us, rfl, .inl q1, fun n hn => q n us G' H' ex R' hn q2⟩
    · exact q.elim
def sOwn (i : Nat) (l : Sg (List D)) : Ss := fun σs ah => bindS (l σs ah) σs ah fun ds => .go .nx (σs.set i (.own ds)) ah
theorem fs_setOwn {x : Str} {px : Pos} (i : Nat) (hN : X.N.Nodup) (h : FF X W e ls) (hi : X.N[i]? = some x := by rfl) (hx : L2.Loc X.env.scope x := by first | exact Or.inl rfl | exact Or.inr rfl) (hs : swapsWith e (some (.Name x px)) pos.line X.env = pure false := by rfl) (hf : X.fn x = true ∨ X.env.scope.names.lookup x = some .local := by first | exact .inl rfl | exact .inr rfl) :
    FS X W rw (.Assign [.Name x px] e pos) (sOwn i ls) := by
  refine ⟨fun gd => (ps_set hN hi hx (h.run gd) hs hf).imp ?_⟩
  rintro D σ H ⟨F, G, ρ, σs, ah, e, R, h⟩
  refine ⟨F, G, ρ, σs, ah, R, ?_⟩
  unfold sOwn at h
  cases el : ls σs ah with
  | exc c =>
    rw [el] at h
    exact fun d G' H' ex q => h d G' ρ σ H' ex.g .refl q
  | stuck =>
    rw [el] at h
    exact h.elim
  | ok ds =>
    rw [el] at h
    intro p vs G' H' ex R' hp r
    exact h G' _ _ _ ex.g same_slot.ko (R'.setOwn i r hp)
/-- name = [.. for ..] on one line, the list the slot's own -/
def sOwnLc (i : Nat) (l : Sg (List D)) : Ss := sOwn i l
theorem fs_setLcO {x : Str} {px : Pos} {tg iter elt : Expr} {ifs : List Expr} {scope : Scope} {own : List (Str × Nat)} {lpos : Pos} {it : Sg (List D)} {tgt : Tgt} {cond : Sg Bool} {fe : Sg D} (i : Nat) (hi : FI X W tg iter false it) (ok : blkC X.N X.env.scope scope own = true) (hsl : ∀ i ∈ tgt.slots, i ∈ own.map (·.2))
    (hg : ∀ (s : Shared) (H : Hp) (C : Addr) (cl : List (Str × Addr)) (fp : List Addr), FG (X.blk s H scope (compEnvC scope cl C X.env) fp) tg tgt) (ht : ∀ (s : Shared) (H : Hp) (C : Addr) (cl : List (Str × Addr)) (fp : List Addr), FTs (X.blk s H scope (compEnvC scope cl C X.env) fp) W0 ifs cond)
    (he : ∀ (s : Shared) (H : Hp) (C : Addr) (cl : List (Str × Addr)) (fp : List Addr), FE (X.blk s H scope (compEnvC scope cl C X.env) fp) W0 elt fe) (hy : X.N[i]? = some x := by rfl) (hyl : X.env.scope.names.lookup x = some .local := by rfl)
    (hsw : swapsWith (.ListComp elt [⟨tg, iter, ifs, 0⟩] scope lpos) (some (.Name x px)) pos.line X.env = pure true := by exact sw_true rfl rfl rfl (by decide +kernel)) (hs : ∀ x, foldedSetIterable iter X.env x = pure x := by intro _; rfl) :
    FS X W rw (.Assign [.Name x px] (.ListComp elt [⟨tg, iter, ifs, 0⟩] scope lpos) pos) (sOwn i (eLc it (own.map (·.2)) tgt cond fe)) := by
  refine ⟨fun gd => (ps_setLc (g := gOf X.K tgt) (tt := tT X W0 cond) (te := tE X W0 fe) gd.calm gd.nd hy hyl hsw (hi.run gd) (blkOk_by ok) (fun s H C cl fp => (hg s H C cl fp).run gd.calm) (fun s H C cl fp => (ht s H C cl fp).run (gd.blk s H scope _ fp)) (fun s H C cl fp => (he s H C cl fp).run (gd.blk s H scope _ fp)) hs).imp ?_⟩
  rintro D σ H ⟨F, G, ρ, σs, ah, erw, R, h⟩
  refine tLc_ok hsl R ?_
  unfold sOwn at h
  cases e : it σs ah with
  | exc c =>
    have e' : eLc it (own.map (·.2)) tgt cond fe σs ah = .exc c := by unfold eLc; rw [e]; rfl
    rw [e'] at h
    exact fun d G' H' ex q => h d G' ρ σ H' ex.g .refl q
  | stuck =>
    have e' : eLc it (own.map (·.2)) tgt cond fe σs ah = .stuck := by unfold eLc; rw [e]; rfl
    rw [e'] at h
    exact h.elim
  | ok ds =>
    rw [eLc_ok e] at h
    intro J G1 H1 ex R1 IT
    split at h
    · rename_i hz
      rcases noX_cases (lcD (lcItem tgt cond fe (wipeS σs (own.map (·.2))) ah) ds) with ⟨r, e1, e2⟩ | e2
      · rw [e2] at h
        refine ⟨ds, G1, r, R1, IT, hz, e1, fun P Gi Hi acc hP A => ?_⟩
        have R2 : Rel X.K X.mg F Gi ρ σs ah σ Hi := R1.ext A.g A.h A.gh A.n
        have hB : F.B P = none := by
          cases q : F.B P with
          | none => rfl
          | some u =>
            obtain ⟨o', e1⟩ := R1.tra P u q
            rw [hP] at e1
            cases e1
        refine h Gi _ _ Hi (ex.g.trans A.g) same_slot.ko (R2.setS i (.own r) (some (.ref P)) (some P) ⟨P, acc, rfl, updL_same, A.hp, RepL.mono (.refl _) keeps_slot _ _ A.r⟩ fun a ea => ?_)
        cases ea
        refine ⟨fun l hl q => ?_, A.gp, ⟨_, A.hp, rfl⟩, hB⟩
        obtain ⟨o, z, _⟩ := R1.liv l _ q
        rw [hP] at z
        cases z
      · rw [e2] at h
        exact h.elim
    · exact h.elim
/-- xs.append(e), xs a slot's own list -/
def sApp (i : Nat) (f : Sg D) : Ss := fun σs ah => match σs[i]? with
  | some (.own ds) => bindS (f σs ah) σs ah fun d => if d.isBor = false ∧ ds.length < sizeLine then .go .nx (σs.set i (.own (ds ++ [d]))) ah else .stuck
  | _ => .stuck
theorem fs_app {x : Str} {px apos cpos : Pos} (i : Nat) (h : FE X W e f) (hN : X.N[i]? = some x := by rfl) (hv : Vis X.env.scope x := by first | exact Or.inl rfl | exact Or.inr (Or.inl rfl) | exact Or.inr (Or.inr rfl)) (hd : (x == ("__debug__" : Str)) = false := by decide)
    (hcd : (x == ("__classdict__" : Str)) = false := by decide) (he : starEach [e] X.env = (false, eval e X.env) :: starEach [] X.env := by rfl) (hb : attributeBase (.Name x px) "append" X.env (eval (.Name x px) X.env) = eval (.Name x px) X.env := by rfl) (hl : (apos.endLine == cpos.line) = true := by rfl)
    (hfew : ((backTo cpos (starEach [e] X.env)).all (fun x => !x.1) && (backToKw cpos (keywordEach [] X.env)).all (fun x => x.1.isSome)
      && decide ([e].length + ([] : List Keyword).length + (if ([] : List Keyword).isEmpty then 0 else 1) < 30)) = true := by rfl)
    (hs : swapsWith (.Call (.Attribute (.Name x px) "append" apos) [e] [] cpos) none pos.line X.env = pure false := by rfl) : FS X W rw (.Expr (.Call (.Attribute (.Name x px) "append" apos) [e] [] cpos) pos) (sApp i f) := by
  refine ⟨fun gd => (ps_expr (pe_bm PySem.F.plainAttrs_list PySem.F.slot_list_append PySem.F.type_list_append mt_append (pe_var hN hv hd hcd) (pa_cons (h.run gd) pa_nil he) hb hfew hl he rfl) hs).imp ?_⟩
  rintro D σ H ⟨F, G, ρ, σs, ah, e, R, h⟩
  unfold sApp at h
  split at h
  · rename_i ds hi
    have hl : i < σ.length := by
      rw [← R.len]
      exact (List.getElem?_eq_some_iff.mp hi).1
    obtain ⟨a, vs, ev, h1, h2, r⟩ := R.slo i _ _ hi (List.getElem?_eq_getElem hl)
    refine ⟨.ref a, by rw [List.getElem?_eq_getElem hl, ev], .inl ⟨rfl, _, SqL.of h2⟩, ?_⟩
    refine ⟨F, G, ρ, σs, ah, R, h.bind.imp ?_⟩
    rintro v H' ⟨d, G', s, R', rd, -, h'⟩
    split at h'
    · rename_i hz
      obtain ⟨a', vs', ev', h1', h2', r'⟩ := R'.slo i _ _ hi (List.getElem?_eq_getElem hl)
      rw [ev] at ev'
      cases ev'
      refine ⟨a, vs', v, rfl, rfl, h2', by rw [← r'.length]; exact hz.2, ?_⟩
      refine h' G' ρ σ _ (.refl _) .refl (R'.mutS h1' rfl fun o ho => ?_)
      rw [List.getElem?_eq_getElem hl, ev] at ho
      cases ho
      exact ⟨a, vs' ++ [v], rfl, h1', upd_same, r'.append (.cons (rd.rep hz.1) .nil)⟩
    · exact h'.elim
  · exact h.elim
/-- name += int -/
def sAug (i : Nat) (op : Int → Int → Int) (f : Sg D) : Ss := fun σs ah => match σs[i]? with
  | some (.val (.int x)) => bindS (f σs ah) σs ah fun d => match d with
    | .int y => .go .nx (σs.set i (.val (.int (op x y)))) ah
    | _ => .stuck
  | _ => .stuck
theorem fs_aug {x : Str} {px : Pos} {o : Operator} {op : Int → Int → Int} (i : Nat) (hN : X.N.Nodup) (ho : PIp X o (ipI op)) (h : FE X W e f) (hi : X.N[i]? = some x := by rfl) (hx : L2.Loc X.env.scope x := by first | exact Or.inl rfl | exact Or.inr rfl) (hf : X.fn x = true ∨ X.env.scope.names.lookup x = some .local := by first | exact .inl rfl | exact .inr rfl) :
    FS X W rw (.AugAssign (.Name x px) o e pos) (sAug i op f) := by
  refine ⟨fun gd => (ps_aug hN hi hx (h.run gd) ho hf).imp ?_⟩
  rintro D σ H ⟨F, G, ρ, σs, ah, e, R, h⟩
  unfold sAug at h
  split at h
  · rename_i n hs
    have hl : i < σ.length := by
      rw [← R.len]
      exact (List.getElem?_eq_some_iff.mp hs).1
    obtain ⟨v, ev, rv⟩ := R.slo i _ _ hs (List.getElem?_eq_getElem hl)
    have rv : v = .int n := rv
    subst rv
    refine ⟨.int n, by rw [List.getElem?_eq_getElem hl, ev], F, G, ρ, σs, ah, R, h.bind.imp ?_⟩
    rintro v H' ⟨d, G', s, R', rd, -, h'⟩
    cases d with
    | int m => exact ⟨n, m, rfl, rd, h' G' _ _ H' (.refl _) same_slot.ko (R'.set i (d := .int (op n m)) (v := .int (op n m)) rfl)⟩
    | _ => exact h'.elim
  · exact h.elim
theorem fs_augAdd {x : Str} {px : Pos} (i : Nat) (hN : X.N.Nodup) (h : FE X W e f) (hi : X.N[i]? = some x := by rfl) (hx : L2.Loc X.env.scope x := by first | exact Or.inl rfl | exact Or.inr rfl) (hf : X.fn x = true ∨ X.env.scope.names.lookup x = some .local := by first | exact .inl rfl | exact .inr rfl) :
    FS X W rw (.AugAssign (.Name x px) .Add e pos) (sAug i (fun a b => a + b) f) := fs_aug i hN ip_add h hi hx hf
end

/-! ### loops -/
def sWh (c : Sg Bool) (b : Ss) : Nat → Ss
  | 0 => fun _ _ => .stuck
  | n + 1 => fun σs ah => bindS (c σs ah) σs ah fun k => if k = true then (match b σs ah with
    | .go .nx σ' a' => sWh c b n σ' a'
    | .go .ct σ' a' => sWh c b n σ' a'
    | .go .bk σ' a' => .go .nx σ' a'
    | r => r) else .go .nx σs ah
def sForL (tgt : Tgt) (b : Ss) : List D → Ss
  | [] => fun σs ah => .go .nx σs ah
  | d :: ds => fun σs ah => match assignT tgt d σs with
    | .ok σ1 => (match b σ1 ah with
      | .go .nx σ' a' => sForL tgt b ds σ' a'
      | .go .ct σ' a' => sForL tgt b ds σ' a'
      | .go .bk σ' a' => .go .nx σ' a'
      | r => r)
    | _ => .stuck
def sFor (it : Sg (List D)) (tgt : Tgt) (b : Ss) : Ss := fun σs ah => bindS (it σs ah) σs ah fun ds => sForL tgt b ds σs ah
section
variable {X : Cx} {W : WX} {rw : Bool} {body : List Stmt} {g : Ss} {e c tg iter : Expr} {t : Sg Bool} {pos : Pos} {it : Sg (List D)} {tgt : Tgt}
theorem fs_while (n : Nat) (hc : FT X W c t) (hb : FSs X W rw body g) : FS X W rw (.While c body [] pos) (sWh t g n) := by
  refine ⟨fun gd => (ps_while gd.po (hc.run gd) (hb.run gd)).imp ?_⟩
  rintro D σ H ⟨F, G, ρ, σs, ah, erw, R, h⟩
  refine ⟨fun m σ H => ∃ G' ρ' σs ah, Same G G' ∧ KO F.rw ρ ρ' ∧ Rel X.K X.mg F G' ρ' σs ah σ H ∧ postS X W F G' ρ' D (sWh t g m σs ah), ⟨n, G, ρ, σs, ah, .refl _, .refl, R, h⟩, ?_⟩
  rintro m σ H ⟨G, ρ, σs, ah, s0, k0, R, h⟩
  cases m with
  | zero => exact h.elim
  | succ m =>
    refine ⟨F, G, ρ, σs, ah, R, (show postS X W F G ρ D (bindS _ _ _ _) from h).bind.imp ?_⟩
    rintro b H' ⟨b', G', s, R', rfl, -, h'⟩
    cases b' with
    | false =>
      rw [if_neg (by decide)] at h'
      exact iteF (h' G' ρ σ H' (.refl _) .refl R')
    | true =>
      rw [if_pos rfl] at h'
      refine iteT ⟨fun σ H => ∃ G' ρ' σs ah, Same G G' ∧ KO F.rw ρ ρ' ∧ Rel X.K X.mg F G' ρ' σs ah σ H ∧ postS X W F G' ρ' D (sWh t g m σs ah), ?_, F, G', ρ, σs, ah, erw, R', ?_⟩
      · rintro σ' H2 ⟨G2, ρ2, σ2, a2, s2, k2, R2, h2⟩
        exact ⟨m, Nat.lt_succ_self m, G2, ρ2, σ2, a2, s0.trans s2, k0.trans k2, R2, h2⟩
      · cases eg : g σs ah with
        | stuck =>
          rw [eg] at h'
          exact h'
        | exc cc σ' a' =>
          rw [eg] at h'
          exact h'
        | go fl σ' a' =>
          rw [eg] at h'
          cases fl with
          | nx => exact fun G2 ρ2 σ2 H2 s2 k2 R2 => ⟨G2, ρ2, σ', a', s.trans s2, k2, R2, postS.later h' s2 k2⟩
          | ct => exact fun G2 ρ2 σ2 H2 s2 k2 R2 => ⟨G2, ρ2, σ', a', s.trans s2, k2, R2, postS.later h' s2 k2⟩
          | bk => exact h'
          | ret d => exact h'
theorem fs_for (hi : FI X W tg iter true it) (hg : FG X tg tgt) (hb : FSs X W rw body g) (hs : ∀ x, foldedSetIterable iter X.env x = pure x := by intro _; rfl) : FS X W rw (.For tg iter body [] pos) (sFor it tgt g) := by
  refine ⟨fun gd => (ps_for gd.po gd.calm (hi.run gd) (hg.run gd.calm) (hb.run gd) hs).imp ?_⟩
  rintro D σ H ⟨F, G, ρ, σs, ah, erw, R, h⟩
  refine ⟨F, G, ρ, σs, ah, R, h.bind.imp ?_⟩
  rintro J H1 ⟨ds, G1, s1, R1, IT, -, h1⟩
  refine ⟨fun i m σ H => m = ds.length - i ∧ i ≤ ds.length ∧ ∃ G' ρ' σs ah, Same G1 G' ∧ KO F.rw ρ ρ' ∧ Rel X.K X.mg F G' ρ' σs ah σ H ∧ postS X W F G' ρ' D (sForL tgt g (ds.drop i) σs ah), ⟨ds.length, by simp, Nat.zero_le _, G1, ρ, σs, ah, .refl _, .refl, R1, h1⟩, ?_⟩
  rintro i m σ H ⟨rfl, hil, G, ρ1, σs, ah, s0, k0, R, h⟩
  obtain ⟨it1, it2⟩ := IT.run G ρ1 H s0 k0.1 R.gH (s0.trans R.gH)
  by_cases hlt : i < ds.length
  · refine .inr ?_
    obtain ⟨go, yl⟩ := it2 i _ (List.getElem?_eq_getElem hlt)
    refine ⟨go, fun σ H => ∃ G' ρ' σs ah, Same G1 G' ∧ KO F.rw ρ ρ' ∧ Rel X.K X.mg F G' ρ' σs ah σ H ∧ postS X W F G' ρ' D (sForL tgt g (ds.drop (i + 1)) σs ah), fun σ' H' q => ⟨ds.length - (i + 1), by omega, rfl, hlt, q⟩, ?_⟩
    intro x H2 y
    obtain ⟨G2, ex2, gh2, rd⟩ := yl x H2 y
    have R2 := R.ext ex2.g ex2.h gh2 ex2.n
    rw [List.drop_eq_getElem_cons hlt] at h
    have h : postS X W F G ρ1 D (match assignT tgt ds[i] σs with
    | .ok σ1 => (match g σ1 ah with
      | .go .nx σ' a' => sForL tgt g (ds.drop (i + 1)) σ' a'
      | .go .ct σ' a' => sForL tgt g (ds.drop (i + 1)) σ' a'
      | .go .bk σ' a' => .go .nx σ' a'
      | r => r)
    | _ => .stuck) := h
    cases ea : assignT tgt ds[i] σs with
    | exc cc =>
      rw [ea] at h
      exact h.elim
    | stuck =>
      rw [ea] at h
      exact h.elim
    | ok σ1 =>
      rw [ea] at h
      dsimp only at h
      refine gOf_ok R2 rd ea fun ρ3 us _ k3 R3 => ⟨F, G2, ρ3, σ1, ah, erw, R3, ?_⟩
      have kk : KO F.rw ρ ρ3 := k0.trans k3.ko
      cases eg : g σ1 ah with
      | stuck =>
        rw [eg] at h
        exact h
      | exc cc σ' a' =>
        rw [eg] at h
        exact postS.later h ex2.g k3.ko
      | go fl σ' a' =>
        rw [eg] at h
        cases fl with
        | nx => exact fun G4 ρ4 σ4 H4 s4 k4 R4 => ⟨G4, ρ4, σ', a', (s0.trans ex2.g).trans s4, kk.trans k4, R4, postS.later h (ex2.g.trans s4) (k3.ko.trans k4)⟩
        | ct => exact fun G4 ρ4 σ4 H4 s4 k4 R4 => ⟨G4, ρ4, σ', a', (s0.trans ex2.g).trans s4, kk.trans k4, R4, postS.later h (ex2.g.trans s4) (k3.ko.trans k4)⟩
        | bk => exact postS.later h ex2.g k3.ko
        | ret d => exact postS.later h ex2.g k3.ko
  · refine .inl ⟨it1 i (by omega), ?_⟩
    rw [List.drop_of_length_le (by omega)] at h
    exact h G ρ1 σ H (.refl _) .refl R
end
end Rf

set_option Elab.async false
set_option linter.all false
set_option maxRecDepth 100000
set_option maxHeartbeats 4000000
/-! Rf7: functions that change nothing of their callers': what they promise, their calls, the law's end. -/
namespace Rf
open PySem PySem.Spec PyProof.Rows L2

/-- what stands at a call: the state without the caller's slots -/
structure RelC (K : PySem.W.Frag) (mg : Str → Option Value) (G : Hp) (ρ : Loc → Option Addr) (ah : AH) (H : Hp) : Prop where
  gH : Same G H
  inj : ∀ l l' a, ρ l = some a → ρ l' = some a → l = l'
  dis : ∀ l a, ρ l = some a → G a = none
  liv : ∀ l a, ρ l = some a → ∃ o, H a = some o ∧ isTup o = false
  hp : ∀ i, ρ (.slot i) = none
  hea : ∀ (n : Nat) (m : MO), ah[n]? = some m → RepO K mg G ρ H n m
def heapL (ρ : Loc → Option Addr) : Loc → Option Addr := fun l => if l.isSlot = true then none else ρ l
theorem heapL_obj {ρ : Loc → Option Addr} : SameO ρ (heapL ρ) := fun n => by
  show _ = if (Loc.obj n).isSlot = true then none else ρ (.obj n)
  rw [if_neg (fun z => by cases z)]
theorem heapL_fld {ρ : Loc → Option Addr} {n : Nat} {f : Str} : heapL ρ (.fld n f) = ρ (.fld n f) := by
  show (if (Loc.fld n f).isSlot = true then none else ρ (.fld n f)) = _
  exact if_neg (fun z => by cases z)
theorem heapL_le {ρ : Loc → Option Addr} {l : Loc} {a : Addr} (h : heapL ρ l = some a) : ρ l = some a := by
  unfold heapL at h
  split at h
  · cases h
  · exact h
section
variable {K : PySem.W.Frag} {mg : Str → Option Value} {F : Fm} {G H : Hp} {ρ : Loc → Option Addr} {σs : List SV} {ah : AH} {σ : L2.St}
theorem Rel.c (R : Rel K mg F G ρ σs ah σ H) : RelC K mg G (heapL ρ) ah H where
  gH := R.gH
  inj := fun l l' a h h' => R.inj l l' a (heapL_le h) (heapL_le h')
  dis := fun l a h => R.dis l a (heapL_le h)
  liv := fun l a h => R.liv l a (heapL_le h)
  hp := fun i => by
    unfold heapL
    exact if_pos rfl
  hea := fun n m h => (R.hea n m h).mono (.refl _) heapL_obj.k (fun _ _ _ e => e) fun f a e => ⟨by rw [heapL_fld]; exact e, fun _ z => z⟩
def startS (n : Nat) (ds : List D) : List SV := ds.map .val ++ List.replicate (n - ds.length) .un
/-- a body's start -/
theorem RelC.begins (R : RelC K mg G ρ ah H) {N : List Str} {ds : List D} {vs : List V} (r : RepL K G ρ ds vs) : Rel K mg ⟨H, fun _ => False, G, false⟩ G ρ (startS N.length ds) ah (start N vs) H where
  gH := R.gH
  g0 := .refl _
  gN := fun a o h => .inl h
  inj := R.inj
  dis := R.dis
  liv := R.liv
  own := fun l a h hl => by
    cases l with
    | slot i =>
      rw [R.hp i] at h
      cases h
    | _ => cases hl
  may := fun l a h hl e => by cases e
  bas := fun a o h _ => h
  tra := fun a o h => ⟨o, h⟩
  len := by
    unfold startS L2.start
    rw [List.length_append, List.length_append, List.length_map, List.length_map, List.length_replicate, List.length_replicate, r.length]
  slo := fun i s o h1 h2 => by
    unfold startS at h1
    unfold L2.start at h2
    by_cases hi : i < ds.length
    · rw [List.getElem?_append_left (by rw [List.length_map]; exact hi), List.getElem?_map] at h1
      rw [List.getElem?_append_left (by rw [List.length_map, ← r.length]; exact hi), List.getElem?_map] at h2
      obtain ⟨d, e1, rfl⟩ := Option.map_eq_some_iff.mp h1
      obtain ⟨v, e2, rfl⟩ := Option.map_eq_some_iff.mp h2
      obtain ⟨u, e3, r3⟩ := r.get e1
      rw [e2] at e3
      cases e3
      exact ⟨v, rfl, r3⟩
    · rw [List.getElem?_append_right (by rw [List.length_map]; omega), List.getElem?_replicate] at h1
      split at h1
      · cases h1
        trivial
      · cases h1
  hea := R.hea
end
/-- a def's promise: what m gives for its arguments' data; nothing that was there is changed -/
def spF (K : PySem.W.Frag) (mg : Str → Option Value) (np : Nat) (m : List D → AH → Res D) : Sp := fun vs H Q E => ∃ G ρ ds ah, RelC K mg G ρ ah H ∧ RepL K G ρ ds vs ∧ ds.length = np ∧ match m ds ah with
  | .ok d => ∀ v G' H', Ext G H G' H' → Same G' H' → Rep K G' ρ d v → Q v H'
  | .exc c => ∀ dct H', Same H H' → E (clsA mg c) dct H'
  | .stuck => False
/-- what a body does with its arguments -/
def mF (N : Nat) (g : Ss) : List D → AH → Res D := fun ds ah => match g (startS N ds) ah with
  | .go (.ret d) _ _ => .ok d
  | .go .nx _ _ => .ok .non
  | .exc c _ _ => .exc c
  | _ => .stuck
structure FnF (P : Program) (w : World) (K : PySem.W.Frag) (mg : Str → Option Value) (base : Heap) (x : Str) (np k : Nat) (m : List D → AH → Res D) : Prop where
  ex : ∃ f fd ps, mg x = some (.ref f) ∧ PySem.W.keepIn K (.ref f) = true ∧ Binds K fd ps [] ∧ FnOk P w K mg base (L2.CX P w) k f fd ps (spF K mg np m)
theorem FnF.mono {P : Program} {w : World} {K : PySem.W.Frag} {mg : Str → Option Value} {base : Heap} {x : Str} {np j k : Nat} {m : List D → AH → Res D} (F : FnF P w K mg base x np j m) (h : j ≤ k) : FnF P w K mg base x np k m := by
  obtain ⟨f, fd, ps, h1, h2, h3, h4⟩ := F.ex
  exact ⟨f, fd, ps, h1, h2, h3, h4.mono h⟩
/-- .. of what is the same function -/
theorem FnF.eq {P : Program} {w : World} {K : PySem.W.Frag} {mg : Str → Option Value} {base : Heap} {x : Str} {np k : Nat} {m m' : List D → AH → Res D} (F : FnF P w K mg base x np k m) (h : m = m') : FnF P w K mg base x np k m' := h ▸ F
/-- nothing is said where m is stuck: a def known at fewer arguments -/
theorem FnF.le {P : Program} {w : World} {K : PySem.W.Frag} {mg : Str → Option Value} {base : Heap} {x : Str} {np k : Nat} {m m' : List D → AH → Res D} (F : FnF P w K mg base x np k m) (h : ∀ ds ah, m' ds ah = .stuck ∨ m' ds ah = m ds ah) : FnF P w K mg base x np k m' := by
  obtain ⟨f, fd, ps, h1, h2, h3, h4⟩ := F.ex
  refine ⟨f, fd, ps, h1, h2, h3, h4.imp fun vs H Q E q => ?_⟩
  obtain ⟨G, ρ, ds, ah, R, r, l, q⟩ := q
  refine ⟨G, ρ, ds, ah, R, r, l, ?_⟩
  rcases h ds ah with e | e
  · rw [e] at q
    exact q.elim
  · rw [← e]
    exact q
/-- a def by its body -/
theorem fn_ro {P : Program} {w : World} {K : PySem.W.Frag} {mg : Str → Option Value} {base : Heap} {x qual : Str} {st : Stmt} {f : Addr} {fd : FuncData} {N ps : List Str} {k np : Nat} {g : Ss} (Fd : FunD K x qual (defArgs st) (defBody st) (defScope st) [] [] f fd) (S : FnScope N ps (defScope st)) (hp : ps.length = np)
    (hb : ∀ (cdv : Value) (A : Around) (outer : List Env) (s : Shared) (H : Hp) (E : XK), Room k (A.deeper (envOfC qual (defScope st) s.heap.objs.size f cdv)) → FSs (cxOf (L2.CX P w) P w K mg base N qual (defScope st) f cdv A outer s H E) (fun cls d _ H => E cls d H) false (defBody st) g) :
    FnOk P w K mg base (L2.CX P w) (k + 1) f fd ps (spF K mg np (mF N.length g)) := by
  refine Fd.ok S (fun vs H Q E h => ?_) (fun cdv A outer s H vs Q E hr h => ?_)
  · obtain ⟨G, ρ, ds, ah, R, r, l, _⟩ := h
    rw [← r.length, l, hp]
  · obtain ⟨G, ρ, ds, ah, R, r, l, h⟩ := h
    refine ⟨tS (cxOf (L2.CX P w) P w K mg base N qual (defScope st) f cdv A outer s H E) (fun cls d _ H => E cls d H) false g, (hb cdv A outer s H E hr).run ⟨takes_of rfl rfl rfl rfl, passes_of rfl, rfl, S.nd, ?_⟩, ⟨H, fun _ => False, G, false⟩, G, ρ, startS N.length ds, ah, rfl, R.begins r, ?_⟩
    · have := hr.un
      show (A.deeper (envOfC qual (defScope st) s.heap.objs.size f cdv)).units + 190 < cLine
      omega
    · unfold mF at h
      cases eg : g (startS N.length ds) ah with
      | stuck =>
        rw [eg] at h
        exact h.elim
      | exc c σ' a' =>
        rw [eg] at h
        exact fun dct G' ρ' σ2 H' _ _ R' => h dct H' fun a o e => R'.bas a o e fun z => z
      | go fl σ' a' =>
        rw [eg] at h
        have ext : ∀ {G' ρ' σ2 H'}, Rel K mg ⟨H, fun _ => False, G, false⟩ G' ρ' σ' a' σ2 H' → Ext G H G' H' := fun R' => ⟨R'.g0, fun a o e => R'.bas a o e fun z => z, R'.gN⟩
        cases fl with
        | nx => exact fun G' ρ' σ2 H' _ _ R' => h .non G' H' (ext R') R'.gH rfl
        | ret d => exact fun G' ρ' σ2 H' _ kk R' v rv => h v G' H' (ext R') R'.gH (Rep.mono (.refl _) (kk.2 rfl).k' _ _ rv)
        | bk => exact h.elim
        | ct => exact h.elim

/-! ### calls -/
def D.unbor : D → D
  | .bor l => .lst l
  | d => d
mutual
/-- no list within, no object -/
def D.flat : D → Bool
  | .tup l => D.flatL l
  | .lst _ => false
  | .bor _ => false
  | .ob _ => false
  | _ => true
def D.flatL : List D → Bool
  | [] => true
  | d :: ds => D.flat d && D.flatL ds
end
mutual
/-- no object within -/
def D.noOb : D → Bool
  | .tup l => D.noObL l
  | .lst l => D.noObL l
  | .bor l => D.noObL l
  | .ob _ => false
  | _ => true
def D.noObL : List D → Bool
  | [] => true
  | d :: ds => D.noOb d && D.noObL ds
end
def callR (np : Nat) (m : List D → AH → Res D) (ah : AH) (ds : List D) : Res D :=
  if ds.length = np then (if ds.any D.isBor = true then (if D.noObL ds = true then (m (ds.map D.unbor) [] >>= fun d => if d.flat = true then .ok d else .stuck) else .stuck) else m ds ah) else .stuck
def eCall (np : Nat) (m : List D → AH → Res D) (l : Sg (List D)) : Sg D := fun σs ah => l σs ah >>= callR np m ah
section
variable {K : PySem.W.Frag} {G G' H H' : Hp} {ρ ρ' : Loc → Option Addr}
mutual
theorem Rep.noOb : ∀ (d : D) (v : V), Rep K G ρ d v → d.noOb = true → Rep K G ρ' d v
  | .non, _, h, _ => h
  | .bl _, _, h, _ => h
  | .int _, _, h, _ => h
  | .str _, _, h, _ => h
  | .tup l, _, h, n => by
    obtain ⟨a, vs, e, q, r⟩ := h
    exact ⟨a, vs, e, q, RepL.noOb l vs r n⟩
  | .lst l, _, h, n => by
    obtain ⟨a, vs, e, q, r⟩ := h
    exact ⟨a, vs, e, q, RepL.noOb l vs r n⟩
  | .bor _, _, h, _ => h
  | .ob _, _, _, n => by cases n
theorem RepL.noOb : ∀ (ds : List D) (vs : List V), RepL K G ρ ds vs → D.noObL ds = true → RepL K G ρ' ds vs
  | [], _, h, _ => h
  | d :: ds, _, h, n => by
    obtain ⟨v, r, e, h1, h2⟩ := h
    unfold D.noObL at n
    obtain ⟨n1, n2⟩ := Bool.and_eq_true_iff.mp n
    exact ⟨v, r, e, Rep.noOb d v h1 n1, RepL.noOb ds r h2 n2⟩
end
def isTp : HO → Bool
  | .tup _ => true
  | .frz _ (.tup _) => true
  | _ => false
mutual
theorem Rep.flat (s : ∀ a o, G a = some o → isTp o = true → G' a = some o) : ∀ (d : D) (v : V), Rep K G ρ d v → d.flat = true → Rep K G' ρ' d v
  | .non, _, h, _ => h
  | .bl _, _, h, _ => h
  | .int _, _, h, _ => h
  | .str _, _, h, _ => h
  | .tup l, _, h, n => by
    obtain ⟨a, vs, e, q, r⟩ := h
    refine ⟨a, vs, e, ?_, RepL.flat s l vs r n⟩
    rcases q with (q | ⟨o, q⟩) | q
    · exact .inl (.inl (s _ _ q rfl))
    · exact .inl (.inr ⟨o, s _ _ q rfl⟩)
    · exact .inr q
  | .lst l, _, h, n => by cases n
  | .bor _, _, h, _ => h
  | .ob _, _, _, n => by cases n
theorem RepL.flat (s : ∀ a o, G a = some o → isTp o = true → G' a = some o) : ∀ (ds : List D) (vs : List V), RepL K G ρ ds vs → D.flatL ds = true → RepL K G' ρ' ds vs
  | [], _, h, _ => h
  | d :: ds, _, h, n => by
    obtain ⟨v, r, e, h1, h2⟩ := h
    unfold D.flatL at n
    obtain ⟨n1, n2⟩ := Bool.and_eq_true_iff.mp n
    exact ⟨v, r, e, Rep.flat s d v h1 n1, RepL.flat s ds r h2 n2⟩
end
end
/-- (a borrowed list is a tracked one) -/
def Gc (G H : Hp) : Hp := fun a => match G a with
  | some o => some o
  | none => match H a with
    | some (.lst xs) => some (.lst xs)
    | some (.frz o (.lst xs)) => some (.frz o (.lst xs))
    | _ => none
section
variable {K : PySem.W.Frag} {G G' H H' : Hp} {ρ ρ' : Loc → Option Addr}
theorem Gc_ge : Same G (Gc G H) := fun a o e => by
  unfold Gc
  rw [e]
theorem Gc_le (s : Same G H) : Same (Gc G H) H := fun a o e => by
  unfold Gc at e
  split at e
  · rename_i o' e'
    cases e
    exact s _ _ e'
  · split at e
    · rename_i xs e'
      cases e
      exact e'
    · rename_i ob xs e'
      cases e
      exact e'
    · cases e
theorem Gc_lst {a : Addr} {vs : List V} (s : Same G H) (h : SqL K H a vs) : SqL K (Gc G H) a vs := by
  rcases h with (h | ⟨o, h⟩) | h
  · refine .inl (.inl ?_)
    unfold Gc
    split
    · rename_i o' e'
      have := s _ _ e'
      rw [h] at this
      cases this
      rfl
    · rw [h]
  · refine .inl (.inr ⟨o, ?_⟩)
    unfold Gc
    split
    · rename_i o' e'
      have := s _ _ e'
      rw [h] at this
      cases this
      rfl
    · rw [h]
  · exact .inr h
theorem unbor_rep (s : Same G H) : ∀ {ds : List D} {vs : List V}, RepBL K G ρ H ds vs → D.noObL ds = true → RepL K (Gc G H) (fun _ => none) (ds.map D.unbor) vs
  | [], vs, h, _ => h
  | d :: ds, _, h, n => by
    obtain ⟨v, r, rfl, h1, h2⟩ := h
    unfold D.noObL at n
    obtain ⟨n1, n2⟩ := Bool.and_eq_true_iff.mp n
    refine ⟨v, r, rfl, ?_, unbor_rep s h2 n2⟩
    cases d with
    | bor l =>
      obtain ⟨a, vs, rfl, q, rl⟩ := h1
      exact ⟨a, vs, rfl, Gc_lst s q, RepL.noOb _ _ (RepL.mono Gc_ge .refl _ _ rl) n1⟩
    | _ => exact Rep.noOb (ρ := ρ) _ _ (Rep.mono Gc_ge .refl _ _ h1) n1
/-- what is known behind a call that borrowed: the new objects, and what was known -/
def Gd2 (G G' H : Hp) : Hp := fun a => match H a with
  | none => G' a
  | some _ => G a
end
section
variable {X : Cx} {W : WX} {e : Expr} {es : List Expr} {ls : Sg (List D)} {x : Str} {p pos : Pos} {np k : Nat} {m : List D → AH → Res D}
theorem fe_call (C : FnF X.prog X.w X.K X.mg X.base x np k m) (hr : Room k X.A) (ha : FA X W (e :: es) ls) (hg : Gl X x := by rfl) (hdb : (x == ("__debug__" : Str)) = false := by decide) (he : starEach (e :: es) X.env = (false, eval e X.env) :: starEach es X.env := by rfl)
    (hpl : (backTo pos (starEach es X.env)).any (·.1) = false := by rfl) : FE X W (.Call (.Name x p) (e :: es) [] pos) (eCall np m ls) := by
  obtain ⟨f, fd, ps, c1, c2, c3, c4⟩ := C.ex
  refine ⟨fun gd => (pe_callS c4 hr hg c1 c2 c3 (fun σ => passAt gd.tk σ) (ha.run gd) hdb he hpl).imp ?_⟩
  rintro σ H Q ⟨F, G, ρ, σs, ah, R, h⟩
  refine ⟨F, G, ρ, σs, ah, R, h.bind.imp ?_⟩
  rintro vs H1 ⟨ds, G1, s1, R1, r1, -, h1⟩
  unfold callR at h1
  split at h1
  · rename_i hl
    split at h1
    · -- borrowed
      rename_i hb
      split at h1
      · rename_i hno
        refine ⟨Gc G1 H1, fun _ => none, ds.map D.unbor, [], ⟨Gc_le R1.gH, fun _ _ _ z => (nomatch z), fun _ _ z => (nomatch z), fun _ _ z => (nomatch z), fun _ => rfl, fun n m z => by simp at z⟩, unbor_rep R1.gH r1 hno, by rw [List.length_map]; exact hl, ?_⟩
        cases em : m (ds.map D.unbor) [] with
        | stuck =>
          rw [em] at h1
          exact h1
        | exc c =>
          rw [em] at h1
          intro dct H2 sH
          exact h1 dct G1 H2 ⟨.refl _, sH, fun _ _ z => .inl z⟩ (R1.ext (.refl _) sH (R1.gH.trans sH) fun _ _ z => .inl z)
        | ok d =>
          rw [em, Res.bind_ok] at h1
          intro v G2 H2 ex gh rd
          split at h1
          · rename_i hf
            have sG : Same G1 (Gd2 G1 G2 H1) := fun a o q => by
              unfold Gd2
              split
              · exact ex.g _ _ (Gc_ge _ _ q)
              · exact q
            have gn : ∀ a o, Gd2 G1 G2 H1 a = some o → G1 a = some o ∨ H1 a = none := fun a o q => by
              unfold Gd2 at q
              split at q
              · rename_i z
                exact .inr z
              · exact .inl q
            have gh2 : Same (Gd2 G1 G2 H1) H2 := fun a o q => by
              unfold Gd2 at q
              split at q
              · exact gh _ _ q
              · exact ex.h _ _ (R1.gH _ _ q)
            refine h1 v (Gd2 G1 G2 H1) H2 ⟨sG, ex.h, gn⟩ (R1.ext sG ex.h gh2 gn) (Rep.flat (fun a o q t => ?_) _ _ rd hf).b
            unfold Gd2
            split
            · exact q
            · rename_i u hu
              rcases ex.n a o q with z | z
              · unfold Gc at z
                split at z
                · rename_i o' e'
                  cases z
                  exact e'
                · split at z
                  · cases z
                    cases t
                  · cases z
                    cases t
                  · cases z
              · rw [hu] at z
                cases z
          · exact h1.elim
      · exact h1.elim
    · rename_i hb
      have hb : ds.any D.isBor = false := by simpa using hb
      refine ⟨G1, heapL ρ, ds, ah, R1.c, RepL.mono (.refl _) heapL_obj.k _ _ (r1.rep hb), hl, ?_⟩
      cases em : m ds ah with
      | stuck =>
        rw [em] at h1
        exact h1
      | exc c =>
        rw [em] at h1
        intro dct H2 sH
        exact h1 dct G1 H2 ⟨.refl _, sH, fun _ _ z => .inl z⟩ (R1.ext (.refl _) sH (R1.gH.trans sH) fun _ _ z => .inl z)
      | ok d =>
        rw [em] at h1
        intro v G2 H2 ex gh rd
        exact h1 v G2 H2 ex (R1.ext ex.g ex.h gh ex.n) (Rep.mono (.refl _) heapL_obj.k' _ _ rd).b
  · exact h1.elim
end
end Rf

set_option Elab.async false
set_option linter.all false
set_option maxRecDepth 100000
set_option maxHeartbeats 4000000
/-! Rf8: sorted(xs, key=f) where f's body is «return row[0]» and the items are tuples whose first item is an int. -/
namespace Rf
open PySem PySem.Spec PyProof.Rows L2

section
variable {P : Program} {w : World} {K : PySem.W.Frag} {x qual y : Str} {st : Stmt} {f : Addr} {fd : FuncData} {s : Shared} {A : Around}
/-- the call of such a def, to the state: new objects alone -/
theorem key0_call {j : Nat} {p1 p2 p3 p4 : Pos} (Fd : FunD K x qual (defArgs st) (defBody st) (defScope st) [] [] f fd) (hbody : defBody st = [.Return (some (.Subscript (.Name y p1) (.Constant (.int 0) j p2) p3)) p4]) (S : FnScope [y] [y] (defScope st)) (hy : (defScope st).names.lookup y = some .local)
    (hd : (y == ("__debug__" : Str)) = false) (hB : Binds K fd [y] []) (hrm : A.depth < recursionLimit) (hh : A.handled = none) (KX : K.In s.heap) (lim : s.heap.NoLimit) {t : Addr} {its : List Value} {n : Int} {u : Tok} (ht : IsTup s.heap t its.toArray) (h0 : its[0]? = some (.int n u)) :
    wpAny (model P w) A (call (.ref f) [.ref t]) (PySem.W.KeyPure (.int n) s) (fun _ _ => False) s := by
  obtain ⟨oc, od, dV, kV, doc, pm, an, cdv, ct, osl, rfl, lk, hcd, _, _⟩ := Fd.ex
  have hb := hB s [.ref t] KX rfl
  refine wpAny_call (codeAny_call_function hrm (KX _ _ lk) rfl S.co S.gen rfl (PySem.W.codeRec_of KX hcd) (hb _ _ _ _ ?_))
  refine wpAny_newFunctionEnv_cells S.kind (fun z hz => ?_) fun env he s1 X1 => ?_
  · obtain rfl : z = (y, Value.ref t) := by simpa using hz
    exact .inl hy
  subst he
  refine ⟨lim.keeps X1.toInCall.keep, codeAny_func ?_⟩
  obtain ⟨h1, tk1, rfl, hk⟩ := X1.done
  have hn := X1.toInCall.ns
  show wpAny _ _ (execs (defBody st) _) _ _ _
  rw [hbody]
  refine wpAny_execs_cons (wpAny_Return_some (Subscript_ ?_))
  have hm : (bindL (newEnv (defScope st) s.heap.objs.size mainGlobals (cellsFrom (s.heap.objs.size + 1) (defScope st).names []) (qual ++ ".<locals>.") (some f) cdv none builtinsNs).kindOf [(y, Value.ref t)] fun _ => none) y = some (.ref t) :=
    bindL_get (P := [y]) (vs := [.ref t]) (i := 0) (by simp) rfl rfl hy
  refine wpAny_Name (wpAny_loadName_local S.kind hy hn hm ?_) hd
  refine wpAny_Constant_int ?_
  have ht1 : IsTup h1 t its.toArray := by
    obtain ⟨o, e1, e2, n2, e3⟩ := ht
    exact ⟨o, hk _ _ e1, e2, n2, e3⟩
  refine subscriptTail_builtinR (x := .int n u) ht1.typeIs slot_tuple_getitem.lookup (PyProof.Rows.getItem_tuple (j := 0) (Q := fun r s' => r = .int n u ∧ _) ht1 (by decide) (by decide) ?_ (by simpa using h0) ⟨rfl, ?_⟩) (by rfl)
  · have hi : 0 < its.length := (List.getElem?_eq_some_iff.mp h0).1
    rw [List.size_toArray, seqIndex_of (by decide) (by omega)]
    rfl
  · exact ⟨h1, tk1 + 1, rfl, hk, Reads.int n u⟩
end

def key0 : D → Int
  | .tup (.int k :: _) => k
  | _ => 0
def isKey0 : D → Bool
  | .tup (.int _ :: _) => true
  | _ => false
def sortK0 (ds : List D) : List D := ds.mergeSort fun a b => decide (key0 a ≤ key0 b)
def bSortK0 : D → Res D := fun d => match d.lst? with
  | some ds => if ds.all isKey0 = true ∧ ds.length ≤ sizeLine then .ok (.lst (sortK0 ds)) else .stuck
  | none => .stuck
theorem eachIs_of {K : PySem.W.Frag} {H : Hp} {bs : List (D × V)} {us : List Value} (h : Vals (bs.map (·.2)) us) : PySem.W.EachIs (fun (u : Value) (b : D × V) => RelV b.2 u) us bs := by
  induction bs generalizing us with
  | nil =>
    cases h
    exact .nil
  | cons b bs ih =>
    cases h with
    | cons r t => exact .cons r (ih t)
theorem vals_of_each {bs : List (D × V)} {us : List Value} (h : PySem.W.EachIs (fun (u : Value) (b : D × V) => RelV b.2 u) us bs) : Vals (bs.map (·.2)) us := by
  induction h with
  | nil => exact .nil
  | cons r _ ih => exact .cons r ih
theorem repL_pairs {K : PySem.W.Frag} {G : Hp} {ρ : Loc → Option Addr} : ∀ {bs : List (D × V)}, (∀ p ∈ bs, Rep K G ρ p.1 p.2) → RepL K G ρ (bs.map (·.1)) (bs.map (·.2))
  | [], _ => rfl
  | b :: bs, h => ⟨b.2, _, rfl, h b (List.mem_cons_self ..), repL_pairs fun p hp => h p (List.mem_cons_of_mem _ hp)⟩
theorem repL_zip {K : PySem.W.Frag} {G : Hp} {ρ : Loc → Option Addr} : ∀ {ds : List D} {vs : List V}, RepL K G ρ ds vs → (∀ p ∈ ds.zip vs, Rep K G ρ p.1 p.2) ∧ (ds.zip vs).map (·.1) = ds ∧ (ds.zip vs).map (·.2) = vs
  | [], vs, h => by
    have h : vs = [] := h
    subst h
    exact ⟨fun p hp => by simp at hp, rfl, rfl⟩
  | d :: ds, _, h => by
    obtain ⟨v, r, rfl, h1, h2⟩ := h
    obtain ⟨a, b, c⟩ := repL_zip h2
    refine ⟨fun p hp => ?_, ?_, ?_⟩
    · rcases List.mem_cons.mp (show p ∈ (d, v) :: ds.zip r from hp) with e | hp
      · rw [e]
        exact h1
      · exact a p hp
    · show d :: (ds.zip r).map (·.1) = _
      rw [b]
    · show v :: (ds.zip r).map (·.2) = _
      rw [c]
def leK0 : D × V → D × V → Bool := fun a b => decide (key0 a.1 ≤ key0 b.1)
def rSortK0 (K : PySem.W.Frag) (f : Addr) : List V → List V → Hp → VK → Prop := fun vs zs H Q => ∃ (a : Addr) (bs : List (D × V)), vs = [.ref a] ∧ zs = [.ref f] ∧ SqL K H a (bs.map (·.2)) ∧ (∀ b ∈ bs, ∃ t r, b.2 = .ref t ∧ SqT K H t (.int (key0 b.1) :: r)) ∧ bs.length ≤ sizeLine ∧
  ∀ p, H p = none → Q (.ref p) (upd H p (.lst ((bs.mergeSort leK0).map (·.2))))
theorem cr_sortK0 {X : Cx} {x qual y : Str} {st : Stmt} {f : Addr} {fd : FuncData} {j : Nat} {p1 p2 p3 p4 : Pos} (hr : Room 1 X.A) (Fd : FunD X.K x qual (defArgs st) (defBody st) (defScope st) [] [] f fd) (hbody : defBody st = [.Return (some (.Subscript (.Name y p1) (.Constant (.int 0) j p2) p3)) p4])
    (S : FnScope [y] [y] (defScope st)) (hy : (defScope st).names.lookup y = some .local) (hd : (y == ("__debug__" : Str)) = false) (hB : Binds X.K fd [y] []) : CallRK X (.builtin "sorted") [Str.ofString "key"] (rSortK0 X.K f) := by
  intro pins s σ H vs zs us ws Q I r rz h
  obtain ⟨a, bs, rfl, rfl, hs, hk, hz, q⟩ := h
  obtain rfl := Vals.ref1 r
  obtain ⟨w1, rfl, e1⟩ := vals1 rz
  obtain rfl : w1 = Value.ref f := e1
  obtain ⟨its, rv, hl, _⟩ := I.list hs
  have hdp := hr.dp
  have hun := hr.un
  refine PySem.W.sorted_key_data (R := fun (u : Value) (b : D × V) => RelV b.2 u) (bs := bs) (fun b : D × V => PyData.int (key0 b.1)) hl.isList (eachIs_of (K := X.K) (H := H) rv) ?_ ?_ hz (fun b _ => ?_) (ksk_s1 _ _) (fun _ => ksk_l1 _ _) (fun _ => ksk_t1 _ _) (fun v b rb hb h tk hkp => ?_) (fun out c h' tk hkp hn hg ho he => ?_)
  · intro d hd d' hd'
    obtain ⟨b, _, rfl⟩ := List.mem_map.mp hd
    obtain ⟨b', _, rfl⟩ := List.mem_map.mp hd'
    rfl
  · refine .inr fun d hd => ?_
    obtain ⟨b, _, rfl⟩ := List.mem_map.mp hd
    exact ⟨fun z => (by cases z), fun xs z => (by cases z)⟩
  · show X.A.units + 2 + 0 < cLine
    omega
  · obtain ⟨t, rr, et, ht⟩ := hk b hb
    obtain ⟨its2, rv2, ht2, _⟩ := I.tuple ht
    rw [et] at rb
    obtain rfl : v = Value.ref t := rb
    obtain ⟨u0, eu, ru⟩ := rv2.get (i := 0) rfl
    obtain ⟨tk0, rfl⟩ := ru
    have ht3 : IsTup h t its2.toArray := by
      obtain ⟨o, e1, e2, n2, e3⟩ := ht2
      exact ⟨o, hkp _ _ e1, e2, n2, e3⟩
    exact key0_call (s := { s with heap := h, toks := tk }) Fd hbody S hy hd hB (by show X.A.depth < _; omega) (by exact hr.hd) (I.kIn.keeps hkp) (I.nolimit.keeps hkp) ht3 eu
  · have hle : PySem.W.dataLe false (fun b : D × V => PyData.int (key0 b.1)) = leK0 := PySem.W.dataLe_int fun b : D × V => key0 b.1
    rw [hle] at he
    have hv := vals_of_each he
    have hlen : ((bs.mergeSort leK0).map (·.2)).length ≤ sizeLine := by
      rw [List.length_map, List.length_mergeSort]
      exact hz
    exact ⟨.ref _, upd H (s.heap.objs.size + 1) (.lst ((bs.mergeSort leK0).map (·.2))), I.laid (t' := tk) hkp (Nat.le_succ _) ⟨hlen, _, c, hv, hg⟩, rfl, q _ (I.hok.fresh (Nat.le_succ _))⟩
section
variable {X : Cx} {W : WX} {e : Expr} {g : Sg D} {x qual y : Str} {st : Stmt} {f : Addr} {fd : FuncData} {j k : Nat} {p p1 p2 p3 p4 pos kp kp2 : Pos}
theorem fe_sortK0 (hm : X.mg "sorted" = none) (hf : X.mg x = some (.ref f)) (hr : Room (k + 1) X.A) (Fd : FunD X.K x qual (defArgs st) (defBody st) (defScope st) [] [] f fd) (hbody : defBody st = [.Return (some (.Subscript (.Name y p1) (.Constant (.int 0) j p2) p3)) p4])
    (S : FnScope [y] [y] (defScope st)) (hy : (defScope st).names.lookup y = some .local) (hd : (y == ("__debug__" : Str)) = false) (hB : Binds X.K fd [y] []) (h : FE X W e g) (hg : Gl X "sorted" := by rfl) (hgx : Gl X x := by rfl) (hdx : (x == ("__debug__" : Str)) = false := by decide)
    (he : backTo pos (starEach [e] X.env) = (false, eval e X.env) :: backTo pos (starEach [] X.env) := by rfl) (hpl : (backTo pos (starEach [e] X.env)).any (·.1) = false := by rfl) (hs : starEach [e] X.env = (false, eval e X.env) :: starEach [] X.env := by rfl) :
    FE X W (.Call (.Name "sorted" p) [e] [⟨some "key", .Name x kp, kp2⟩] pos) (e1 bSortK0 g) := by
  refine ⟨fun gd => (pe_callBK (cr_sortK0 (hr.mono (Nat.le_add_left 1 k)) Fd hbody S hy hd hB) hg hm (by decide +kernel) (pa_cons (h.run gd) pa_nil hs) (pk_cons (pe_glob (v := .ref f) hgx hf rfl hdx) pk_nil) (by decide) (by decide) he hpl).imp ?_⟩
  rintro σ H Q ⟨F, G, ρ, σs, ah, R, q⟩
  refine ⟨F, G, ρ, σs, ah, R, q.bind.imp ?_⟩
  rintro v H1 ⟨d, G1, ex, R1, r1, -, h1⟩
  unfold bSortK0 at h1
  cases el : d.lst? with
  | none =>
    rw [el] at h1
    exact h1.elim
  | some ds =>
    rw [el] at h1
    dsimp only at h1
    obtain ⟨a, vs, rfl, q1, q2⟩ := lst?_of R1.gH r1 el
    split at h1
    · rename_i hz
      obtain ⟨z1, z2, z3⟩ := repL_zip q2
      have hlen : (ds.zip vs).length = ds.length := by
        rw [← List.length_map (f := fun b : D × V => b.1), z2]
      refine ⟨a, ds.zip vs, rfl, rfl, by rw [z3]; exact q1, fun b hb => ?_, by rw [hlen]; exact hz.2, fun n hn => ?_⟩
      · have rb := z1 b hb
        have hk : isKey0 b.1 = true := List.all_eq_true.mp hz.1 _ (by rw [← z2]; exact List.mem_map.mpr ⟨b, hb, rfl⟩)
        obtain ⟨bd, bv⟩ := b
        cases bd with
        | tup l =>
          cases l with
          | nil => cases hk
          | cons i r =>
            cases i with
            | int n =>
              obtain ⟨t, us, e1, e2, e3⟩ := rb
              obtain ⟨v0, us', rfl, e4, e5⟩ := e3
              have e4 : v0 = .int n := e4
              subst e4
              exact ⟨t, us', e1, Same.sqT R1.gH e2⟩
            | _ => cases hk
        | _ => cases hk
      · have e3 : ((ds.zip vs).mergeSort leK0).map (·.1) = sortK0 ds := by
          unfold sortK0
          rw [PySem.W.sort_maps (r := leK0) (fun b : D × V => b.1) (s := fun a b => decide (key0 a ≤ key0 b)) (fun _ _ _ _ => rfl), z2]
        refine post_lst R1 ?_ h1 hn
        rw [← e3]
        exact repL_pairs fun b hb => z1 b ((List.mergeSort_perm _ _).mem_iff.mp hb)
    · exact h1.elim
end
end Rf

set_option Elab.async false
set_option linter.all false
set_option maxRecDepth 100000
set_option maxHeartbeats 4000000
/-! Rf9: the ends: a stuck def, the head's hook, the law's walk. -/
namespace Rf
open PySem PySem.Spec PyProof.Rows L2

theorem fnF_stuck {P : Program} {w : World} {K : PySem.W.Frag} {mg : Str → Option Value} {base : Heap} {x : Str} {np k : Nat} {f : Addr} {fd : FuncData} {ps : List Str} (g : mg x = some (.ref f)) (kp : PySem.W.keepIn K (.ref f) = true) (hB : Binds K fd ps []) :
    FnF P w K mg base x np k (fun _ _ => .stuck) :=
  ⟨f, fd, ps, g, kp, hB, ⟨fun vs H Q E h => by
    obtain ⟨_, _, _, _, _, _, _, z⟩ := h
    exact z.elim, fun A outer s H args us vs Q E _ _ _ _ h => by
    obtain ⟨_, _, _, _, _, _, _, z⟩ := h
    exact z.elim⟩⟩

/-! ### the hook -/
abbrev AlB : Type := He.AlD × Bool
def obsB (n : Nat) (fa : List He.Fa) (fn : List He.DefD) (ex : PySem.W.Frag → Bool) (g : Addr → Option Obj) : AlB := (He.obsDG n fa fn g, ex (He.frG g (He.asD g n)))
def hookB (n : Nat) (fa : List He.Fa) (fn : List He.DefD) (ex : PySem.W.Frag → Bool) : PySem.W.Hook where
  α := AlB
  obs := fun s => obsB n fa fn ex s.heap.get?
  val := fun _ => (He.valD fn, true)
  says := fun _ h => ∃ K : PySem.W.Frag, K.In h ∧ He.SaysD fa fn K ∧ ex K = true
  of := fun _ _ e => ⟨_, He.frG_in, congrArg (fun z : AlB => z.1) e, congrArg (fun z : AlB => z.2) e⟩
  keeps := fun _ _ _ ⟨K, hK, c⟩ k => ⟨K, PySem.W.Frag.In.keeps hK k, c⟩
theorem obsB_eq {n : Nat} {fa : List He.Fa} {fn : List He.DefD} {ex : PySem.W.Frag → Bool} {g : Addr → Option Obj} {s : Shared} (h : ∀ a, g a = s.heap.get? a) : obsB n fa fn ex g = (hookB n fa fn ex).obs s := by
  have e : g = s.heap.get? := funext h
  rw [e] <;> rfl

/-! ### the law's walk -/
theorem walk_ofR {l : PySem.W.OpenLaw} {n k : Nat} {q : Program} {loose : List Str} {XP : (Str → Option Value) → Heap → Prop} {YP : World → Heap → Prop} {d : DefRec} {x : Str} {m : List D → AH → Res D}
    (hn : l.most = some n) (hn2 : n ≤ sizeLine) (hdf : d.params.defaults = []) (hr : Room k callerA) (hm : ∀ ns : List Int, ns.length ≤ n → m [.lst (ns.map D.int)] [] = .ok (.bl true))
    (F : ∀ (w : World) (mg : Str → Option Value) (fa : Addr) (h : Heap), YP w h → h.Ns mainGlobals mg → mg d.name = some (.ref fa) →
      ∃ (K : PySem.W.Frag) (fd : FuncData), K.In h ∧ (∀ (s : Shared) (u : Value), BindsTo s fd ⟨[u], []⟩ [(x, u)]) ∧
        ∀ base : Heap, K.In base → base.Ns mainGlobals mg → FnOk l.prog w K mg base (L2.CX l.prog w) k fa fd [x] (spF K mg 1 m)) :
    PySem.W.WalkO q loose XP YP l.row.toRowW d [] (fun f vs => PySem.call f vs) := by
  refine Att.attach_call hn hdf fun w s₀ s₁ mg mb fa o pm cd doc a vs ns G Y ho hd hcd hmg hobj hints hlen hg => ?_
  obtain ⟨K, fd, KX, hb, hF⟩ := F w mg fa _ Y G.T.g hmg
  refine law_call KX G.T.g G.T.b G.T.builtins G.T.nolimit hg hobj hints (Nat.le_trans hlen hn2) hr hF hb (fun H hO hS => ?_) fun H e s' h => ?_
  · refine ⟨H, fun _ => none, [.lst (ns.map D.int)], [], ⟨.refl _, fun _ _ _ z => (nomatch z), fun _ _ z => (nomatch z), fun _ _ z => (nomatch z), fun _ => rfl, fun n m z => by simp at z⟩, ⟨.ref a, [], rfl, ⟨a, _, rfl, hS, ?_⟩, rfl⟩, rfl, ?_⟩
    · clear hS hlen hints
      induction ns with
      | nil => exact rfl
      | cons n ns ih => exact ⟨_, _, rfl, rfl, ih⟩
    · rw [hm ns hlen]
      exact fun v G' H' _ _ r => r
  · obtain ⟨_, _, _, _, _, _, _, _, _, _, _, _, z⟩ := h
    exact z.elim
end Rf

set_option Elab.async false
set_option linter.all false
set_option maxRecDepth 100000
set_option maxHeartbeats 4000000
/-! What each def of the text means, over data. Printed by gen.py. -/
namespace Mx
open PySem PySem.Spec PyProof.Rows L2 Rf
/-- answer_to(letter, word, load); slots 0 letter, 1 word, 2 load -/
def b_answer_to : Ss := sSeq (sRet (eTup (lCons (eVar 1) (lCons (e2 opIx (eVar 0) (eCon (.int 2))) (lCons (e2 opIx (eVar 0) (eCon (.int 1))) (lCons (e2 opIx (eVar 0) (eCon (.int 3))) (lCons (e2 opIx (eVar 0) (eCon (.int 4))) (lCons (eVar 2) (lNil))))))))) (sNil)
def m_answer_to : List D → AH → Res D := mF 3 b_answer_to
/-- page_of(book, epoch); slots 0 book, 1 epoch, 2 row -/
def b_page_of : Ss := sSeq (sFor (iSeq true (eVar 0)) (.nm 2) (sSeq (sIf (tB (e2 opEq (e2 opIx (eVar 2) (eCon (.int 0))) (eVar 1))) (sSeq (sRet (eTup (lCons (e2 opIx (eVar 2) (eCon (.int 1))) (lCons (e2 opIx (eVar 2) (eCon (.int 2))) (lCons (e2 opIx (eVar 2) (eCon (.int 3))) (lNil)))))) (sNil)) (sNil)) (sNil))) (sSeq (sRet (eTup (lCons (eCon (.tup (([0, 0] : List Int).map D.int))) (lCons (eCon (.tup (([0, 0] : List Int).map D.int))) (lCons (eCon .non) (lNil)))))) (sNil))
def m_page_of : List D → AH → Res D := mF 3 b_page_of
/-- with_page(book, epoch, promised, kept, slate); slots 0 book, 1 epoch, 2 promised, 3 kept, 4 slate, 5 before, 6 behind, 7 row -/
def b_with_page : Ss := sSeq (sSet (.nm 5) (eLst' (eLc (iSeq false (eVar 0)) [7] (.nm 7) (tB (e2 opLt (e2 opIx (eVar 7) (eCon (.int 0))) (eVar 1))) (eVar 7)))) (sSeq (sSet (.nm 6) (eLst' (eLc (iSeq false (eVar 0)) [7] (.nm 7) (tB (e2 opGt (e2 opIx (eVar 7) (eCon (.int 0))) (eVar 1))) (eVar 7)))) (sSeq (sRet (eB bTuple (lCons (e2 opAdd (e2 opAdd (eVar 5) (eLst (lCons (eTup (lCons (eVar 1) (lCons (eVar 2) (lCons (eVar 3) (lCons (eVar 4) (lNil)))))) (lNil)))) (eVar 6)) (lNil)))) (sNil)))
def m_with_page : List D → AH → Res D := mF 8 b_with_page
/-- heard(book, letter); slots 0 book, 1 letter, 2 epoch, 3 stamp, 4 promised, 5 kept, 6 slate -/
def b_heard : Ss := sSeq (sSet (.nm 2) (e2 opIx (eVar 1) (eCon (.int 3)))) (sSeq (sSet (.nm 3) (e2 opIx (eVar 1) (eCon (.int 4)))) (sSeq (sSet (.tp [4, 5, 6]) (eCall 2 m_page_of (lCons (eVar 0) (lCons (eVar 2) (lNil))))) (sSeq (sIf (bAnd (tB (e2 opEq (e2 opIx (eVar 1) (eCon (.int 0))) (eCon (.str "ask")))) (tB (e2 opGt (eVar 3) (eVar 4)))) (sSeq (sRet (eTup (lCons (eCall 5 m_with_page (lCons (eVar 0) (lCons (eVar 2) (lCons (eVar 3) (lCons (eVar 5) (lCons (eVar 6) (lNil))))))) (lCons (eCall 3 m_answer_to (lCons (eVar 1) (lCons (eCon (.str "grant")) (lCons (eTup (lCons (eVar 5) (lCons (eVar 6) (lNil)))) (lNil))))) (lNil))))) (sNil)) (sNil)) (sSeq (sIf (bAnd (tB (e2 opEq (e2 opIx (eVar 1) (eCon (.int 0))) (eCon (.str "tell")))) (tB (e2 opGe (eVar 3) (eVar 4)))) (sSeq (sRet (eTup (lCons (eCall 5 m_with_page (lCons (eVar 0) (lCons (eVar 2) (lCons (eVar 3) (lCons (eVar 3) (lCons (e2 opIx (e2 opIx (eVar 1) (eCon (.int 5))) (eCon (.int 3))) (lNil))))))) (lCons (eCall 3 m_answer_to (lCons (eVar 1) (lCons (eCon (.str "kept")) (lCons (eTup (lNil)) (lNil))))) (lNil))))) (sNil)) (sNil)) (sSeq (sRet (eTup (lCons (eVar 0) (lCons (eCall 3 m_answer_to (lCons (eVar 1) (lCons (eCon (.str "late")) (lCons (eTup (lCons (eVar 4) (lNil))) (lNil))))) (lNil))))) (sNil))))))
def m_heard : List D → AH → Res D := mF 7 b_heard
/-- _law_cell_at(script, k); slots 0 script, 1 k -/
def b_law_cell_at : Ss := sSeq (sIf (tB (e2 opLt (eVar 1) (eB bLen (lCons (eVar 0) (lNil))))) (sSeq (sRet (e2 opIx (eVar 0) (eVar 1))) (sNil)) (sNil)) (sSeq (sRet (eCon (.int 0))) (sNil))
def m_law_cell_at : List D → AH → Res D := mF 2 b_law_cell_at
/-- _law_alike(found, due); slots 0 found, 1 due, 2 k -/
def b_law_alike (self : List D → AH → Res D) : Ss := sSeq (sIf (tB (e2 opIsN (eVar 1) (eCon .non))) (sSeq (sRet (e2 opIsN (eVar 0) (eCon .non))) (sNil)) (sNil)) (sSeq (sIf (tTru (eIsi "bool" (eVar 1))) (sSeq (sRet (eAnd (eIsi "bool" (eVar 0)) (e2 opEq (eVar 0) (eVar 1)))) (sNil)) (sNil)) (sSeq (sIf (tTru (eIsi "int" (eVar 1))) (sSeq (sRet (eAnd (eIsi "int" (eVar 0)) (eAnd (eNot (eIsi "bool" (eVar 0))) (e2 opEq (eVar 0) (eVar 1))))) (sNil)) (sNil)) (sSeq (sIf (tTru (eIsi "str" (eVar 1))) (sSeq (sRet (eAnd (eIsi "str" (eVar 0)) (e2 opEq (eVar 0) (eVar 1)))) (sNil)) (sNil)) (sSeq (sIf (bAnd (tTru (eIsi "tuple" (eVar 1))) (bNot (tTru (eIsi "tuple" (eVar 0))))) (sSeq (sRet (eCon (.bl false))) (sNil)) (sNil)) (sSeq (sIf (bAnd (tTru (eIsi "list" (eVar 1))) (bNot (tTru (eIsi "list" (eVar 0))))) (sSeq (sRet (eCon (.bl false))) (sNil)) (sNil)) (sSeq (sIf (tB (e2 opNe (eB bLen (lCons (eVar 0) (lNil))) (eB bLen (lCons (eVar 1) (lNil))))) (sSeq (sRet (eCon (.bl false))) (sNil)) (sNil)) (sSeq (sFor (Rf.iRng1 (lCons (eB bLen (lCons (eVar 1) (lNil))) (lNil))) (.nm 2) (sSeq (sIf (bNot (tTru (eCall 2 self (lCons (e2 opIx (eVar 0) (eVar 2)) (lCons (e2 opIx (eVar 1) (eVar 2)) (lNil)))))) (sSeq (sRet (eCon (.bl false))) (sNil)) (sNil)) (sNil))) (sSeq (sRet (eCon (.bl true))) (sNil)))))))))
def m_law_alike : Nat → List D → AH → Res D
  | 0 => fun _ _ => .stuck
  | n + 1 => mF 3 (b_law_alike (m_law_alike n))
/-- _law_name(cell); slots 0 cell, 1 size, 2 name -/
def b_law_name : Ss := sSeq (sSet (.nm 1) (e2 opAdd (eCon (.int 1)) (e2 opMod (eVar 0) (eCon (.int 8))))) (sSeq (sSet (.nm 2) (eCon (.str ""))) (sSeq (sWh (tB (e2 opLt (eB bLen (lCons (eVar 2) (lNil))) (eVar 1))) (sSeq (sSet (.nm 2) (e2 opAdd (eVar 2) (e2 opIx (eCon (.str "abcdefghijklmnopqrstuvwxyz")) (e2 opMod (e2 opDiv (eVar 0) (eCon (.int 8))) (eCon (.int 26)))))) (sSeq (sSet (.nm 0) (e2 opDiv (eVar 0) (eCon (.int 3)))) (sNil))) 100000) (sSeq (sRet (eVar 2)) (sNil))))
def m_law_name : List D → AH → Res D := mF 3 b_law_name
/-- _law_slate(cell); slots 0 cell, 1 cells, 2 doing, 3 lease -/
def b_law_slate : Ss := sSeq (sSet (.nm 1) (eTup (lNil))) (sSeq (sIf (tB (e2 opGt (e2 opMod (eVar 0) (eCon (.int 3))) (eCon (.int 0)))) (sSeq (sSet (.nm 1) (eTup (lCons (eTup (lCons (eCall 1 m_law_name (lCons (e2 opDiv (eVar 0) (eCon (.int 3))) (lNil))) (lCons (e2 opAdd (eCon (.int 1)) (e2 opMod (eVar 0) (e2 opPow (eCon (.int 10)) (eCon (.int 30))))) (lNil)))) (lNil)))) (sNil)) (sNil)) (sSeq (sSet (.nm 2) (eTup (lCons (e2 opMod (e2 opDiv (eVar 0) (eCon (.int 7))) (eCon (.int 6))) (lCons (e2 opAdd (eCon (.int 1)) (e2 opMod (e2 opDiv (eVar 0) (eCon (.int 11))) (eCon (.int 50)))) (lCons (e2 opMod (eVar 0) (e2 opPow (eCon (.int 10)) (eCon (.int 9)))) (lNil)))))) (sSeq (sSet (.nm 3) (eTup (lCons (e2 opMod (e2 opDiv (eVar 0) (eCon (.int 13))) (eCon (.int 20))) (lCons (e2 opIx (eLst (lCons (eCon .non) (lCons (eCon (.int 0)) (lCons (eCon (.int 3)) (lNil))))) (e2 opMod (e2 opDiv (eVar 0) (eCon (.int 260))) (eCon (.int 3)))) (lNil))))) (sSeq (sRet (eTup (lCons (eVar 1) (lCons (eTup (lCons (eVar 2) (lNil))) (lCons (eVar 3) (lCons (e2 opIx (eLst (lCons (eCon .non) (lCons (eCon (.str "over")) (lCons (eTup (lCons (eTup (lCons (eCon (.int 2)) (lCons (eTup (lCons (eCon (.int 0)) (lCons (eCon (.int 1)) (lCons (eCon (.int 4)) (lNil))))) (lNil)))) (lCons (eTup (lCons (eCon (.int 2)) (lCons (eTup (lCons (eCon (.int 0)) (lCons (eCon (.int 1)) (lCons (eCon (.int 4)) (lNil))))) (lNil)))) (lNil)))) (lNil))))) (e2 opMod (e2 opDiv (eVar 0) (eCon (.int 5))) (eCon (.int 3)))) (lNil))))))) (sNil)))))
def m_law_slate : List D → AH → Res D := mF 4 b_law_slate
/-- _law_near(stamp, cell); slots 0 stamp, 1 cell, 2 way -/
def b_law_near : Ss := sSeq (sSet (.nm 2) (e2 opMod (eVar 1) (eCon (.int 5)))) (sSeq (sIf (bAnd (tB (e2 opEq (eVar 2) (eCon (.int 0)))) (tB (e2 opGt (e2 opIx (eVar 0) (eCon (.int 0))) (eCon (.int 0))))) (sSeq (sRet (eVar 0)) (sNil)) (sNil)) (sSeq (sIf (tB (e2 opEq (eVar 2) (eCon (.int 1)))) (sSeq (sRet (eTup (lCons (e2 opAdd (e2 opIx (eVar 0) (eCon (.int 0))) (eCon (.int 1))) (lCons (e2 opMod (e2 opDiv (eVar 1) (eCon (.int 5))) (eCon (.int 6))) (lNil))))) (sNil)) (sNil)) (sSeq (sIf (tB (e2 opEq (eVar 2) (eCon (.int 2)))) (sSeq (sRet (eTup (lCons (eB bMax2 (lCons (eCon (.int 1)) (lCons (e2 opSub (e2 opIx (eVar 0) (eCon (.int 0))) (eCon (.int 1))) (lNil)))) (lCons (e2 opMod (e2 opDiv (eVar 1) (eCon (.int 5))) (eCon (.int 6))) (lNil))))) (sNil)) (sNil)) (sSeq (sIf (tB (e2 opEq (eVar 2) (eCon (.int 3)))) (sSeq (sRet (eTup (lCons (eB bMax2 (lCons (eCon (.int 1)) (lCons (e2 opIx (eVar 0) (eCon (.int 0))) (lNil)))) (lCons (e2 opMod (e2 opDiv (eVar 1) (eCon (.int 5))) (eCon (.int 6))) (lNil))))) (sNil)) (sNil)) (sSeq (sRet (eTup (lCons (e2 opAdd (eCon (.int 1)) (e2 opMod (e2 opDiv (eVar 1) (eCon (.int 5))) (e2 opPow (eCon (.int 10)) (eCon (.int 20))))) (lCons (e2 opMod (e2 opDiv (eVar 1) (eCon (.int 7))) (eCon (.int 6))) (lNil))))) (sNil))))))
def m_law_near : List D → AH → Res D := mF 3 b_law_near
/-- _law_row(epoch, cell); slots 0 epoch, 1 cell, 2 promised, 3 way -/
def b_law_row : Ss := sSeq (sSet (.nm 2) (eTup (lCons (e2 opAdd (eCon (.int 1)) (e2 opMod (eVar 1) (e2 opPow (eCon (.int 10)) (eCon (.int 20))))) (lCons (e2 opMod (e2 opDiv (eVar 1) (eCon (.int 3))) (eCon (.int 6))) (lNil))))) (sSeq (sSet (.nm 3) (e2 opMod (e2 opDiv (eVar 1) (eCon (.int 18))) (eCon (.int 3)))) (sSeq (sIf (tB (e2 opEq (eVar 3) (eCon (.int 0)))) (sSeq (sRet (eTup (lCons (eVar 0) (lCons (eVar 2) (lCons (eTup (lCons (eCon (.int 0)) (lCons (eCon (.int 0)) (lNil)))) (lCons (eCon .non) (lNil))))))) (sNil)) (sNil)) (sSeq (sIf (tB (e2 opEq (eVar 3) (eCon (.int 1)))) (sSeq (sRet (eTup (lCons (eVar 0) (lCons (eVar 2) (lCons (eVar 2) (lCons (eCall 1 m_law_slate (lCons (e2 opDiv (eVar 1) (eCon (.int 54))) (lNil))) (lNil))))))) (sNil)) (sNil)) (sSeq (sRet (eTup (lCons (eVar 0) (lCons (eVar 2) (lCons (eTup (lCons (e2 opAdd (eCon (.int 1)) (e2 opMod (e2 opDiv (eVar 1) (eCon (.int 54))) (e2 opIx (eVar 2) (eCon (.int 0))))) (lCons (eCon (.int 0)) (lNil)))) (lCons (eCall 1 m_law_slate (lCons (e2 opDiv (eVar 1) (eCon (.int 54))) (lNil))) (lNil))))))) (sNil)))))
def m_law_row : List D → AH → Res D := mF 4 b_law_row
/-- _law_book(script, k); slots 0 script, 1 k, 2 rows, 3 epoch, 4 j -/
def b_law_book : Ss := sSeq (sOwn 2 (lLst (lNil))) (sSeq (sSet (.nm 3) (e2 opMod (eCall 2 m_law_cell_at (lCons (eVar 0) (lCons (eVar 1) (lNil)))) (eCon (.int 3)))) (sSeq (sFor (Rf.iRng1 (lCons (e2 opMod (e2 opDiv (eCall 2 m_law_cell_at (lCons (eVar 0) (lCons (eVar 1) (lNil)))) (eCon (.int 3))) (eCon (.int 4))) (lNil))) (.nm 4) (sSeq (sApp 2 (eCall 2 m_law_row (lCons (eVar 3) (lCons (eCall 2 m_law_cell_at (lCons (eVar 0) (lCons (e2 opAdd (e2 opAdd (eVar 1) (eCon (.int 1))) (eVar 4)) (lNil)))) (lNil))))) (sSeq (sSet (.nm 3) (e2 opAdd (e2 opAdd (eVar 3) (eCon (.int 1))) (e2 opMod (eCall 2 m_law_cell_at (lCons (eVar 0) (lCons (e2 opAdd (e2 opAdd (eVar 1) (eCon (.int 1))) (eVar 4)) (lNil)))) (eCon (.int 3))))) (sNil)))) (sSeq (sRet (eB bTuple (lCons (eVar 2) (lNil)))) (sNil))))
def m_law_book : List D → AH → Res D := mF 5 b_law_book
/-- _law_load(cell); slots 0 cell, 1 deed -/
def b_law_load : Ss := sSeq (sSet (.nm 1) (e2 opIx (eLst (lCons (eCon .non) (lCons (eTup (lCons (eCon (.str "add")) (lCons (eCall 1 m_law_name (lCons (e2 opDiv (eVar 0) (eCon (.int 3))) (lNil))) (lCons (e2 opSub (e2 opMod (e2 opDiv (eVar 0) (eCon (.int 5))) (e2 opPow (eCon (.int 10)) (eCon (.int 20)))) (e2 opPow (eCon (.int 10)) (eCon (.int 19)))) (lNil))))) (lCons (eTup (lCons (eCon (.str "end")) (lNil))) (lNil))))) (e2 opMod (eVar 0) (eCon (.int 3))))) (sSeq (sRet (eTup (lCons (eTup (lCons (e2 opMod (e2 opDiv (eVar 0) (eCon (.int 7))) (eCon (.int 2))) (lCons (eCon (.int 0)) (lNil)))) (lCons (e2 opAdd (eCon (.int 1)) (e2 opMod (e2 opDiv (eVar 0) (eCon (.int 11))) (eCon (.int 60)))) (lCons (eVar 1) (lCons (eCall 1 m_law_slate (lCons (e2 opDiv (eVar 0) (eCon (.int 13))) (lNil))) (lNil))))))) (sNil))
def m_law_load : List D → AH → Res D := mF 2 b_law_load
/-- law(script); slots 0 script, 1 book, 2 epoch, 3 old, 4 row, 5 stamp, 6 keeper, 7 load, 8 found, 9 rows, 10 due -/
def b_law : Ss := sSeq (sSet (.nm 1) (eCall 2 m_law_book (lCons (eVar 0) (lCons (eCon (.int 2)) (lNil))))) (sSeq (sSet (.nm 2) (e2 opMod (e2 opDiv (eCall 2 m_law_cell_at (lCons (eVar 0) (lCons (eCon (.int 0)) (lNil)))) (eCon (.int 7))) (eCon (.int 12)))) (sSeq (sIf (bAnd (tB (e2 opGt (eB bLen (lCons (eVar 1) (lNil))) (eCon (.int 0)))) (tB (e2 opGt (e2 opMod (eCall 2 m_law_cell_at (lCons (eVar 0) (lCons (eCon (.int 0)) (lNil)))) (eCon (.int 7))) (eCon (.int 1))))) (sSeq (sSet (.nm 2) (e2 opIx (e2 opIx (eVar 1) (e2 opMod (e2 opDiv (eCall 2 m_law_cell_at (lCons (eVar 0) (lCons (eCon (.int 0)) (lNil)))) (eCon (.int 7))) (eB bLen (lCons (eVar 1) (lNil))))) (eCon (.int 0)))) (sNil)) (sNil)) (sSeq (sSet (.nm 3) (eTup (lCons (eVar 2) (lCons (eTup (lCons (eCon (.int 0)) (lCons (eCon (.int 0)) (lNil)))) (lCons (eTup (lCons (eCon (.int 0)) (lCons (eCon (.int 0)) (lNil)))) (lCons (eCon .non) (lNil))))))) (sSeq (sFor (iSeq true (eVar 1)) (.nm 4) (sSeq (sIf (tB (e2 opEq (e2 opIx (eVar 4) (eCon (.int 0))) (eVar 2))) (sSeq (sSet (.nm 3) (eVar 4)) (sNil)) (sNil)) (sNil))) (sSeq (sSet (.nm 5) (eCall 2 m_law_near (lCons (e2 opIx (eVar 3) (eCon (.int 1))) (lCons (e2 opMod (eCall 2 m_law_cell_at (lCons (eVar 0) (lCons (eCon (.int 1)) (lNil)))) (e2 opPow (eCon (.int 10)) (eCon (.int 40)))) (lNil))))) (sSeq (sSet (.nm 6) (e2 opMod (eCall 2 m_law_cell_at (lCons (eVar 0) (lCons (eCon (.int 6)) (lNil)))) (eCon (.int 6)))) (sSeq (sSet (.nm 7) (eCall 1 m_law_load (lCons (e2 opMod (eCall 2 m_law_cell_at (lCons (eVar 0) (lCons (eCon (.int 7)) (lNil)))) (e2 opPow (eCon (.int 10)) (eCon (.int 40)))) (lNil)))) (sSeq (sIf (tB (e2 opEq (eVar 5) (e2 opIx (eVar 3) (eCon (.int 2))))) (sSeq (sSet (.nm 7) (e2 opAdd (eSl (eVar 7) (oNone) (oSome (eCon (.int 3)))) (eTup (lCons (e2 opIx (eVar 3) (eCon (.int 3))) (lNil))))) (sNil)) (sNil)) (sSeq (sSet (.nm 8) (eCall 2 m_heard (lCons (eVar 1) (lCons (eTup (lCons (eCon (.str "tell")) (lCons (e2 opIx (eVar 5) (eCon (.int 1))) (lCons (eVar 6) (lCons (eVar 2) (lCons (eVar 5) (lCons (eVar 7) (lNil)))))))) (lNil))))) (sSeq (sOwn 9 (eLc (iSeq false (eVar 1)) [4] (.nm 4) (tB (e2 opNe (e2 opIx (eVar 4) (eCon (.int 0))) (eVar 2))) (eVar 4))) (sSeq (sIf (tB (e2 opGe (eVar 5) (e2 opIx (eVar 3) (eCon (.int 1))))) (sSeq (sApp 9 (eTup (lCons (eVar 2) (lCons (eVar 5) (lCons (eVar 5) (lCons (e2 opIx (eVar 7) (eCon (.int 3))) (lNil))))))) (sSeq (sSet (.nm 10) (eTup (lCons (eCon (.str "kept")) (lCons (eVar 6) (lCons (e2 opIx (eVar 5) (eCon (.int 1))) (lCons (eVar 2) (lCons (eVar 5) (lCons (eTup (lNil)) (lNil))))))))) (sNil))) (sSeq (sApp 9 (eVar 3)) (sSeq (sSet (.nm 10) (eTup (lCons (eCon (.str "late")) (lCons (eVar 6) (lCons (e2 opIx (eVar 5) (eCon (.int 1))) (lCons (eVar 2) (lCons (eVar 5) (lCons (eTup (lCons (e2 opIx (eVar 3) (eCon (.int 1))) (lNil))) (lNil))))))))) (sNil)))) (sSeq (sSet (.nm 9) (e1 bSortK0 (eVar 9))) (sSeq (sRet (eCall 2 (m_law_alike 40) (lCons (eVar 8) (lCons (eTup (lCons (eB bTuple (lCons (eVar 9) (lNil))) (lCons (eVar 10) (lNil)))) (lNil))))) (sNil))))))))))))))
def m_law : List D → AH → Res D := mF 11 b_law
end Mx

set_option Elab.async false
set_option linter.all false
set_option maxRecDepth 100000
set_option maxHeartbeats 4000000
/-! Rf10: the meanings evaluated by simp: no lambda is entered before its argument is known. -/
namespace Rf
open PySem PySem.Spec PyProof.Rows L2

theorem no_rfl {α : Type} {a b : α} (h : a = b) : a = b := h

/-! ### expressions -/
def R2v (op : D → D → Res D) : Res D → Res D → Res D
  | .ok a, .ok b => op a b
  | .ok _, .exc c => .exc c
  | .ok _, .stuck => .stuck
  | .exc c, _ => .exc c
  | .stuck, _ => .stuck
def R1v {α β : Type} (op : α → Res β) : Res α → Res β
  | .ok a => op a
  | .exc c => .exc c
  | .stuck => .stuck
def gV : Option SV → Res D
  | some (.val d) => .ok d
  | some (.own l) => .ok (.bor l)
  | _ => .stuck
def Rcons : Res D → Res (List D) → Res (List D)
  | .ok a, .ok b => .ok (a :: b)
  | .ok _, .exc c => .exc c
  | .ok _, .stuck => .stuck
  | .exc c, _ => .exc c
  | .stuck, _ => .stuck
def Rbl : Res Bool → Res D
  | .ok b => .ok (.bl b)
  | .exc c => .exc c
  | .stuck => .stuck
def Rnot : Res Bool → Res Bool
  | .ok b => .ok (!b)
  | .exc c => .exc c
  | .stuck => .stuck
def Rand : Res Bool → Res Bool → Res Bool
  | .ok true, r => r
  | .ok false, _ => .ok false
  | .exc c, _ => .exc c
  | .stuck, _ => .stuck
def Ror : Res Bool → Res Bool → Res Bool
  | .ok true, _ => .ok true
  | .ok false, r => r
  | .exc c, _ => .exc c
  | .stuck, _ => .stuck
def RandD : Res D → Res D → Res D
  | .ok (.bl true), r => r
  | .ok (.bl false), _ => .ok (.bl false)
  | .ok _, _ => .stuck
  | .exc c, _ => .exc c
  | .stuck, _ => .stuck
def RorD : Res D → Res D → Res D
  | .ok (.bl true), _ => .ok (.bl true)
  | .ok (.bl false), r => r
  | .ok _, _ => .stuck
  | .exc c, _ => .exc c
  | .stuck, _ => .stuck
def Rif : Res Bool → Res D → Res D → Res D
  | .ok true, a, _ => a
  | .ok false, _, b => b
  | .exc c, _, _ => .exc c
  | .stuck, _, _ => .stuck
section
variable {α β : Type} {op : D → D → Res D} {f g : Sg D} {l : Sg (List D)} {s t : Sg Bool} {σs : List SV} {ah : AH} {a b d : D} {c : Str} {r : Res D} {rb : Res Bool} {x y : List D} {k : Bool} {u : α → Res β} {v : α}
@[simp] theorem R2v_ok : R2v op (.ok a) (.ok b) = op a b := no_rfl rfl
@[simp] theorem R1v_ok : R1v u (.ok v) = u v := no_rfl rfl
@[simp] theorem gV_val : gV (some (.val d)) = .ok d := no_rfl rfl
@[simp] theorem gV_own : gV (some (.own x)) = .ok (.bor x) := no_rfl rfl
@[simp] theorem Rcons_ok : Rcons (.ok a) (.ok x) = .ok (a :: x) := no_rfl rfl
@[simp] theorem Rbl_ok : Rbl (.ok k) = .ok (.bl k) := no_rfl rfl
@[simp] theorem Rnot_ok : Rnot (.ok k) = .ok (!k) := no_rfl rfl
@[simp] theorem Rand_t : Rand (.ok true) rb = rb := no_rfl rfl
@[simp] theorem Rand_f : Rand (.ok false) rb = .ok false := no_rfl rfl
theorem Rand_ok {k j : Bool} : Rand (.ok k) (.ok j) = .ok (k && j) := by cases k <;> rfl
@[simp] theorem Ror_t : Ror (.ok true) rb = .ok true := no_rfl rfl
@[simp] theorem Ror_f : Ror (.ok false) rb = rb := no_rfl rfl
theorem Ror_ok {k j : Bool} : Ror (.ok k) (.ok j) = .ok (k || j) := by cases k <;> rfl
@[simp] theorem RandD_t : RandD (.ok (.bl true)) r = r := no_rfl rfl
@[simp] theorem RandD_f : RandD (.ok (.bl false)) r = .ok (.bl false) := no_rfl rfl
theorem RandD_ok {k j : Bool} : RandD (.ok (.bl k)) (.ok (.bl j)) = .ok (.bl (k && j)) := by cases k <;> rfl
@[simp] theorem RorD_t : RorD (.ok (.bl true)) r = .ok (.bl true) := no_rfl rfl
@[simp] theorem RorD_f : RorD (.ok (.bl false)) r = r := no_rfl rfl
theorem RorD_ok {k j : Bool} : RorD (.ok (.bl k)) (.ok (.bl j)) = .ok (.bl (k || j)) := by cases k <;> rfl
@[simp] theorem Rif_t {q : Res D} : Rif (.ok true) r q = r := no_rfl rfl
@[simp] theorem Rif_f {q : Res D} : Rif (.ok false) r q = q := no_rfl rfl
@[simp] theorem eVar_ev {i : Nat} : eVar i σs ah = gV (σs[i]?) := by
  unfold eVar gV
  cases σs[i]? with
  | none => rfl
  | some z => cases z <;> rfl
@[simp] theorem eCon_ev : eCon d σs ah = .ok d := no_rfl rfl
@[simp] theorem e2_ev : e2 op f g σs ah = R2v op (f σs ah) (g σs ah) := by
  unfold e2
  cases f σs ah with
  | ok a => cases g σs ah <;> rfl
  | _ => rfl
@[simp] theorem e1_ev {o : D → Res D} : e1 o f σs ah = R1v o (f σs ah) := by
  unfold e1
  cases f σs ah <;> rfl
@[simp] theorem tB_ev : tB f σs ah = R1v dB (f σs ah) := by
  unfold tB
  cases f σs ah <;> rfl
@[simp] theorem dB_ev : dB (.bl k) = .ok k := no_rfl rfl
@[simp] theorem tTru_ev : tTru f σs ah = R1v dTru (f σs ah) := by
  unfold tTru
  cases f σs ah <;> rfl
@[simp] theorem bNot_ev : bNot s σs ah = Rnot (s σs ah) := by
  unfold bNot
  cases s σs ah <;> rfl
@[simp] theorem bAnd_ev : bAnd s t σs ah = Rand (s σs ah) (t σs ah) := by
  unfold bAnd
  cases s σs ah with
  | ok k => cases k <;> rfl
  | _ => rfl
@[simp] theorem bOr_ev : bOr s t σs ah = Ror (s σs ah) (t σs ah) := by
  unfold bOr
  cases s σs ah with
  | ok k => cases k <;> rfl
  | _ => rfl
@[simp] theorem eAnd_ev : eAnd f g σs ah = RandD (f σs ah) (g σs ah) := by
  unfold eAnd
  cases f σs ah with
  | ok d =>
    cases d with
    | bl k => cases k <;> rfl
    | _ => rfl
  | _ => rfl
@[simp] theorem eOr_ev : eOr f g σs ah = RorD (f σs ah) (g σs ah) := by
  unfold eOr
  cases f σs ah with
  | ok d =>
    cases d with
    | bl k => cases k <;> rfl
    | _ => rfl
  | _ => rfl
@[simp] theorem eNot_ev : eNot f σs ah = Rbl (Rnot (R1v dTru (f σs ah))) := by
  unfold eNot
  cases f σs ah with
  | ok d =>
    show (dTru d >>= fun k => Res.ok (D.bl (!k))) = Rbl (Rnot (dTru d))
    cases dTru d <;> rfl
  | _ => rfl
@[simp] theorem eIf_ev : eIf s f g σs ah = Rif (s σs ah) (f σs ah) (g σs ah) := by
  unfold eIf
  cases s σs ah with
  | ok k => cases k <;> rfl
  | _ => rfl
@[simp] theorem lNil_ev : lNil σs ah = .ok [] := no_rfl rfl
@[simp] theorem lCons_ev : lCons f l σs ah = Rcons (f σs ah) (l σs ah) := by
  unfold lCons
  cases f σs ah with
  | ok a => cases l σs ah <;> rfl
  | _ => rfl
@[simp] theorem eTup_ev : eTup l σs ah = R1v (okItems .tup) (l σs ah) := by
  unfold eTup
  cases l σs ah <;> rfl
@[simp] theorem eLst_ev : eLst l σs ah = R1v (okItems .lst) (l σs ah) := by
  unfold eLst
  cases l σs ah <;> rfl
@[simp] theorem lLst_ev : lLst l σs ah = R1v okList (l σs ah) := by
  unfold lLst
  cases l σs ah <;> rfl
@[simp] theorem eB_ev {o : List D → Res D} : eB o l σs ah = R1v o (l σs ah) := by
  unfold eB
  cases l σs ah <;> rfl
@[simp] theorem eIsi_ev {T : String} : eIsi T f σs ah = Rbl (R1v (isTy T) (f σs ah)) := by
  unfold eIsi
  cases f σs ah with
  | ok d =>
    show (isTy T d >>= fun k => Res.ok (D.bl k)) = Rbl (isTy T d)
    cases isTy T d <;> rfl
  | _ => rfl
@[simp] theorem opEq_ev : opEq a b = Rbl (eqB a b) := by
  unfold opEq
  cases eqB a b <;> rfl
@[simp] theorem opNe_ev : opNe a b = Rbl (Rnot (eqB a b)) := by
  unfold opNe
  cases eqB a b <;> rfl
@[simp] theorem opIn_ev : opIn a b = Rbl (inB a b) := by
  unfold opIn
  cases inB a b <;> rfl
@[simp] theorem opNotIn_ev : opNotIn a b = Rbl (Rnot (inB a b)) := by
  unfold opNotIn
  cases inB a b <;> rfl
def Rsl (a : Res D) (l h : Res (Option Int)) : Res D := a >>= fun d => l >>= fun lo => h >>= fun hi => opSl lo hi d
@[simp] theorem Rsl_ok {lo hi : Option Int} : Rsl (.ok d) (.ok lo) (.ok hi) = opSl lo hi d := no_rfl rfl
@[simp] theorem eSl_ev {l h : Sg (Option Int)} : eSl f l h σs ah = Rsl (f σs ah) (l σs ah) (h σs ah) := no_rfl rfl
@[simp] theorem oNone_ev : oNone σs ah = .ok none := no_rfl rfl
def Rsome : Res D → Res (Option Int)
  | .ok (.int i) => .ok (some i)
  | .ok _ => .stuck
  | .exc c => .exc c
  | .stuck => .stuck
@[simp] theorem Rsome_ok {i : Int} : Rsome (.ok (.int i)) = .ok (some i) := no_rfl rfl
@[simp] theorem oSome_ev : oSome f σs ah = Rsome (f σs ah) := by
  unfold oSome
  cases f σs ah with
  | ok d => cases d <;> rfl
  | _ => rfl
def Rcall (np : Nat) (m : List D → AH → Res D) (ah : AH) : Res (List D) → Res D
  | .ok ds => callR np m ah ds
  | .exc c => .exc c
  | .stuck => .stuck
@[simp] theorem Rcall_ok {np : Nat} {m : List D → AH → Res D} : Rcall np m ah (.ok x) = callR np m ah x := no_rfl rfl
@[simp] theorem eCall_ev {np : Nat} {m : List D → AH → Res D} : eCall np m l σs ah = Rcall np m ah (l σs ah) := by
  unfold eCall
  cases l σs ah <;> rfl
/-- a call with no borrowed list -/
theorem call_val {np : Nat} {m : List D → AH → Res D} (hl : x.length = np) (hb : x.any D.isBor = false) : callR np m ah x = m x ah := by
  unfold callR
  rw [if_pos hl, if_neg (by rw [hb]; decide)]
/-- a call with a borrowed list -/
theorem call_bor {np : Nat} {m : List D → AH → Res D} (hl : x.length = np) (hb : x.any D.isBor = true) (ho : D.noObL x = true) (hm : m (x.map D.unbor) [] = .ok d) (hf : d.flat = true) : callR np m ah x = .ok d := by
  unfold callR
  rw [if_pos hl, if_pos hb, if_pos ho, hm, Res.bind_ok, if_pos hf]
@[simp] theorem okItems_ev {mk : List D → D} (hb : x.any D.isBor = false) (hl : x.length ≤ sizeLine) : okItems mk x = .ok (mk x) := if_pos ⟨hb, hl⟩
@[simp] theorem okList_ev (hb : x.any D.isBor = false) (hl : x.length ≤ sizeLine) : okList x = .ok x := if_pos ⟨hb, hl⟩
@[simp] theorem okItems_nil {mk : List D → D} : okItems mk [] = .ok (mk []) := okItems_ev rfl (by decide)
@[simp] theorem okList_nil : okList [] = .ok [] := okList_ev rfl (by decide)
@[simp] theorem ofString_inj {a b : String} : (Str.ofString a = Str.ofString b) ↔ a = b := by
  refine ⟨fun h => ?_, fun h => by rw [h]⟩
  rw [Str.ofString_eq_toList, Str.ofString_eq_toList] at h
  have h := congrArg (fun z : Str => z.cps.toList) h
  have h : a.toList.map Char.toNat = b.toList.map Char.toNat := h
  have h := (List.map_inj_right (fun (x y : Char) (e : x.toNat = y.toNat) => Char.ext (UInt32.toNat_inj.mp e))).mp h
  exact String.toList_inj.mp h
/-! ### operations -/
variable {i j : Int}
@[simp] theorem opAdd_int : opAdd (.int i) (.int j) = .ok (.int (i + j)) := no_rfl rfl
@[simp] theorem opSub_int : opSub (.int i) (.int j) = .ok (.int (i - j)) := no_rfl rfl
@[simp] theorem opMul_int (h : (-(2 ^ 64) < i ∧ i < 2 ^ 64) ∨ (-(2 ^ 64) < j ∧ j < 2 ^ 64)) : opMul (.int i) (.int j) = .ok (.int (i * j)) := if_pos (decide_eq_true h)
theorem opMod_int (h : j ≠ 0) : opMod (.int i) (.int j) = .ok (.int (i.fmod j)) := if_pos (decide_eq_true h)
theorem opDiv_int (h : j ≠ 0) (h2 : j.natAbs < 1073741824) : opDiv (.int i) (.int j) = .ok (.int (i.fdiv j)) := if_pos (decide_eq_true ⟨h, h2⟩)
@[simp] theorem opMod_pos (h : 0 < j) : opMod (.int i) (.int j) = .ok (.int (i % j)) := by
  rw [opMod_int (by omega), Int.fmod_eq_emod_of_nonneg _ (by omega)]
@[simp] theorem opDiv_pos (h : 0 < j) (h2 : j < 1073741824) : opDiv (.int i) (.int j) = .ok (.int (i / j)) := by
  rw [opDiv_int (by omega) (by omega), Int.fdiv_eq_ediv_of_nonneg _ (by omega)]
@[simp] theorem opPow_pos (h : 0 ≤ j) (h1 : j ≤ 1000000) (h2 : i.natAbs < 18446744073709551616) : opPow (.int i) (.int j) = .ok (.int (i ^ j.toNat)) := if_pos (decide_eq_true ⟨h, h1, h2⟩)
@[simp] theorem le_size {n : Nat} (h : n ≤ 16777216) : n ≤ sizeLine := h
@[simp] theorem lt_size {n : Nat} (h : n < 16777216) : n < sizeLine := h
@[simp] theorem opLt_int : opLt (.int i) (.int j) = .ok (.bl (decide (i < j))) := no_rfl rfl
@[simp] theorem opGt_int : opGt (.int i) (.int j) = .ok (.bl (decide (j < i))) := no_rfl rfl
@[simp] theorem opLe_int : opLe (.int i) (.int j) = .ok (.bl (decide (i ≤ j))) := no_rfl rfl
@[simp] theorem opGe_int : opGe (.int i) (.int j) = .ok (.bl (decide (j ≤ i))) := no_rfl rfl
@[simp] theorem eqB_int : eqB (.int i) (.int j) = .ok (decide (i = j)) := no_rfl rfl
@[simp] theorem eqB_str {z w : Str} : eqB (.str z) (.str w) = .ok (decide (z = w)) := no_rfl rfl
@[simp] theorem eqB_bl {z w : Bool} : eqB (.bl z) (.bl w) = .ok (decide (z = w)) := no_rfl rfl
def ltP (a b c d : Int) : Bool := if a = c then decide (b < d) else decide (a < c)
def leP (a b c d : Int) : Bool := if a = c then decide (b ≤ d) else decide (a < c)
theorem opLt_p {a b c d : Int} : opLt (.tup [.int a, .int b]) (.tup [.int c, .int d]) = .ok (.bl (ltP a b c d)) := by
  show Res.ok (D.bl (lxLt [a, b] [c, d])) = _
  unfold lxLt lexO ltP
  by_cases h : a = c
  · subst h
    rw [if_pos rfl, if_pos rfl]
    unfold lexO
    split
    · rename_i h
      subst h
      simp [lexO]
    · rfl
  · rw [if_neg h, if_neg h]
theorem opGt_p {a b c d : Int} : opGt (.tup [.int a, .int b]) (.tup [.int c, .int d]) = .ok (.bl (ltP c d a b)) := by
  show Res.ok (D.bl (lxGt [a, b] [c, d])) = _
  unfold lxGt lexO ltP
  by_cases h : a = c
  · subst h
    rw [if_pos rfl, if_pos rfl]
    unfold lexO
    split
    · rename_i h
      subst h
      simp [lexO]
    · rfl
  · rw [if_neg h, if_neg (fun z => h z.symm)]
theorem opGe_p {a b c d : Int} : opGe (.tup [.int a, .int b]) (.tup [.int c, .int d]) = .ok (.bl (leP c d a b)) := by
  show Res.ok (D.bl (lxGe [a, b] [c, d])) = _
  unfold lxGe lexO leP
  by_cases h : a = c
  · subst h
    rw [if_pos rfl, if_pos rfl]
    unfold lexO
    split
    · rename_i h
      subst h
      simp [lexO]
    · rfl
  · rw [if_neg h, if_neg (fun z => h z.symm)]
    have : decide (c ≤ a) = decide (c < a) := by
      rw [decide_eq_decide]
      omega
    rw [this]
theorem opLe_p {a b c d : Int} : opLe (.tup [.int a, .int b]) (.tup [.int c, .int d]) = .ok (.bl (leP a b c d)) := by
  show Res.ok (D.bl (lxLe [a, b] [c, d])) = _
  unfold lxLe lexO leP
  by_cases h : a = c
  · subst h
    rw [if_pos rfl, if_pos rfl]
    unfold lexO
    split
    · rename_i h
      subst h
      simp [lexO]
    · rfl
  · rw [if_neg h, if_neg h]
    have : decide (a ≤ c) = decide (a < c) := by
      rw [decide_eq_decide]
      omega
    rw [this]
@[simp] theorem opIsN_ev : opIsN a .non = .ok (.bl (isN a)) := no_rfl rfl
@[simp] theorem opNotN_ev : opNotN a .non = .ok (.bl (!isN a)) := no_rfl rfl
def Rget {α : Type} (f : α → D) : Option α → Res D
  | some a => .ok (f a)
  | none => .stuck
@[simp] theorem Rget_some {α : Type} {f : α → D} {a : α} : Rget f (some a) = .ok (f a) := no_rfl rfl
@[simp] theorem opIx_tup {l : List D} : opIx (.tup l) (.int i) = Rget id (atI l i) := by
  show (match atI l i with
    | some d => Res.ok d
    | none => .stuck) = Rget id (atI l i)
  cases atI l i <;> rfl
@[simp] theorem opIx_lst {l : List D} : opIx (.lst l) (.int i) = Rget id (atI l i) := by
  show (match atI l i with
    | some d => Res.ok d
    | none => .stuck) = Rget id (atI l i)
  cases atI l i <;> rfl
@[simp] theorem opIx_bor {l : List D} : opIx (.bor l) (.int i) = Rget id (atI l i) := by
  show (match atI l i with
    | some d => Res.ok d
    | none => .stuck) = Rget id (atI l i)
  cases atI l i <;> rfl
theorem opIx_str {z : Str} (h : z.length ≤ sizeLine) : opIx (.str z) (.int i) = Rget (fun c => .str ⟨#[c]⟩) (atI z.cps.toList i) := by
  unfold opIx Rget
  simp only [h, if_true]
  cases atI z.cps.toList i <;> rfl
section
variable {α : Type} {a b c d e f g h : α} {l : List α}
@[simp] theorem at0 : atI (a :: l) 0 = some a := atI_nat (j := 0) rfl
@[simp] theorem at1 : atI (a :: b :: l) 1 = some b := atI_nat (j := 1) rfl
@[simp] theorem at2 : atI (a :: b :: c :: l) 2 = some c := atI_nat (j := 2) rfl
@[simp] theorem at3 : atI (a :: b :: c :: d :: l) 3 = some d := atI_nat (j := 3) rfl
@[simp] theorem at4 : atI (a :: b :: c :: d :: e :: l) 4 = some e := atI_nat (j := 4) rfl
@[simp] theorem at5 : atI (a :: b :: c :: d :: e :: f :: l) 5 = some f := atI_nat (j := 5) rfl
@[simp] theorem at6 : atI (a :: b :: c :: d :: e :: f :: g :: l) 6 = some g := atI_nat (j := 6) rfl
@[simp] theorem at7 : atI (a :: b :: c :: d :: e :: f :: g :: h :: l) 7 = some h := atI_nat (j := 7) rfl
theorem atI_some {l : List α} {i : Int} {v : α} (h0 : 0 ≤ i) (h : l[i.toNat]? = some v) : atI l i = some v := by
  have z := atI_nat h
  rw [Int.toNat_of_nonneg h0] at z
  exact z
end
@[simp] theorem isN_non : isN .non = true := no_rfl rfl
@[simp] theorem isN_bl : isN (.bl k) = false := no_rfl rfl
@[simp] theorem isN_int : isN (.int i) = false := no_rfl rfl
@[simp] theorem isN_str {z : Str} : isN (.str z) = false := no_rfl rfl
@[simp] theorem isN_tup : isN (.tup x) = false := no_rfl rfl
@[simp] theorem isN_lst : isN (.lst x) = false := no_rfl rfl
@[simp] theorem isN_bor : isN (.bor x) = false := no_rfl rfl
@[simp] theorem isBor_non : D.isBor .non = false := no_rfl rfl
@[simp] theorem isBor_bl : D.isBor (.bl k) = false := no_rfl rfl
@[simp] theorem isBor_int : D.isBor (.int i) = false := no_rfl rfl
@[simp] theorem isBor_str {z : Str} : D.isBor (.str z) = false := no_rfl rfl
@[simp] theorem isBor_tup : D.isBor (.tup x) = false := no_rfl rfl
@[simp] theorem isBor_lst : D.isBor (.lst x) = false := no_rfl rfl
@[simp] theorem isBor_bor : D.isBor (.bor x) = true := no_rfl rfl
@[simp] theorem isBor_ob {n : Nat} : D.isBor (.ob n) = false := no_rfl rfl
@[simp] theorem bLen_tup : bLen [.tup x] = .ok (.int x.length) := no_rfl rfl
@[simp] theorem bLen_lst : bLen [.lst x] = .ok (.int x.length) := no_rfl rfl
@[simp] theorem bLen_bor : bLen [.bor x] = .ok (.int x.length) := no_rfl rfl
@[simp] theorem bLen_str {z : Str} (h : z.length ≤ sizeLine) : bLen [.str z] = .ok (.int z.length) := if_pos h
@[simp] theorem bTuple_tup : bTuple [.tup x] = .ok (.tup x) := no_rfl rfl
@[simp] theorem bTuple_lst : bTuple [.lst x] = .ok (.tup x) := no_rfl rfl
@[simp] theorem bTuple_bor : bTuple [.bor x] = .ok (.tup x) := no_rfl rfl
@[simp] theorem bList_tup : bList [.tup x] = .ok (.lst x) := no_rfl rfl
@[simp] theorem bList_lst : bList [.lst x] = .ok (.lst x) := no_rfl rfl
@[simp] theorem bList_bor : bList [.bor x] = .ok (.lst x) := no_rfl rfl
@[simp] theorem bMax2_ev : bMax2 [.int i, .int j] = .ok (.int (if j > i then j else i)) := no_rfl rfl
@[simp] theorem bMin2_ev : bMin2 [.int i, .int j] = .ok (.int (if j < i then j else i)) := no_rfl rfl
@[simp] theorem dTru_bl : dTru (.bl k) = .ok k := no_rfl rfl
@[simp] theorem dTru_non : dTru .non = .ok false := no_rfl rfl
@[simp] theorem dTru_int : dTru (.int i) = .ok (i != 0) := no_rfl rfl
@[simp] theorem dTru_tup : dTru (.tup x) = .ok (!x.isEmpty) := no_rfl rfl
@[simp] theorem dTru_lst : dTru (.lst x) = .ok (!x.isEmpty) := no_rfl rfl
@[simp] theorem dTru_bor : dTru (.bor x) = .ok (!x.isEmpty) := no_rfl rfl
theorem opAdd_lst {x y : List D} (h : x.length + y.length ≤ sizeLine) : opAdd (.lst x) (.lst y) = .ok (.lst (x ++ y)) := if_pos h
theorem opAdd_tup {x y : List D} (h : x.length + y.length ≤ sizeLine) : opAdd (.tup x) (.tup y) = .ok (.tup (x ++ y)) := if_pos h
theorem opAdd_str {x y : Str} (h : x.length + y.length ≤ sizeLine) : opAdd (.str x) (.str y) = .ok (.str (x ++ y)) := if_pos h
@[simp] theorem isTy_non {T : String} : isTy T .non = .ok false := no_rfl rfl
@[simp] theorem isTy_bl {T : String} : isTy T (.bl k) = .ok (T == "bool" || T == "int") := no_rfl rfl
@[simp] theorem isTy_int {T : String} : isTy T (.int i) = .ok (T == "int") := no_rfl rfl
@[simp] theorem isTy_str {T : String} {z : Str} : isTy T (.str z) = .ok (T == "str") := no_rfl rfl
@[simp] theorem isTy_tup {T : String} : isTy T (.tup x) = .ok (T == "tuple") := no_rfl rfl
@[simp] theorem isTy_lst {T : String} : isTy T (.lst x) = .ok (T == "list") := no_rfl rfl
@[simp] theorem isTy_bor {T : String} : isTy T (.bor x) = .ok (T == "list") := no_rfl rfl
/-! ### comprehensions, targets -/
def Rlc (r : Res (List D)) (vs : List Nat) (tgt : Tgt) (cond : Sg Bool) (elt : Sg D) (σs : List SV) (ah : AH) : Res (List D) := r >>= fun ds => if ds.length ≤ sizeLine then noX (lcD (lcItem tgt cond elt (wipeS σs vs) ah) ds) else .stuck
@[simp] theorem eLc_ev {it : Sg (List D)} {vs : List Nat} {tgt : Tgt} {cond : Sg Bool} {elt : Sg D} : eLc it vs tgt cond elt σs ah = Rlc (it σs ah) vs tgt cond elt σs ah := no_rfl rfl
theorem lcD_fm {item : D → Res (Option D)} {g : D → Option D} : ∀ {ds : List D}, (∀ d ∈ ds, item d = .ok (g d)) → lcD item ds = .ok (ds.filterMap g)
  | [], _ => rfl
  | d :: ds, h => by
    unfold lcD
    rw [h d (List.mem_cons_self ..), Res.bind_ok, lcD_fm (fun e he => h e (List.mem_cons_of_mem _ he)), Res.bind_ok]
    cases e : g d with
    | none => simp [List.filterMap_cons, e]
    | some y => simp [List.filterMap_cons, e]
theorem Rlc_ok {vs : List Nat} {tgt : Tgt} {cond : Sg Bool} {elt : Sg D} {ds : List D} {g : D → Option D} (hl : ds.length ≤ sizeLine) (h : ∀ d ∈ ds, lcItem tgt cond elt (wipeS σs vs) ah d = .ok (g d)) : Rlc (.ok ds) vs tgt cond elt σs ah = .ok (ds.filterMap g) := by
  unfold Rlc
  rw [Res.bind_ok, if_pos hl, lcD_fm h]
  rfl
def Rlst : Res (List D) → Res D
  | .ok l => .ok (.lst l)
  | .exc c => .exc c
  | .stuck => .stuck
@[simp] theorem Rlst_ok : Rlst (.ok x) = .ok (.lst x) := no_rfl rfl
@[simp] theorem eLst'_ev : eLst' l σs ah = Rlst (l σs ah) := by
  unfold eLst'
  cases l σs ah <;> rfl
@[simp] theorem iSeq_ev {q : Bool} : iSeq q f σs ah = R1v (seqOf q) (f σs ah) := by
  unfold iSeq
  cases f σs ah <;> rfl
@[simp] theorem seqOf_tup {q : Bool} : seqOf q (.tup x) = .ok x := no_rfl rfl
@[simp] theorem seqOf_lst {q : Bool} : seqOf q (.lst x) = .ok x := no_rfl rfl
@[simp] theorem seqOf_bor : seqOf false (.bor x) = .ok x := no_rfl rfl
@[simp] theorem iRng1_ev : iRng1 l σs ah = R1v rngOf1 (l σs ah) := by
  unfold iRng1
  cases l σs ah <;> rfl
@[simp] theorem iRng2_ev : iRng2 l σs ah = R1v rngOf2 (l σs ah) := by
  unfold iRng2
  cases l σs ah <;> rfl
theorem rngOf1_int (h : -(2 ^ 62) ≤ i) (h2 : i < 2 ^ 62) : rngOf1 [.int i] = .ok (rngL 0 i.toNat) := if_pos ⟨h, h2⟩
theorem rngOf1_ok {n : Nat} (h : n ≤ sizeLine) : rngOf1 [.int n] = .ok (rngL 0 n) := by
  have z : n ≤ 16777216 := h
  have a : (-(2 ^ 62) : Int) ≤ (n : Int) := by omega
  have b : (n : Int) < (2 ^ 62 : Int) := by omega
  rw [rngOf1_int a b, Int.toNat_natCast]
@[simp] theorem asg_nm {n : Nat} (h : d.isBor = false) : assignT (.nm n) d σs = .ok (σs.set n (.val d)) := if_pos h
@[simp] theorem asg_tp {is : List Nat} (h : x.length = is.length) : assignT (.tp is) (.tup x) σs = .ok (setVs σs is x) := if_pos h
@[simp] theorem setVs_nil {ds : List D} : setVs σs [] ds = σs := by cases ds <;> rfl
@[simp] theorem setVs_cons {n : Nat} {is : List Nat} : setVs σs (n :: is) (d :: x) = setVs (σs.set n (.val d)) is x := no_rfl rfl
@[simp] theorem wipe_nil : wipeS σs [] = σs := no_rfl rfl
@[simp] theorem wipe_cons {n : Nat} {is : List Nat} : wipeS σs (n :: is) = (wipeS σs is).set n .un := no_rfl rfl
/-! ### statements -/
def RS.seq : RS → Ss → RS
  | .go .nx σ a, k => k σ a
  | r, _ => r
def Ste (r : Res Bool) (σs : List SV) (ah : AH) (g k : Ss) : RS := match r with
  | .ok true => g σs ah
  | .ok false => k σs ah
  | .exc c => .exc c σs ah
  | .stuck => .stuck
def SetR (tgt : Tgt) (r : Res D) (σs : List SV) (ah : AH) : RS := match r with
  | .ok d => (match assignT tgt d σs with
    | .ok σ' => .go .nx σ' ah
    | _ => .stuck)
  | .exc c => .exc c σs ah
  | .stuck => .stuck
def RetR (r : Res D) (σs : List SV) (ah : AH) : RS := match r with
  | .ok d => if d.isBor = false then .go (.ret d) σs ah else .stuck
  | .exc c => .exc c σs ah
  | .stuck => .stuck
def OwnR (i : Nat) (r : Res (List D)) (σs : List SV) (ah : AH) : RS := match r with
  | .ok ds => .go .nx (σs.set i (.own ds)) ah
  | .exc c => .exc c σs ah
  | .stuck => .stuck
def AppR (i : Nat) (o : Option SV) (r : Res D) (σs : List SV) (ah : AH) : RS := match o with
  | some (.own ds) => (match r with
    | .ok d => if d.isBor = false ∧ ds.length < sizeLine then .go .nx (σs.set i (.own (ds ++ [d]))) ah else .stuck
    | .exc c => .exc c σs ah
    | .stuck => .stuck)
  | _ => .stuck
def ForR (r : Res (List D)) (tgt : Tgt) (b : Ss) (σs : List SV) (ah : AH) : RS := match r with
  | .ok ds => sForL tgt b ds σs ah
  | .exc c => .exc c σs ah
  | .stuck => .stuck
def RS.loop : RS → Ss → RS
  | .go .nx σ a, k => k σ a
  | .go .ct σ a, k => k σ a
  | .go .bk σ a, _ => .go .nx σ a
  | r, _ => r
def endF : RS → Res D
  | .go (.ret d) _ _ => .ok d
  | .go .nx _ _ => .ok .non
  | .exc c _ _ => .exc c
  | _ => .stuck
variable {g' k' : Ss} {tgt : Tgt} {i n : Nat} {it : Sg (List D)} {ds : List D}
@[simp] theorem seq_nx : (RS.go .nx σs ah).seq k' = k' σs ah := no_rfl rfl
@[simp] theorem seq_ret : (RS.go (.ret d) σs ah).seq k' = .go (.ret d) σs ah := no_rfl rfl
@[simp] theorem seq_bk : (RS.go .bk σs ah).seq k' = .go .bk σs ah := no_rfl rfl
@[simp] theorem seq_ct : (RS.go .ct σs ah).seq k' = .go .ct σs ah := no_rfl rfl
@[simp] theorem sNil_ev : sNil σs ah = .go .nx σs ah := no_rfl rfl
@[simp] theorem sSeq_ev : sSeq g' k' σs ah = (g' σs ah).seq k' := by
  unfold sSeq RS.seq
  cases g' σs ah with
  | go fl σ a => cases fl <;> rfl
  | _ => rfl
@[simp] theorem Ste_t : Ste (.ok true) σs ah g' k' = g' σs ah := no_rfl rfl
@[simp] theorem Ste_f : Ste (.ok false) σs ah g' k' = k' σs ah := no_rfl rfl
@[simp] theorem sIf_ev : sIf t g' k' σs ah = Ste (t σs ah) σs ah g' k' := by
  unfold sIf Ste bindS
  cases t σs ah with
  | ok q => cases q <;> rfl
  | _ => rfl
@[simp] theorem sRet_ev : sRet f σs ah = RetR (f σs ah) σs ah := by
  unfold sRet RetR bindS
  cases f σs ah <;> rfl
@[simp] theorem RetR_ok (h : d.isBor = false) : RetR (.ok d) σs ah = .go (.ret d) σs ah := if_pos h
@[simp] theorem sSet_ev : sSet tgt f σs ah = SetR tgt (f σs ah) σs ah := by
  unfold sSet SetR bindS
  cases f σs ah with
  | ok d => rfl
  | _ => rfl
@[simp] theorem SetR_nm (h : d.isBor = false) : SetR (.nm i) (.ok d) σs ah = .go .nx (σs.set i (.val d)) ah := by
  unfold SetR
  simp only [asg_nm h]
@[simp] theorem SetR_tp {is : List Nat} (h : x.length = is.length) : SetR (.tp is) (.ok (.tup x)) σs ah = .go .nx (setVs σs is x) ah := by
  unfold SetR
  simp only [asg_tp h]
@[simp] theorem sOwn_ev : sOwn i l σs ah = OwnR i (l σs ah) σs ah := by
  unfold sOwn OwnR bindS
  cases l σs ah <;> rfl
@[simp] theorem OwnR_ok : OwnR i (.ok x) σs ah = .go .nx (σs.set i (.own x)) ah := no_rfl rfl
@[simp] theorem sApp_ev : sApp i f σs ah = AppR i (σs[i]?) (f σs ah) σs ah := by
  unfold sApp AppR bindS
  cases f σs ah <;> rfl
@[simp] theorem AppR_ok (h : d.isBor = false) (h2 : x.length < sizeLine) : AppR i (some (.own x)) (.ok d) σs ah = .go .nx (σs.set i (.own (x ++ [d]))) ah := if_pos ⟨h, h2⟩
@[simp] theorem sFor_ev : sFor it tgt g' σs ah = ForR (it σs ah) tgt g' σs ah := by
  unfold sFor ForR bindS
  cases it σs ah <;> rfl
@[simp] theorem ForR_ok : ForR (.ok ds) tgt g' σs ah = sForL tgt g' ds σs ah := no_rfl rfl
@[simp] theorem forL_nil : sForL tgt g' [] σs ah = .go .nx σs ah := no_rfl rfl
@[simp] theorem loop_nx : (RS.go .nx σs ah).loop k' = k' σs ah := no_rfl rfl
@[simp] theorem loop_ct : (RS.go .ct σs ah).loop k' = k' σs ah := no_rfl rfl
@[simp] theorem loop_bk : (RS.go .bk σs ah).loop k' = .go .nx σs ah := no_rfl rfl
@[simp] theorem loop_ret : (RS.go (.ret d) σs ah).loop k' = .go (.ret d) σs ah := no_rfl rfl
theorem forL_nm (h : d.isBor = false) : sForL (.nm i) g' (d :: ds) σs ah = (g' (σs.set i (.val d)) ah).loop (sForL (.nm i) g' ds) := by
  rw [sForL]
  dsimp only
  simp only [asg_nm h]
  unfold RS.loop
  cases g' (σs.set i (.val d)) ah with
  | go fl σ a => cases fl <;> rfl
  | _ => rfl
theorem forL_tp {is : List Nat} (h : x.length = is.length) : sForL (.tp is) g' (.tup x :: ds) σs ah = (g' (setVs σs is x) ah).loop (sForL (.tp is) g' ds) := by
  rw [sForL]
  dsimp only
  simp only [asg_tp h]
  unfold RS.loop
  cases g' (setVs σs is x) ah with
  | go fl σ a => cases fl <;> rfl
  | _ => rfl
def WhR (r : Res Bool) (σs : List SV) (ah : AH) (s : Sg Bool) (g : Ss) (n : Nat) : RS := match r with
  | .ok true => (g σs ah).loop (sWh s g n)
  | .ok false => .go .nx σs ah
  | .exc c => .exc c σs ah
  | .stuck => .stuck
@[simp] theorem WhR_t : WhR (.ok true) σs ah s g' n = (g' σs ah).loop (sWh s g' n) := no_rfl rfl
@[simp] theorem WhR_f : WhR (.ok false) σs ah s g' n = .go .nx σs ah := no_rfl rfl
theorem sWh_ev : sWh s g' (n + 1) σs ah = WhR (s σs ah) σs ah s g' n := by
  rw [sWh]
  dsimp only
  unfold WhR bindS RS.loop
  cases s σs ah with
  | ok q =>
    cases q with
    | true =>
      show (match g' σs ah with
        | .go .nx σ' a' => sWh s g' n σ' a'
        | .go .ct σ' a' => sWh s g' n σ' a'
        | .go .bk σ' a' => .go .nx σ' a'
        | r => r) = _
      cases g' σs ah with
      | go fl σ a => cases fl <;> rfl
      | _ => rfl
    | false => rfl
  | _ => rfl
@[simp] theorem endF_ret : endF (.go (.ret d) σs ah) = .ok d := no_rfl rfl
@[simp] theorem endF_nx : endF (.go .nx σs ah) = .ok .non := no_rfl rfl
theorem mF_ev {N : Nat} : mF N g' x ah = endF (g' (startS N x) ah) := by
  unfold mF endF
  cases g' (startS N x) ah with
  | go fl σ a => cases fl <;> rfl
  | _ => rfl
theorem start_ev {N : Nat} : startS N x = x.map .val ++ List.replicate (N - x.length) .un := rfl
end
end Rf

set_option Elab.async false
set_option linter.all false
set_option maxRecDepth 100000
set_option maxHeartbeats 4000000
/-! Rf11: loops by what they keep. -/
namespace Rf
open PySem PySem.Spec PyProof.Rows L2
/-- a body that ends as such, its slots as said -/
def RS.Sat (r : RS) (ah : AH) (I : List SV → Prop) : Prop := ∃ σ', r = .go .nx σ' ah ∧ I σ'
@[simp] theorem sat_nx {σ : List SV} {ah : AH} {I : List SV → Prop} : (RS.go .nx σ ah).Sat ah I = I σ := by
  refine propext ⟨?_, fun h => ⟨σ, rfl, h⟩⟩
  rintro ⟨σ', e, h⟩
  cases e
  exact h
theorem forL_ix {Inv : Nat → List SV → Prop} {i n : Nat} {lo : Int} {g : Ss} {σs : List SV} {ah : AH} (h : ∀ k, k < n → ∀ σ, Inv k σ → (g (σ.set i (.val (.int (lo + k)))) ah).Sat ah (Inv (k + 1))) (h0 : Inv 0 σs) :
    (sForL (.nm i) g (rngL lo n) σs ah).Sat ah (Inv n) := by
  have key : ∀ (m k : Nat) (σ : List SV), k + m = n → Inv k σ → (sForL (.nm i) g ((List.range' k m).map fun (i : Nat) => D.int (lo + (i : Int))) σ ah).Sat ah (Inv n) := by
    intro m
    induction m with
    | zero =>
      intro k σ e I
      have e : k = n := by omega
      subst e
      exact ⟨σ, rfl, I⟩
    | succ m ih =>
      intro k σ e I
      obtain ⟨σ', e1, I'⟩ := h k (by omega) σ I
      obtain ⟨σ2, e2, I2⟩ := ih (k + 1) σ' (by omega) I'
      refine ⟨σ2, ?_, I2⟩
      rw [List.range'_succ, List.map_cons, forL_nm rfl, e1, loop_nx]
      exact e2
  obtain ⟨σ', e, I⟩ := key n 0 σs (by omega) h0
  refine ⟨σ', ?_, I⟩
  unfold rngL
  rw [List.range_eq_range']
  exact e
theorem for_rng {P : Res D → Prop} {Inv : Nat → List SV → Prop} {i n : Nat} {lo : Int} {g k : Ss} {σs : List SV} {ah : AH} (h0 : Inv 0 σs) (h : ∀ k, k < n → ∀ σ, Inv k σ → (g (σ.set i (.val (.int (lo + k)))) ah).Sat ah (Inv (k + 1)))
    (fin : ∀ σ', Inv n σ' → P (endF (k σ' ah))) : P (endF ((sForL (.nm i) g (rngL lo n) σs ah).seq k)) := by
  obtain ⟨σ', e, I⟩ := forL_ix h h0
  rw [e]
  exact fin σ' I
/-- over a list that f gives, by a fold over what stands behind it -/
theorem for_map {α : Type} {f : α → D} {P : Res D → Prop} {Inv : List α → List SV → Prop} {i : Nat} {xs : List α} {g k : Ss} {σs : List SV} {ah : AH} (h0 : Inv [] σs) (hb : ∀ x ∈ xs, (f x).isBor = false) (h : ∀ ys x zs, xs = ys ++ x :: zs → ∀ σ, Inv ys σ → (g (σ.set i (.val (f x))) ah).Sat ah (Inv (ys ++ [x])))
    (fin : ∀ σ', Inv xs σ' → P (endF (k σ' ah))) : P (endF ((sForL (.nm i) g (xs.map f) σs ah).seq k)) := by
  have key : ∀ (zs ys : List α) (σ : List SV), xs = ys ++ zs → Inv ys σ → (sForL (.nm i) g (zs.map f) σ ah).Sat ah (Inv xs) := by
    intro zs
    induction zs with
    | nil =>
      intro ys σ e I
      rw [List.append_nil] at e
      subst e
      exact ⟨σ, rfl, I⟩
    | cons x zs ih =>
      intro ys σ e I
      obtain ⟨σ', e1, I'⟩ := h ys x zs e σ I
      obtain ⟨σ2, e2, I2⟩ := ih (ys ++ [x]) σ' (by rw [e, List.append_assoc]; rfl) I'
      refine ⟨σ2, ?_, I2⟩
      rw [List.map_cons, forL_nm (hb x (by rw [e]; simp)), e1, loop_nx]
      exact e2
  obtain ⟨σ', e, I⟩ := key xs [] σs rfl h0
  rw [e]
  exact fin σ' I
/-- a search over a list that f gives: the first item at which the body returns -/
theorem for_find {α : Type} {f : α → D} {P : Res D → Prop} {Inv : List SV → Prop} {i : Nat} {q : α → Bool} {r : α → D} {xs : List α} {g k : Ss} {σs : List SV} {ah : AH} (h0 : Inv σs) (hb : ∀ x ∈ xs, (f x).isBor = false)
    (hn : ∀ x ∈ xs, q x = false → ∀ σ, Inv σ → (g (σ.set i (.val (f x))) ah).Sat ah Inv) (hy : ∀ x ∈ xs, q x = true → ∀ σ, Inv σ → ∃ σ', g (σ.set i (.val (f x))) ah = .go (.ret (r x)) σ' ah)
    (fin : match xs.find? q with | some x => P (.ok (r x)) | none => ∀ σ', Inv σ' → P (endF (k σ' ah))) : P (endF ((sForL (.nm i) g (xs.map f) σs ah).seq k)) := by
  induction xs generalizing σs with
  | nil => exact fin σs h0
  | cons x xs ih =>
    rw [List.map_cons, forL_nm (hb x (List.mem_cons_self ..))]
    cases e : q x with
    | true =>
      obtain ⟨σ', e1⟩ := hy x (List.mem_cons_self ..) e σs h0
      rw [List.find?_cons_of_pos e] at fin
      rw [e1, loop_ret, seq_ret, endF_ret]
      exact fin
    | false =>
      obtain ⟨σ', e1, I'⟩ := hn x (List.mem_cons_self ..) e σs h0
      rw [List.find?_cons_of_neg (by rw [e]; decide)] at fin
      rw [e1, loop_nx]
      exact ih I' (fun y hy' => hb y (List.mem_cons_of_mem _ hy')) (fun y hy' => hn y (List.mem_cons_of_mem _ hy')) (fun y hy' => hy y (List.mem_cons_of_mem _ hy')) fin
/-- while, by a measure -/
theorem while_run {P : Res D → Prop} {Inv : Nat → List SV → Prop} {c : Sg Bool} {b k : Ss} {n : Nat} {σs : List SV} {ah : AH} (m : Nat) (h0 : Inv m σs) (hm : m < n)
    (h : ∀ m σ, Inv m σ → (c σ ah = .ok false ∧ P (endF (k σ ah))) ∨ (c σ ah = .ok true ∧ (b σ ah).Sat ah fun σ' => ∃ m', m' < m ∧ Inv m' σ')) : P (endF ((sWh c b n σs ah).seq k)) := by
  induction n generalizing m σs with
  | zero => omega
  | succ n ih =>
    rw [sWh_ev]
    rcases h m σs h0 with ⟨e, z⟩ | ⟨e, σ', e2, m', hm', I⟩
    · rw [e, WhR_f, seq_nx]
      exact z
    · rw [e, WhR_t, e2, loop_nx]
      exact ih m' I (by omega)
/-- data that _law_alike says is like itself: no list, not too deep -/
def good : Nat → D → Bool
  | 0, _ => false
  | n + 1, .tup l => decide (l.length ≤ sizeLine) && l.all (good n)
  | n + 1, .non => true
  | n + 1, .bl _ => true
  | n + 1, .int _ => true
  | n + 1, .str _ => true
  | n + 1, _ => false
theorem good_bor {n : Nat} {d : D} (h : good n d = true) : d.isBor = false := by
  cases n with
  | zero => cases h
  | succ n => cases d <;> first | rfl | cases h
theorem good_flat : ∀ {n : Nat} {d : D}, good n d = true → d.flat = true
  | 0, _, h => by cases h
  | n + 1, .tup l, h => by
    unfold good at h
    rw [Bool.and_eq_true, List.all_eq_true] at h
    have key : ∀ (l : List D), (∀ x ∈ l, good n x = true) → D.flatL l = true := by
      intro l
      induction l with
      | nil => exact fun _ => rfl
      | cons d l ih =>
        intro z
        show (D.flat d && D.flatL l) = true
        rw [good_flat (z d (List.mem_cons_self ..)), ih fun x hx => z x (List.mem_cons_of_mem _ hx)]
        rfl
    show D.flatL l = true
    exact key l h.2
  | n + 1, .non, h => rfl
  | n + 1, .bl _, h => rfl
  | n + 1, .int _, h => rfl
  | n + 1, .str _, h => rfl
  | n + 1, .lst _, h => by cases h
  | n + 1, .bor _, h => by cases h
  | n + 1, .ob _, h => by cases h
theorem good_up : ∀ {n : Nat} {d : D}, good n d = true → good (n + 1) d = true
  | 0, _, h => by cases h
  | n + 1, .tup l, h => by
    unfold good at h ⊢
    rw [Bool.and_eq_true, List.all_eq_true] at h ⊢
    exact ⟨h.1, fun x hx => good_up (h.2 x hx)⟩
  | n + 1, .non, h => rfl
  | n + 1, .bl _, h => rfl
  | n + 1, .int _, h => rfl
  | n + 1, .str _, h => rfl
  | n + 1, .lst _, h => by cases h
  | n + 1, .bor _, h => by cases h
  | n + 1, .ob _, h => by cases h
theorem good_le {n m : Nat} {d : D} (h : good n d = true) (hm : n ≤ m) : good m d = true := by
  obtain ⟨k, rfl⟩ := Nat.exists_eq_add_of_le hm
  clear hm
  induction k with
  | zero => exact h
  | succ k ih => exact good_up ih
@[simp] theorem good_non {n : Nat} : good (n + 1) .non = true := no_rfl rfl
@[simp] theorem good_bl {n : Nat} {b : Bool} : good (n + 1) (.bl b) = true := no_rfl rfl
@[simp] theorem good_int {n : Nat} {i : Int} : good (n + 1) (.int i) = true := no_rfl rfl
@[simp] theorem good_str {n : Nat} {z : Str} : good (n + 1) (.str z) = true := no_rfl rfl
@[simp] theorem good_tup {n : Nat} {l : List D} : good (n + 1) (.tup l) = (decide (l.length ≤ sizeLine) && l.all (good n)) := no_rfl rfl
theorem atI_mem {α : Type} {l : List α} {i : Int} (h0 : 0 ≤ i) (h : i < l.length) : ∃ d, atI l i = some d ∧ d ∈ l := by
  have z : i.toNat < l.length := by omega
  exact ⟨l[i.toNat], atI_some h0 (List.getElem?_eq_getElem z), List.getElem_mem z⟩
/-- one item of a comprehension, by what the test and the element are -/
def LcI : Res Bool → Res D → Res (Option D)
  | .ok true, .ok y => if y.isBor = false then .ok (some y) else .stuck
  | .ok false, _ => .ok none
  | _, _ => .stuck
theorem LcI_ok {b : Bool} {y : D} (h : y.isBor = false) : LcI (.ok b) (.ok y) = .ok (if b = true then some y else none) := by
  cases b with
  | true => exact if_pos h
  | false => rfl
@[simp] theorem LcI_t {y : D} (h : y.isBor = false) : LcI (.ok true) (.ok y) = .ok (some y) := if_pos h
@[simp] theorem LcI_f {r : Res D} : LcI (.ok false) r = .ok none := no_rfl rfl
@[simp] theorem sYes_ev {σ : List SV} {ah : AH} : sYes σ ah = .ok true := no_rfl rfl
theorem lcItem_nm {i : Nat} {cond : Sg Bool} {elt : Sg D} {σ : List SV} {ah : AH} {d : D} (h : d.isBor = false) : lcItem (.nm i) cond elt σ ah d = LcI (cond (σ.set i (.val d)) ah) (elt (σ.set i (.val d)) ah) := by
  unfold lcItem
  rw [asg_nm h, Res.bind_ok]
  cases cond (σ.set i (.val d)) ah with
  | ok b =>
    cases b with
    | true =>
      cases elt (σ.set i (.val d)) ah <;> rfl
    | false => rfl
  | _ => rfl
theorem lcItem_tp {is : List Nat} {cond : Sg Bool} {elt : Sg D} {σ : List SV} {ah : AH} {x : List D} (h : x.length = is.length) : lcItem (.tp is) cond elt σ ah (.tup x) = LcI (cond (setVs σ is x) ah) (elt (setVs σ is x) ah) := by
  unfold lcItem
  rw [asg_tp h, Res.bind_ok]
  cases cond (setVs σ is x) ah with
  | ok b =>
    cases b with
    | true =>
      cases elt (setVs σ is x) ah <;> rfl
    | false => rfl
  | _ => rfl
section
variable {α : Type} {f : α → D} {g : α → Option D} {q : α → Bool} {xs : List α} {vs : List Nat} {tgt : Tgt} {cond : Sg Bool} {elt : Sg D} {σs : List SV} {ah : AH}
theorem Rlc_map (hl : xs.length ≤ sizeLine) (h : ∀ x ∈ xs, lcItem tgt cond elt (wipeS σs vs) ah (f x) = .ok (g x)) : Rlc (.ok (xs.map f)) vs tgt cond elt σs ah = .ok (xs.filterMap g) := by
  unfold Rlc
  rw [Res.bind_ok, if_pos (by rw [List.length_map]; exact hl)]
  have key : ∀ (ys : List α), (∀ x ∈ ys, x ∈ xs) → lcD (lcItem tgt cond elt (wipeS σs vs) ah) (ys.map f) = .ok (ys.filterMap g) := by
    intro ys
    induction ys with
    | nil => exact fun _ => rfl
    | cons y ys ih =>
      intro hy
      rw [List.map_cons]
      unfold lcD
      rw [h y (hy y (List.mem_cons_self ..)), Res.bind_ok, ih fun x hx => hy x (List.mem_cons_of_mem _ hx), Res.bind_ok]
      cases e : g y with
      | none => simp [List.filterMap_cons, e]
      | some z => simp [List.filterMap_cons, e]
  rw [key xs fun _ h => h]
  rfl
theorem Rlc_filter (q : α → Bool) (hl : xs.length ≤ sizeLine) (h : ∀ x ∈ xs, lcItem tgt cond elt (wipeS σs vs) ah (f x) = .ok (if q x = true then some (f x) else none)) : Rlc (.ok (xs.map f)) vs tgt cond elt σs ah = .ok ((xs.filter q).map f) := by
  rw [Rlc_map hl h]
  congr 1
  clear h hl
  induction xs with
  | nil => rfl
  | cons x xs ih =>
    cases e : q x with
    | true => simp [List.filterMap_cons, List.filter_cons, e, ih]
    | false => simp [List.filterMap_cons, List.filter_cons, e, ih]
theorem Rlc_each (g : α → D) (hl : xs.length ≤ sizeLine) (h : ∀ x ∈ xs, lcItem tgt cond elt (wipeS σs vs) ah (f x) = .ok (some (g x))) : Rlc (.ok (xs.map f)) vs tgt cond elt σs ah = .ok (xs.map g) := by
  rw [Rlc_map hl h]
  congr 1
  clear h hl
  induction xs with
  | nil => rfl
  | cons x xs ih => simp [List.filterMap_cons, ih]
end
theorem seq_sat {P : Res D → Prop} {Q : List SV → Prop} {r : RS} {k : Ss} {ah : AH} (h : r.Sat ah Q) (fin : ∀ σ', Q σ' → P (endF (k σ' ah))) : P (endF (r.seq k)) := by
  obtain ⟨σ', e, z⟩ := h
  rw [e]
  exact fin σ' z
theorem bSortK0_own {ds : List D} (h : ds.all isKey0 = true) (hl : ds.length ≤ sizeLine) : bSortK0 (.bor ds) = .ok (.lst (sortK0 ds)) := if_pos ⟨h, hl⟩
theorem good_of {n : Nat} {l : List D} (hl : l.length ≤ 16777216) (h : ∀ d ∈ l, good n d = true) : good (n + 1) (.tup l) = true := by
  rw [good_tup, Bool.and_eq_true, List.all_eq_true]
  exact ⟨decide_eq_true hl, h⟩
theorem call2 {m : List D → AH → Res D} {ah : AH} {a b : D} (ha : a.isBor = false) (hb : b.isBor = false) : callR 2 m ah [a, b] = m [a, b] ah := call_val rfl (by simp [ha, hb])
theorem small {n : Nat} (h : n ≤ 16777216) : n ≤ sizeLine := h
end Rf

set_option Elab.async false
set_option linter.all false
set_option maxRecDepth 100000
set_option maxHeartbeats 4000000
/-! Rf12: more to evaluate with. -/
namespace Rf
open PySem PySem.Spec PyProof.Rows L2
theorem eqB_p {a b c d : Int} : eqB (.tup [.int a, .int b]) (.tup [.int c, .int d]) = .ok (decide (a = c) && decide (b = d)) := by
  show eqG (.tup [.int a, .int b]) (.tup [.int c, .int d]) = _
  unfold eqG
  simp [D.pd, D.pdL, SeqAt.shaped, PyData.eqv, PyData.eqvAll, PyData.canLay0, PyData.canLayAll0, PyData.depth, PyData.depthAll, Bool.beq_eq_decide_eq]
@[simp] theorem opSl_tup {l : List D} {lo hi : Option Int} : opSl lo hi (.tup l) = .ok (.tup (cutL l lo hi)) := no_rfl rfl
@[simp] theorem opSl_lst {l : List D} {lo hi : Option Int} : opSl lo hi (.lst l) = .ok (.lst (cutL l lo hi)) := no_rfl rfl
@[simp] theorem opSl_bor {l : List D} {lo hi : Option Int} : opSl lo hi (.bor l) = .ok (.lst (cutL l lo hi)) := no_rfl rfl
@[simp] theorem cut43 {α : Type} {a b c d : α} : cutL [a, b, c, d] none (some 3) = [a, b, c] := no_rfl rfl
end Rf

set_option Elab.async false
set_option linter.all false
set_option maxRecDepth 100000
set_option maxHeartbeats 4000000
/-! Each def of the text has that meaning. Printed by gen.py. -/
namespace Lk
open PySem PySem.Spec PyProof.Rows L2 Rf Mx
def top (i : Nat) : Stmt := PySem.Challenge.pw_oneslate_k23_a_tell_heard.main.body.getD i (.Pass ⟨0, 0, 0, 0⟩)
abbrev s0 : Stmt := top 1
abbrev s1 : Stmt := top 4
abbrev s2 : Stmt := top 5
abbrev s3 : Stmt := top 6
abbrev s4 : Stmt := top 8
abbrev s5 : Stmt := top 9
abbrev s6 : Stmt := top 10
abbrev s7 : Stmt := top 11
abbrev s8 : Stmt := top 12
abbrev s9 : Stmt := top 13
abbrev s10 : Stmt := top 14
abbrev s11 : Stmt := top 15
abbrev s12 : Stmt := top 16
abbrev s13 : Stmt := top 17
abbrev FnP (K : PySem.W.Frag) (x q : Str) (st : Stmt) (f : Addr) (fd : FuncData) : Prop := FunD K x q (defArgs st) (defBody st) (defScope st) [] [] f fd
section
variable {P : Program} {w : World} {K : PySem.W.Frag} {mg : Str → Option Value} {base : Heap}
theorem sc_answer_to : FnScope ["letter", "word", "load"] ["letter", "word", "load"] (defScope s0) := ⟨rfl, rfl, rfl, by decide +kernel, rfl, by decide +kernel, by decide +kernel⟩
theorem sc_page_of : FnScope ["book", "epoch", "row"] ["book", "epoch"] (defScope s1) := ⟨rfl, rfl, rfl, by decide +kernel, rfl, by decide +kernel, by decide +kernel⟩
theorem sc_with_page : FnScope ["book", "epoch", "promised", "kept", "slate", "before", "behind", "row"] ["book", "epoch", "promised", "kept", "slate"] (defScope s2) := ⟨rfl, rfl, rfl, by decide +kernel, rfl, by decide +kernel, by decide +kernel⟩
theorem sc_heard : FnScope ["book", "letter", "epoch", "stamp", "promised", "kept", "slate"] ["book", "letter"] (defScope s3) := ⟨rfl, rfl, rfl, by decide +kernel, rfl, by decide +kernel, by decide +kernel⟩
theorem sc_law_cell_at : FnScope ["script", "k"] ["script", "k"] (defScope s4) := ⟨rfl, rfl, rfl, by decide +kernel, rfl, by decide +kernel, by decide +kernel⟩
theorem sc_law_alike : FnScope ["found", "due", "k"] ["found", "due"] (defScope s5) := ⟨rfl, rfl, rfl, by decide +kernel, rfl, by decide +kernel, by decide +kernel⟩
theorem sc_law_name : FnScope ["cell", "size", "name"] ["cell"] (defScope s6) := ⟨rfl, rfl, rfl, by decide +kernel, rfl, by decide +kernel, by decide +kernel⟩
theorem sc_law_slate : FnScope ["cell", "cells", "doing", "lease"] ["cell"] (defScope s7) := ⟨rfl, rfl, rfl, by decide +kernel, rfl, by decide +kernel, by decide +kernel⟩
theorem sc_law_near : FnScope ["stamp", "cell", "way"] ["stamp", "cell"] (defScope s8) := ⟨rfl, rfl, rfl, by decide +kernel, rfl, by decide +kernel, by decide +kernel⟩
theorem sc_law_row : FnScope ["epoch", "cell", "promised", "way"] ["epoch", "cell"] (defScope s9) := ⟨rfl, rfl, rfl, by decide +kernel, rfl, by decide +kernel, by decide +kernel⟩
theorem sc_law_book : FnScope ["script", "k", "rows", "epoch", "j"] ["script", "k"] (defScope s10) := ⟨rfl, rfl, rfl, by decide +kernel, rfl, by decide +kernel, by decide +kernel⟩
theorem sc_law_epoch : FnScope ["row"] ["row"] (defScope s11) := ⟨rfl, rfl, rfl, by decide +kernel, rfl, by decide +kernel, by decide +kernel⟩
theorem sc_law_load : FnScope ["cell", "deed"] ["cell"] (defScope s12) := ⟨rfl, rfl, rfl, by decide +kernel, rfl, by decide +kernel, by decide +kernel⟩
theorem sc_law : FnScope ["script", "book", "epoch", "old", "row", "stamp", "keeper", "load", "found", "rows", "due"] ["script"] (defScope s13) := ⟨rfl, rfl, rfl, by decide +kernel, rfl, by decide +kernel, by decide +kernel⟩
theorem ok_answer_to  {f : Addr} {fd : FuncData} (g : mg "answer_to" = some (.ref f)) (Fd : FnP K "answer_to" "answer_to" s0 f fd) : FnF P w K mg base "answer_to" 3 1 m_answer_to := by
  have hB : Binds K fd ["letter", "word", "load"] [] := FunD.bindsN Fd fun _ _ _ _ _ _ us hl => match us, hl with | [_, _, _], _ => rfl
  refine ⟨f, fd, ["letter", "word", "load"], g, Fd.kp, hB, fn_ro (k := 0) Fd sc_answer_to rfl fun cdv A outer s H E hr => ?_⟩
  have nd := (sc_answer_to).nd
  exact fss_cons (fs_ret (fe_tup (fa_cons (fe_var 1) (fa_cons (fe_ix (fe_var 0) (fe_int)) (fa_cons (fe_ix (fe_var 0) (fe_int)) (fa_cons (fe_ix (fe_var 0) (fe_int)) (fa_cons (fe_ix (fe_var 0) (fe_int)) (fa_cons (fe_var 2) (fa_nil))))))))) (fss_nil)
theorem ok_page_of (c_NOUGHT : ∃ a, mg "NOUGHT" = some (.ref a) ∧ ∀ H : Hp, SqT K H a (([0, 0] : List Int).map V.int)) {f : Addr} {fd : FuncData} (g : mg "page_of" = some (.ref f)) (Fd : FnP K "page_of" "page_of" s1 f fd) : FnF P w K mg base "page_of" 2 1 m_page_of := by
  have hB : Binds K fd ["book", "epoch"] [] := FunD.bindsN Fd fun _ _ _ _ _ _ us hl => match us, hl with | [_, _], _ => rfl
  refine ⟨f, fd, ["book", "epoch"], g, Fd.kp, hB, fn_ro (k := 0) Fd sc_page_of rfl fun cdv A outer s H E hr => ?_⟩
  have nd := (sc_page_of).nd
  exact fss_cons (fs_for (tgt := .nm 2) (fi_seq true (fe_var 0)) (fg_nm 2 nd) (fss_cons (fs_if (ft_eq (fe_ix (fe_var 2) (fe_int)) (fe_var 1)) (fss_cons (fs_ret (fe_tup (fa_cons (fe_ix (fe_var 2) (fe_int)) (fa_cons (fe_ix (fe_var 2) (fe_int)) (fa_cons (fe_ix (fe_var 2) (fe_int)) (fa_nil)))))) (fss_nil)) (fss_nil)) (fss_nil))) (fss_cons (fs_ret (fe_tup (fa_cons (fe_gtup (ns := [0, 0]) c_NOUGHT) (fa_cons (fe_gtup (ns := [0, 0]) c_NOUGHT) (fa_cons (fe_non) (fa_nil)))))) (fss_nil))
theorem ok_with_page (fr_tuple : mg "tuple" = none) {f : Addr} {fd : FuncData} (g : mg "with_page" = some (.ref f)) (Fd : FnP K "with_page" "with_page" s2 f fd) : FnF P w K mg base "with_page" 5 1 m_with_page := by
  have hB : Binds K fd ["book", "epoch", "promised", "kept", "slate"] [] := FunD.bindsN Fd fun _ _ _ _ _ _ us hl => match us, hl with | [_, _, _, _, _], _ => rfl
  refine ⟨f, fd, ["book", "epoch", "promised", "kept", "slate"], g, Fd.kp, hB, fn_ro (k := 0) Fd sc_with_page rfl fun cdv A outer s H E hr => ?_⟩
  have nd := (sc_with_page).nd
  exact fss_cons (fs_setLc 5 (own := [("row", 7)]) (tgt := .nm 7) (fi_seq false (fe_var 0)) (show blkC ["book", "epoch", "promised", "kept", "slate", "before", "behind", "row"] (defScope s2) _ [("row", 7)] = true from by decide +kernel) (by decide) (fun _ _ _ _ _ => fg_nm 7 nd) (fun _ _ _ _ _ => fts_one (ft_lt (fe_ix (fe_var 7) (fe_int)) (fe_var 1))) (fun _ _ _ _ _ => fe_var 7)) (fss_cons (fs_setLc 6 (own := [("row", 7)]) (tgt := .nm 7) (fi_seq false (fe_var 0)) (show blkC ["book", "epoch", "promised", "kept", "slate", "before", "behind", "row"] (defScope s2) _ [("row", 7)] = true from by decide +kernel) (by decide) (fun _ _ _ _ _ => fg_nm 7 nd) (fun _ _ _ _ _ => fts_one (ft_gt (fe_ix (fe_var 7) (fe_int)) (fe_var 1))) (fun _ _ _ _ _ => fe_var 7)) (fss_cons (fs_ret (fe_tuple fr_tuple (fa_cons (fe_add (fe_add (fe_var 5) (fe_lst (fa_cons (fe_tup (fa_cons (fe_var 1) (fa_cons (fe_var 2) (fa_cons (fe_var 3) (fa_cons (fe_var 4) (fa_nil)))))) (fa_nil)))) (fe_var 6)) (fa_nil)))) (fss_nil)))
theorem ok_heard (C_answer_to : FnF P w K mg base "answer_to" 3 1 m_answer_to) (C_page_of : FnF P w K mg base "page_of" 2 1 m_page_of) (C_with_page : FnF P w K mg base "with_page" 5 1 m_with_page) {f : Addr} {fd : FuncData} (g : mg "heard" = some (.ref f)) (Fd : FnP K "heard" "heard" s3 f fd) : FnF P w K mg base "heard" 2 2 m_heard := by
  have hB : Binds K fd ["book", "letter"] [] := FunD.bindsN Fd fun _ _ _ _ _ _ us hl => match us, hl with | [_, _], _ => rfl
  refine ⟨f, fd, ["book", "letter"], g, Fd.kp, hB, fn_ro (k := 1) Fd sc_heard rfl fun cdv A outer s H E hr => ?_⟩
  have nd := (sc_heard).nd
  exact fss_cons (fs_set (fe_ix (fe_var 1) (fe_int)) (fg_nm 2 nd)) (fss_cons (fs_set (fe_ix (fe_var 1) (fe_int)) (fg_nm 3 nd)) (fss_cons (fs_set (fe_call (np := 2) (C_page_of.mono (by decide)) hr (fa_cons (fe_var 0) (fa_cons (fe_var 2) (fa_nil)))) (fg_tp (is := [4, 5, 6]) (fgs_cons 4 nd (fgs_cons 5 nd (fgs_cons 6 nd (fgs_nil)))))) (fss_cons (fs_if (ft_and (ft_eq (fe_ix (fe_var 1) (fe_int)) (fe_str)) (fw_and1 (ft_gt (fe_var 3) (fe_var 4)))) (fss_cons (fs_ret (fe_tup (fa_cons (fe_call (np := 5) (C_with_page.mono (by decide)) hr (fa_cons (fe_var 0) (fa_cons (fe_var 2) (fa_cons (fe_var 3) (fa_cons (fe_var 5) (fa_cons (fe_var 6) (fa_nil))))))) (fa_cons (fe_call (np := 3) (C_answer_to.mono (by decide)) hr (fa_cons (fe_var 1) (fa_cons (fe_str) (fa_cons (fe_tup (fa_cons (fe_var 5) (fa_cons (fe_var 6) (fa_nil)))) (fa_nil))))) (fa_nil))))) (fss_nil)) (fss_nil)) (fss_cons (fs_if (ft_and (ft_eq (fe_ix (fe_var 1) (fe_int)) (fe_str)) (fw_and1 (ft_ge (fe_var 3) (fe_var 4)))) (fss_cons (fs_ret (fe_tup (fa_cons (fe_call (np := 5) (C_with_page.mono (by decide)) hr (fa_cons (fe_var 0) (fa_cons (fe_var 2) (fa_cons (fe_var 3) (fa_cons (fe_var 3) (fa_cons (fe_ix (fe_ix (fe_var 1) (fe_int)) (fe_int)) (fa_nil))))))) (fa_cons (fe_call (np := 3) (C_answer_to.mono (by decide)) hr (fa_cons (fe_var 1) (fa_cons (fe_str) (fa_cons (fe_tup (fa_nil)) (fa_nil))))) (fa_nil))))) (fss_nil)) (fss_nil)) (fss_cons (fs_ret (fe_tup (fa_cons (fe_var 0) (fa_cons (fe_call (np := 3) (C_answer_to.mono (by decide)) hr (fa_cons (fe_var 1) (fa_cons (fe_str) (fa_cons (fe_tup (fa_cons (fe_var 4) (fa_nil))) (fa_nil))))) (fa_nil))))) (fss_nil))))))
theorem ok_law_cell_at (fr_len : mg "len" = none) {f : Addr} {fd : FuncData} (g : mg "_law_cell_at" = some (.ref f)) (Fd : FnP K "_law_cell_at" "_law_cell_at" s4 f fd) : FnF P w K mg base "_law_cell_at" 2 1 m_law_cell_at := by
  have hB : Binds K fd ["script", "k"] [] := FunD.bindsN Fd fun _ _ _ _ _ _ us hl => match us, hl with | [_, _], _ => rfl
  refine ⟨f, fd, ["script", "k"], g, Fd.kp, hB, fn_ro (k := 0) Fd sc_law_cell_at rfl fun cdv A outer s H E hr => ?_⟩
  have nd := (sc_law_cell_at).nd
  exact fss_cons (fs_if (ft_lt (fe_var 1) (fe_len fr_len (fa_cons (fe_var 0) (fa_nil)))) (fss_cons (fs_ret (fe_ix (fe_var 0) (fe_var 1))) (fss_nil)) (fss_nil)) (fss_cons (fs_ret (fe_int)) (fss_nil))
theorem ok_law_alike_n (fr_bool : mg "bool" = none) (fr_int : mg "int" = none) (fr_isinstance : mg "isinstance" = none) (fr_len : mg "len" = none) (fr_list : mg "list" = none) (fr_range : mg "range" = none) (fr_str : mg "str" = none) (fr_tuple : mg "tuple" = none) {f : Addr} {fd : FuncData} (g : mg "_law_alike" = some (.ref f)) (Fd : FnP K "_law_alike" "_law_alike" s5 f fd) : ∀ n, FnF P w K mg base "_law_alike" 2 (0 + n) (m_law_alike n)
  | 0 => by
    have hB : Binds K fd ["found", "due"] [] := FunD.bindsN Fd fun _ _ _ _ _ _ us hl => match us, hl with | [_, _], _ => rfl
    exact fnF_stuck g Fd.kp hB
  | n + 1 => by
    have Cself := ok_law_alike_n fr_bool fr_int fr_isinstance fr_len fr_list fr_range fr_str fr_tuple g Fd n
    have hB : Binds K fd ["found", "due"] [] := FunD.bindsN Fd fun _ _ _ _ _ _ us hl => match us, hl with | [_, _], _ => rfl
    refine ⟨f, fd, ["found", "due"], g, Fd.kp, hB, fn_ro (k := 0 + n) Fd sc_law_alike rfl fun cdv A outer s H E hr => ?_⟩
    have nd := (sc_law_alike).nd
    exact fss_cons (fs_if (ft_isN (fe_var 1) (fe_non)) (fss_cons (fs_ret (fe_isN (fe_var 0) (fe_non))) (fss_nil)) (fss_nil)) (fss_cons (fs_if (ft_tru (fe_isi "bool" (by decide +kernel) (kit_bool _) fr_isinstance fr_bool (fe_var 1))) (fss_cons (fs_ret (fe_and (fe_isi "bool" (by decide +kernel) (kit_bool _) fr_isinstance fr_bool (fe_var 0)) (fe_one (fe_eq (fe_var 0) (fe_var 1))))) (fss_nil)) (fss_nil)) (fss_cons (fs_if (ft_tru (fe_isi "int" (by decide +kernel) (kit_int _) fr_isinstance fr_int (fe_var 1))) (fss_cons (fs_ret (fe_and (fe_isi "int" (by decide +kernel) (kit_int _) fr_isinstance fr_int (fe_var 0)) (fe_and (fe_not (fe_isi "bool" (by decide +kernel) (kit_bool _) fr_isinstance fr_bool (fe_var 0))) (fe_one (fe_eq (fe_var 0) (fe_var 1)))))) (fss_nil)) (fss_nil)) (fss_cons (fs_if (ft_tru (fe_isi "str" (by decide +kernel) (kit_str _) fr_isinstance fr_str (fe_var 1))) (fss_cons (fs_ret (fe_and (fe_isi "str" (by decide +kernel) (kit_str _) fr_isinstance fr_str (fe_var 0)) (fe_one (fe_eq (fe_var 0) (fe_var 1))))) (fss_nil)) (fss_nil)) (fss_cons (fs_if (ft_and (ft_tru (fe_isi "tuple" (by decide +kernel) (kit_tuple _) fr_isinstance fr_tuple (fe_var 1))) (fw_and1 (ft_not (ft_tru (fe_isi "tuple" (by decide +kernel) (kit_tuple _) fr_isinstance fr_tuple (fe_var 0)))))) (fss_cons (fs_ret (fe_bl)) (fss_nil)) (fss_nil)) (fss_cons (fs_if (ft_and (ft_tru (fe_isi "list" (by decide +kernel) (kit_list _) fr_isinstance fr_list (fe_var 1))) (fw_and1 (ft_not (ft_tru (fe_isi "list" (by decide +kernel) (kit_list _) fr_isinstance fr_list (fe_var 0)))))) (fss_cons (fs_ret (fe_bl)) (fss_nil)) (fss_nil)) (fss_cons (fs_if (ft_ne (fe_len fr_len (fa_cons (fe_var 0) (fa_nil))) (fe_len fr_len (fa_cons (fe_var 1) (fa_nil)))) (fss_cons (fs_ret (fe_bl)) (fss_nil)) (fss_nil)) (fss_cons (fs_for (tgt := .nm 2) (fi_rng1 true fr_range (fa_cons (fe_len fr_len (fa_cons (fe_var 1) (fa_nil))) (fa_nil))) (fg_nm 2 nd) (fss_cons (fs_if (ft_not (ft_tru (fe_call (np := 2) Cself hr (fa_cons (fe_ix (fe_var 0) (fe_var 2)) (fa_cons (fe_ix (fe_var 1) (fe_var 2)) (fa_nil)))))) (fss_cons (fs_ret (fe_bl)) (fss_nil)) (fss_nil)) (fss_nil))) (fss_cons (fs_ret (fe_bl)) (fss_nil)))))))))
theorem ok_law_alike (fr_bool : mg "bool" = none) (fr_int : mg "int" = none) (fr_isinstance : mg "isinstance" = none) (fr_len : mg "len" = none) (fr_list : mg "list" = none) (fr_range : mg "range" = none) (fr_str : mg "str" = none) (fr_tuple : mg "tuple" = none) {f : Addr} {fd : FuncData} (g : mg "_law_alike" = some (.ref f)) (Fd : FnP K "_law_alike" "_law_alike" s5 f fd) : FnF P w K mg base "_law_alike" 2 40 (m_law_alike 40) := ok_law_alike_n fr_bool fr_int fr_isinstance fr_len fr_list fr_range fr_str fr_tuple g Fd 40
theorem ok_law_name (fr_len : mg "len" = none) {f : Addr} {fd : FuncData} (g : mg "_law_name" = some (.ref f)) (Fd : FnP K "_law_name" "_law_name" s6 f fd) : FnF P w K mg base "_law_name" 1 1 m_law_name := by
  have hB : Binds K fd ["cell"] [] := FunD.bindsN Fd fun _ _ _ _ _ _ us hl => match us, hl with | [_], _ => rfl
  refine ⟨f, fd, ["cell"], g, Fd.kp, hB, fn_ro (k := 0) Fd sc_law_name rfl fun cdv A outer s H E hr => ?_⟩
  have nd := (sc_law_name).nd
  exact fss_cons (fs_set (fe_add (fe_int) (fe_mod (fe_var 0) (fe_int))) (fg_nm 1 nd)) (fss_cons (fs_set (fe_str) (fg_nm 2 nd)) (fss_cons (fs_while 100000 (ft_lt (fe_len fr_len (fa_cons (fe_var 2) (fa_nil))) (fe_var 1)) (fss_cons (fs_set (fe_add (fe_var 2) (fe_ix (fe_str) (fe_mod (fe_div (fe_var 0) (fe_int)) (fe_int)))) (fg_nm 2 nd)) (fss_cons (fs_set (fe_div (fe_var 0) (fe_int)) (fg_nm 0 nd)) (fss_nil)))) (fss_cons (fs_ret (fe_var 2)) (fss_nil))))
theorem ok_law_slate (C_law_name : FnF P w K mg base "_law_name" 1 1 m_law_name) {f : Addr} {fd : FuncData} (g : mg "_law_slate" = some (.ref f)) (Fd : FnP K "_law_slate" "_law_slate" s7 f fd) : FnF P w K mg base "_law_slate" 1 2 m_law_slate := by
  have hB : Binds K fd ["cell"] [] := FunD.bindsN Fd fun _ _ _ _ _ _ us hl => match us, hl with | [_], _ => rfl
  refine ⟨f, fd, ["cell"], g, Fd.kp, hB, fn_ro (k := 1) Fd sc_law_slate rfl fun cdv A outer s H E hr => ?_⟩
  have nd := (sc_law_slate).nd
  exact fss_cons (fs_set (fe_tup (fa_nil)) (fg_nm 1 nd)) (fss_cons (fs_if (ft_gt (fe_mod (fe_var 0) (fe_int)) (fe_int)) (fss_cons (fs_set (fe_tup (fa_cons (fe_tup (fa_cons (fe_call (np := 1) (C_law_name.mono (by decide)) hr (fa_cons (fe_div (fe_var 0) (fe_int)) (fa_nil))) (fa_cons (fe_add (fe_int) (fe_mod (fe_var 0) (fe_pow (fe_int) (fe_int)))) (fa_nil)))) (fa_nil))) (fg_nm 1 nd)) (fss_nil)) (fss_nil)) (fss_cons (fs_set (fe_tup (fa_cons (fe_mod (fe_div (fe_var 0) (fe_int)) (fe_int)) (fa_cons (fe_add (fe_int) (fe_mod (fe_div (fe_var 0) (fe_int)) (fe_int))) (fa_cons (fe_mod (fe_var 0) (fe_pow (fe_int) (fe_int))) (fa_nil))))) (fg_nm 2 nd)) (fss_cons (fs_set (fe_tup (fa_cons (fe_mod (fe_div (fe_var 0) (fe_int)) (fe_int)) (fa_cons (fe_ix (fe_lst (fa_cons (fe_non) (fa_cons (fe_int) (fa_cons (fe_int) (fa_nil))))) (fe_mod (fe_div (fe_var 0) (fe_int)) (fe_int))) (fa_nil)))) (fg_nm 3 nd)) (fss_cons (fs_ret (fe_tup (fa_cons (fe_var 1) (fa_cons (fe_tup (fa_cons (fe_var 2) (fa_nil))) (fa_cons (fe_var 3) (fa_cons (fe_ix (fe_lst (fa_cons (fe_non) (fa_cons (fe_str) (fa_cons (fe_tup (fa_cons (fe_tup (fa_cons (fe_int) (fa_cons (fe_tup (fa_cons (fe_int) (fa_cons (fe_int) (fa_cons (fe_int) (fa_nil))))) (fa_nil)))) (fa_cons (fe_tup (fa_cons (fe_int) (fa_cons (fe_tup (fa_cons (fe_int) (fa_cons (fe_int) (fa_cons (fe_int) (fa_nil))))) (fa_nil)))) (fa_nil)))) (fa_nil))))) (fe_mod (fe_div (fe_var 0) (fe_int)) (fe_int))) (fa_nil))))))) (fss_nil)))))
theorem ok_law_near (fr_max : mg "max" = none) {f : Addr} {fd : FuncData} (g : mg "_law_near" = some (.ref f)) (Fd : FnP K "_law_near" "_law_near" s8 f fd) : FnF P w K mg base "_law_near" 2 1 m_law_near := by
  have hB : Binds K fd ["stamp", "cell"] [] := FunD.bindsN Fd fun _ _ _ _ _ _ us hl => match us, hl with | [_, _], _ => rfl
  refine ⟨f, fd, ["stamp", "cell"], g, Fd.kp, hB, fn_ro (k := 0) Fd sc_law_near rfl fun cdv A outer s H E hr => ?_⟩
  have nd := (sc_law_near).nd
  exact fss_cons (fs_set (fe_mod (fe_var 1) (fe_int)) (fg_nm 2 nd)) (fss_cons (fs_if (ft_and (ft_eq (fe_var 2) (fe_int)) (fw_and1 (ft_gt (fe_ix (fe_var 0) (fe_int)) (fe_int)))) (fss_cons (fs_ret (fe_var 0)) (fss_nil)) (fss_nil)) (fss_cons (fs_if (ft_eq (fe_var 2) (fe_int)) (fss_cons (fs_ret (fe_tup (fa_cons (fe_add (fe_ix (fe_var 0) (fe_int)) (fe_int)) (fa_cons (fe_mod (fe_div (fe_var 1) (fe_int)) (fe_int)) (fa_nil))))) (fss_nil)) (fss_nil)) (fss_cons (fs_if (ft_eq (fe_var 2) (fe_int)) (fss_cons (fs_ret (fe_tup (fa_cons (fe_max2 fr_max (fa_cons (fe_int) (fa_cons (fe_sub (fe_ix (fe_var 0) (fe_int)) (fe_int)) (fa_nil)))) (fa_cons (fe_mod (fe_div (fe_var 1) (fe_int)) (fe_int)) (fa_nil))))) (fss_nil)) (fss_nil)) (fss_cons (fs_if (ft_eq (fe_var 2) (fe_int)) (fss_cons (fs_ret (fe_tup (fa_cons (fe_max2 fr_max (fa_cons (fe_int) (fa_cons (fe_ix (fe_var 0) (fe_int)) (fa_nil)))) (fa_cons (fe_mod (fe_div (fe_var 1) (fe_int)) (fe_int)) (fa_nil))))) (fss_nil)) (fss_nil)) (fss_cons (fs_ret (fe_tup (fa_cons (fe_add (fe_int) (fe_mod (fe_div (fe_var 1) (fe_int)) (fe_pow (fe_int) (fe_int)))) (fa_cons (fe_mod (fe_div (fe_var 1) (fe_int)) (fe_int)) (fa_nil))))) (fss_nil))))))
theorem ok_law_row (C_law_slate : FnF P w K mg base "_law_slate" 1 2 m_law_slate) {f : Addr} {fd : FuncData} (g : mg "_law_row" = some (.ref f)) (Fd : FnP K "_law_row" "_law_row" s9 f fd) : FnF P w K mg base "_law_row" 2 3 m_law_row := by
  have hB : Binds K fd ["epoch", "cell"] [] := FunD.bindsN Fd fun _ _ _ _ _ _ us hl => match us, hl with | [_, _], _ => rfl
  refine ⟨f, fd, ["epoch", "cell"], g, Fd.kp, hB, fn_ro (k := 2) Fd sc_law_row rfl fun cdv A outer s H E hr => ?_⟩
  have nd := (sc_law_row).nd
  exact fss_cons (fs_set (fe_tup (fa_cons (fe_add (fe_int) (fe_mod (fe_var 1) (fe_pow (fe_int) (fe_int)))) (fa_cons (fe_mod (fe_div (fe_var 1) (fe_int)) (fe_int)) (fa_nil)))) (fg_nm 2 nd)) (fss_cons (fs_set (fe_mod (fe_div (fe_var 1) (fe_int)) (fe_int)) (fg_nm 3 nd)) (fss_cons (fs_if (ft_eq (fe_var 3) (fe_int)) (fss_cons (fs_ret (fe_tup (fa_cons (fe_var 0) (fa_cons (fe_var 2) (fa_cons (fe_tup (fa_cons (fe_int) (fa_cons (fe_int) (fa_nil)))) (fa_cons (fe_non) (fa_nil))))))) (fss_nil)) (fss_nil)) (fss_cons (fs_if (ft_eq (fe_var 3) (fe_int)) (fss_cons (fs_ret (fe_tup (fa_cons (fe_var 0) (fa_cons (fe_var 2) (fa_cons (fe_var 2) (fa_cons (fe_call (np := 1) (C_law_slate.mono (by decide)) hr (fa_cons (fe_div (fe_var 1) (fe_int)) (fa_nil))) (fa_nil))))))) (fss_nil)) (fss_nil)) (fss_cons (fs_ret (fe_tup (fa_cons (fe_var 0) (fa_cons (fe_var 2) (fa_cons (fe_tup (fa_cons (fe_add (fe_int) (fe_mod (fe_div (fe_var 1) (fe_int)) (fe_ix (fe_var 2) (fe_int)))) (fa_cons (fe_int) (fa_nil)))) (fa_cons (fe_call (np := 1) (C_law_slate.mono (by decide)) hr (fa_cons (fe_div (fe_var 1) (fe_int)) (fa_nil))) (fa_nil))))))) (fss_nil)))))
theorem ok_law_book (fr_range : mg "range" = none) (fr_tuple : mg "tuple" = none) (C_law_cell_at : FnF P w K mg base "_law_cell_at" 2 1 m_law_cell_at) (C_law_row : FnF P w K mg base "_law_row" 2 3 m_law_row) {f : Addr} {fd : FuncData} (g : mg "_law_book" = some (.ref f)) (Fd : FnP K "_law_book" "_law_book" s10 f fd) : FnF P w K mg base "_law_book" 2 4 m_law_book := by
  have hB : Binds K fd ["script", "k"] [] := FunD.bindsN Fd fun _ _ _ _ _ _ us hl => match us, hl with | [_, _], _ => rfl
  refine ⟨f, fd, ["script", "k"], g, Fd.kp, hB, fn_ro (k := 3) Fd sc_law_book rfl fun cdv A outer s H E hr => ?_⟩
  have nd := (sc_law_book).nd
  exact fss_cons (fs_setOwn 2 nd (ff_lst (fa_nil))) (fss_cons (fs_set (fe_mod (fe_call (np := 2) (C_law_cell_at.mono (by decide)) hr (fa_cons (fe_var 0) (fa_cons (fe_var 1) (fa_nil)))) (fe_int)) (fg_nm 3 nd)) (fss_cons (fs_for (tgt := .nm 4) (fi_rng1 true fr_range (fa_cons (fe_mod (fe_div (fe_call (np := 2) (C_law_cell_at.mono (by decide)) hr (fa_cons (fe_var 0) (fa_cons (fe_var 1) (fa_nil)))) (fe_int)) (fe_int)) (fa_nil))) (fg_nm 4 nd) (fss_cons (fs_app 2 (fe_call (np := 2) (C_law_row.mono (by decide)) hr (fa_cons (fe_var 3) (fa_cons (fe_call (np := 2) (C_law_cell_at.mono (by decide)) hr (fa_cons (fe_var 0) (fa_cons (fe_add (fe_add (fe_var 1) (fe_int)) (fe_var 4)) (fa_nil)))) (fa_nil))))) (fss_cons (fs_set (fe_add (fe_add (fe_var 3) (fe_int)) (fe_mod (fe_call (np := 2) (C_law_cell_at.mono (by decide)) hr (fa_cons (fe_var 0) (fa_cons (fe_add (fe_add (fe_var 1) (fe_int)) (fe_var 4)) (fa_nil)))) (fe_int))) (fg_nm 3 nd)) (fss_nil)))) (fss_cons (fs_ret (fe_tuple fr_tuple (fa_cons (fe_var 2) (fa_nil)))) (fss_nil))))
theorem ok_law_load (C_law_name : FnF P w K mg base "_law_name" 1 1 m_law_name) (C_law_slate : FnF P w K mg base "_law_slate" 1 2 m_law_slate) {f : Addr} {fd : FuncData} (g : mg "_law_load" = some (.ref f)) (Fd : FnP K "_law_load" "_law_load" s12 f fd) : FnF P w K mg base "_law_load" 1 3 m_law_load := by
  have hB : Binds K fd ["cell"] [] := FunD.bindsN Fd fun _ _ _ _ _ _ us hl => match us, hl with | [_], _ => rfl
  refine ⟨f, fd, ["cell"], g, Fd.kp, hB, fn_ro (k := 2) Fd sc_law_load rfl fun cdv A outer s H E hr => ?_⟩
  have nd := (sc_law_load).nd
  exact fss_cons (fs_set (fe_ix (fe_lst (fa_cons (fe_non) (fa_cons (fe_tup (fa_cons (fe_str) (fa_cons (fe_call (np := 1) (C_law_name.mono (by decide)) hr (fa_cons (fe_div (fe_var 0) (fe_int)) (fa_nil))) (fa_cons (fe_sub (fe_mod (fe_div (fe_var 0) (fe_int)) (fe_pow (fe_int) (fe_int))) (fe_pow (fe_int) (fe_int))) (fa_nil))))) (fa_cons (fe_tup (fa_cons (fe_str) (fa_nil))) (fa_nil))))) (fe_mod (fe_var 0) (fe_int))) (fg_nm 1 nd)) (fss_cons (fs_ret (fe_tup (fa_cons (fe_tup (fa_cons (fe_mod (fe_div (fe_var 0) (fe_int)) (fe_int)) (fa_cons (fe_int) (fa_nil)))) (fa_cons (fe_add (fe_int) (fe_mod (fe_div (fe_var 0) (fe_int)) (fe_int))) (fa_cons (fe_var 1) (fa_cons (fe_call (np := 1) (C_law_slate.mono (by decide)) hr (fa_cons (fe_div (fe_var 0) (fe_int)) (fa_nil))) (fa_nil))))))) (fss_nil))
theorem okl_law {f_law_epoch : Addr} {fd_law_epoch : FuncData} (kf_law_epoch : mg "_law_epoch" = some (.ref f_law_epoch) ∧ FnP K "_law_epoch" "_law_epoch" s11 f_law_epoch fd_law_epoch) (kb_law_epoch : Binds K fd_law_epoch ["row"] []) (fr_len : mg "len" = none) (fr_sorted : mg "sorted" = none) (fr_tuple : mg "tuple" = none) (C_law_alike : FnF P w K mg base "_law_alike" 2 40 (m_law_alike 40)) (C_law_book : FnF P w K mg base "_law_book" 2 4 m_law_book) (C_law_cell_at : FnF P w K mg base "_law_cell_at" 2 1 m_law_cell_at) (C_law_load : FnF P w K mg base "_law_load" 1 3 m_law_load) (C_law_near : FnF P w K mg base "_law_near" 2 1 m_law_near) (C_heard : FnF P w K mg base "heard" 2 2 m_heard) {f : Addr} {fd : FuncData} (g : mg "law" = some (.ref f)) (Fd : FnP K "law" "law" s13 f fd) : FnOk P w K mg base (L2.CX P w) 41 f fd ["script"] (spF K mg 1 m_law) := by
  refine fn_ro (k := 40) Fd sc_law rfl fun cdv A outer s H E hr => ?_
  have nd := (sc_law).nd
  exact fss_cons (fs_set (fe_call (np := 2) (C_law_book.mono (by decide)) hr (fa_cons (fe_var 0) (fa_cons (fe_int) (fa_nil)))) (fg_nm 1 nd)) (fss_cons (fs_set (fe_mod (fe_div (fe_call (np := 2) (C_law_cell_at.mono (by decide)) hr (fa_cons (fe_var 0) (fa_cons (fe_int) (fa_nil)))) (fe_int)) (fe_int)) (fg_nm 2 nd)) (fss_cons (fs_if (ft_and (ft_gt (fe_len fr_len (fa_cons (fe_var 1) (fa_nil))) (fe_int)) (fw_and1 (ft_gt (fe_mod (fe_call (np := 2) (C_law_cell_at.mono (by decide)) hr (fa_cons (fe_var 0) (fa_cons (fe_int) (fa_nil)))) (fe_int)) (fe_int)))) (fss_cons (fs_set (fe_ix (fe_ix (fe_var 1) (fe_mod (fe_div (fe_call (np := 2) (C_law_cell_at.mono (by decide)) hr (fa_cons (fe_var 0) (fa_cons (fe_int) (fa_nil)))) (fe_int)) (fe_len fr_len (fa_cons (fe_var 1) (fa_nil))))) (fe_int)) (fg_nm 2 nd)) (fss_nil)) (fss_nil)) (fss_cons (fs_set (fe_tup (fa_cons (fe_var 2) (fa_cons (fe_tup (fa_cons (fe_int) (fa_cons (fe_int) (fa_nil)))) (fa_cons (fe_tup (fa_cons (fe_int) (fa_cons (fe_int) (fa_nil)))) (fa_cons (fe_non) (fa_nil)))))) (fg_nm 3 nd)) (fss_cons (fs_for (tgt := .nm 4) (fi_seq true (fe_var 1)) (fg_nm 4 nd) (fss_cons (fs_if (ft_eq (fe_ix (fe_var 4) (fe_int)) (fe_var 2)) (fss_cons (fs_set (fe_var 4) (fg_nm 3 nd)) (fss_nil)) (fss_nil)) (fss_nil))) (fss_cons (fs_set (fe_call (np := 2) (C_law_near.mono (by decide)) hr (fa_cons (fe_ix (fe_var 3) (fe_int)) (fa_cons (fe_mod (fe_call (np := 2) (C_law_cell_at.mono (by decide)) hr (fa_cons (fe_var 0) (fa_cons (fe_int) (fa_nil)))) (fe_pow (fe_int) (fe_int))) (fa_nil)))) (fg_nm 5 nd)) (fss_cons (fs_set (fe_mod (fe_call (np := 2) (C_law_cell_at.mono (by decide)) hr (fa_cons (fe_var 0) (fa_cons (fe_int) (fa_nil)))) (fe_int)) (fg_nm 6 nd)) (fss_cons (fs_set (fe_call (np := 1) (C_law_load.mono (by decide)) hr (fa_cons (fe_mod (fe_call (np := 2) (C_law_cell_at.mono (by decide)) hr (fa_cons (fe_var 0) (fa_cons (fe_int) (fa_nil)))) (fe_pow (fe_int) (fe_int))) (fa_nil))) (fg_nm 7 nd)) (fss_cons (fs_if (ft_eq (fe_var 5) (fe_ix (fe_var 3) (fe_int))) (fss_cons (fs_set (fe_add (fe_sl (fe_var 7) (fo_none) (fo_some (fe_int))) (fe_tup (fa_cons (fe_ix (fe_var 3) (fe_int)) (fa_nil)))) (fg_nm 7 nd)) (fss_nil)) (fss_nil)) (fss_cons (fs_set (fe_call (np := 2) (C_heard.mono (by decide)) hr (fa_cons (fe_var 1) (fa_cons (fe_tup (fa_cons (fe_str) (fa_cons (fe_ix (fe_var 5) (fe_int)) (fa_cons (fe_var 6) (fa_cons (fe_var 2) (fa_cons (fe_var 5) (fa_cons (fe_var 7) (fa_nil)))))))) (fa_nil)))) (fg_nm 8 nd)) (fss_cons (fs_setLcO 9 (own := [("row", 4)]) (tgt := .nm 4) (fi_seq false (fe_var 1)) (show blkC ["script", "book", "epoch", "old", "row", "stamp", "keeper", "load", "found", "rows", "due"] (defScope s13) _ [("row", 4)] = true from by decide +kernel) (by decide) (fun _ _ _ _ _ => fg_nm 4 nd) (fun _ _ _ _ _ => fts_one (ft_ne (fe_ix (fe_var 4) (fe_int)) (fe_var 2))) (fun _ _ _ _ _ => fe_var 4)) (fss_cons (fs_if (ft_ge (fe_var 5) (fe_ix (fe_var 3) (fe_int))) (fss_cons (fs_app 9 (fe_tup (fa_cons (fe_var 2) (fa_cons (fe_var 5) (fa_cons (fe_var 5) (fa_cons (fe_ix (fe_var 7) (fe_int)) (fa_nil))))))) (fss_cons (fs_set (fe_tup (fa_cons (fe_str) (fa_cons (fe_var 6) (fa_cons (fe_ix (fe_var 5) (fe_int)) (fa_cons (fe_var 2) (fa_cons (fe_var 5) (fa_cons (fe_tup (fa_nil)) (fa_nil)))))))) (fg_nm 10 nd)) (fss_nil))) (fss_cons (fs_app 9 (fe_var 3)) (fss_cons (fs_set (fe_tup (fa_cons (fe_str) (fa_cons (fe_var 6) (fa_cons (fe_ix (fe_var 5) (fe_int)) (fa_cons (fe_var 2) (fa_cons (fe_var 5) (fa_cons (fe_tup (fa_cons (fe_ix (fe_var 3) (fe_int)) (fa_nil))) (fa_nil)))))))) (fg_nm 10 nd)) (fss_nil)))) (fss_cons (fs_set (fe_sortK0 fr_sorted kf_law_epoch.1 hr kf_law_epoch.2 rfl sc_law_epoch rfl (by decide) kb_law_epoch (fe_var 9)) (fg_nm 9 nd)) (fss_cons (fs_ret (fe_call (np := 2) (C_law_alike.mono (by decide)) hr (fa_cons (fe_var 8) (fa_cons (fe_tup (fa_cons (fe_tuple fr_tuple (fa_cons (fe_var 9) (fa_nil))) (fa_cons (fe_var 10) (fa_nil)))) (fa_nil))))) (fss_nil))))))))))))))
end
end Lk

set_option Elab.async false
set_option linter.all false
set_option maxRecDepth 100000
set_option maxHeartbeats 0
/-! The head. Printed by gen.py. -/
namespace Hd
open PySem PySem.Spec PyProof.Rows L2 Rf Mx Lk
def fn0 : List He.DefD := [⟨("answer_to", none), "answer_to", "answer_to", defArgs s0, defBody s0, defScope s0, [], []⟩,
  ⟨("page_of", none), "page_of", "page_of", defArgs s1, defBody s1, defScope s1, [], []⟩,
  ⟨("with_page", none), "with_page", "with_page", defArgs s2, defBody s2, defScope s2, [], []⟩,
  ⟨("heard", none), "heard", "heard", defArgs s3, defBody s3, defScope s3, [], []⟩,
  ⟨("_law_cell_at", none), "_law_cell_at", "_law_cell_at", defArgs s4, defBody s4, defScope s4, [], []⟩,
  ⟨("_law_alike", none), "_law_alike", "_law_alike", defArgs s5, defBody s5, defScope s5, [], []⟩,
  ⟨("_law_name", none), "_law_name", "_law_name", defArgs s6, defBody s6, defScope s6, [], []⟩,
  ⟨("_law_slate", none), "_law_slate", "_law_slate", defArgs s7, defBody s7, defScope s7, [], []⟩,
  ⟨("_law_near", none), "_law_near", "_law_near", defArgs s8, defBody s8, defScope s8, [], []⟩,
  ⟨("_law_row", none), "_law_row", "_law_row", defArgs s9, defBody s9, defScope s9, [], []⟩,
  ⟨("_law_book", none), "_law_book", "_law_book", defArgs s10, defBody s10, defScope s10, [], []⟩,
  ⟨("_law_load", none), "_law_load", "_law_load", defArgs s12, defBody s12, defScope s12, [], []⟩,
  ⟨("law", none), "law", "law", defArgs s13, defBody s13, defScope s13, [], []⟩,
  ⟨("_law_epoch", none), "_law_epoch", "_law_epoch", defArgs s11, defBody s11, defScope s11, [], []⟩]
def fn : List He.DefD := fn0
def fa0 : List He.Fa := [.glo "answer_to",
  .glo "page_of",
  .glo "with_page",
  .glo "heard",
  .glo "_law_cell_at",
  .glo "_law_alike",
  .glo "_law_name",
  .glo "_law_slate",
  .glo "_law_near",
  .glo "_law_row",
  .glo "_law_book",
  .glo "_law_load",
  .glo "law",
  .glo "_law_epoch",
  .glo "NOUGHT",
  .free "bool",
  .free "int",
  .free "isinstance",
  .free "len",
  .free "list",
  .free "max",
  .free "range",
  .free "sorted",
  .free "str",
  .free "tuple"]
def fa : List He.Fa := fa0
abbrev lo0 : List PySem.Str := ["answer_to",
  "NOUGHT",
  "page_of",
  "with_page",
  "heard",
  "_law_cell_at",
  "_law_alike",
  "_law_name",
  "_law_slate",
  "_law_near",
  "_law_row",
  "_law_book",
  "_law_epoch",
  "_law_load"]
abbrev lo : List PySem.Str := lo0
def ex0 (K : PySem.W.Frag) : Bool := He.tupB K "NOUGHT" [.int 0, .int 0]
def ex (K : PySem.W.Frag) : Bool := true && ex0 K
abbrev R : PySem.W.OpenRow := PySem.W.OpenLaw.row PySem.Challenge.rw_oneslate_k23_a_tell_heard
abbrev hk : PySem.W.Hook := hookB 4 fa fn ex
def ob (s : PySem.W.SharedT) : AlB := obsB 4 fa fn ex (HandSHeadRun.getT s)
theorem ob_eq (s : PySem.W.SharedT) : ob s = hk.obs s.abs := obsB_eq (HandSHeadRun.getT_eq s)
theorem run (w : World) : HandSHeadRun.RunEq R (PySem.W.view R.prog [17]) hk ob 3000 lo w := by
  intro os
  kernel_rfl
theorem facts {P : Program} {w : World} {K : PySem.W.Frag} {h : Heap} {mg : Str → Option Value} {f : Addr} (X : K.In h) (G : h.Ns mainGlobals mg) (hfa : mg ("law" : Str) = some (.ref f)) (c : He.SaysD fa fn K) (cx : ex K = true) :
    ∃ fd : FuncData, (∀ (s : Shared) (v : Value), BindsTo s fd ⟨[v], []⟩ [("script", v)]) ∧ ∀ base : Heap, K.In base → base.Ns mainGlobals mg → FnOk P w K mg base (L2.CX P w) 41 f fd ["script"] (spF K mg 1 m_law) := by
  obtain ⟨fd_answer_to, F_answer_to⟩ := c.def_ 0 (d := ⟨("answer_to", none), "answer_to", "answer_to", defArgs s0, defBody s0, defScope s0, [], []⟩) rfl
  have g_answer_to := He.glo_ok X G (c.fact 0 (f := .glo "answer_to") rfl)
  obtain ⟨fd_page_of, F_page_of⟩ := c.def_ 1 (d := ⟨("page_of", none), "page_of", "page_of", defArgs s1, defBody s1, defScope s1, [], []⟩) rfl
  have g_page_of := He.glo_ok X G (c.fact 1 (f := .glo "page_of") rfl)
  obtain ⟨fd_with_page, F_with_page⟩ := c.def_ 2 (d := ⟨("with_page", none), "with_page", "with_page", defArgs s2, defBody s2, defScope s2, [], []⟩) rfl
  have g_with_page := He.glo_ok X G (c.fact 2 (f := .glo "with_page") rfl)
  obtain ⟨fd_heard, F_heard⟩ := c.def_ 3 (d := ⟨("heard", none), "heard", "heard", defArgs s3, defBody s3, defScope s3, [], []⟩) rfl
  have g_heard := He.glo_ok X G (c.fact 3 (f := .glo "heard") rfl)
  obtain ⟨fd_law_cell_at, F_law_cell_at⟩ := c.def_ 4 (d := ⟨("_law_cell_at", none), "_law_cell_at", "_law_cell_at", defArgs s4, defBody s4, defScope s4, [], []⟩) rfl
  have g_law_cell_at := He.glo_ok X G (c.fact 4 (f := .glo "_law_cell_at") rfl)
  obtain ⟨fd_law_alike, F_law_alike⟩ := c.def_ 5 (d := ⟨("_law_alike", none), "_law_alike", "_law_alike", defArgs s5, defBody s5, defScope s5, [], []⟩) rfl
  have g_law_alike := He.glo_ok X G (c.fact 5 (f := .glo "_law_alike") rfl)
  obtain ⟨fd_law_name, F_law_name⟩ := c.def_ 6 (d := ⟨("_law_name", none), "_law_name", "_law_name", defArgs s6, defBody s6, defScope s6, [], []⟩) rfl
  have g_law_name := He.glo_ok X G (c.fact 6 (f := .glo "_law_name") rfl)
  obtain ⟨fd_law_slate, F_law_slate⟩ := c.def_ 7 (d := ⟨("_law_slate", none), "_law_slate", "_law_slate", defArgs s7, defBody s7, defScope s7, [], []⟩) rfl
  have g_law_slate := He.glo_ok X G (c.fact 7 (f := .glo "_law_slate") rfl)
  obtain ⟨fd_law_near, F_law_near⟩ := c.def_ 8 (d := ⟨("_law_near", none), "_law_near", "_law_near", defArgs s8, defBody s8, defScope s8, [], []⟩) rfl
  have g_law_near := He.glo_ok X G (c.fact 8 (f := .glo "_law_near") rfl)
  obtain ⟨fd_law_row, F_law_row⟩ := c.def_ 9 (d := ⟨("_law_row", none), "_law_row", "_law_row", defArgs s9, defBody s9, defScope s9, [], []⟩) rfl
  have g_law_row := He.glo_ok X G (c.fact 9 (f := .glo "_law_row") rfl)
  obtain ⟨fd_law_book, F_law_book⟩ := c.def_ 10 (d := ⟨("_law_book", none), "_law_book", "_law_book", defArgs s10, defBody s10, defScope s10, [], []⟩) rfl
  have g_law_book := He.glo_ok X G (c.fact 10 (f := .glo "_law_book") rfl)
  obtain ⟨fd_law_load, F_law_load⟩ := c.def_ 11 (d := ⟨("_law_load", none), "_law_load", "_law_load", defArgs s12, defBody s12, defScope s12, [], []⟩) rfl
  have g_law_load := He.glo_ok X G (c.fact 11 (f := .glo "_law_load") rfl)
  obtain ⟨fd_law, F_law⟩ := c.def_ 12 (d := ⟨("law", none), "law", "law", defArgs s13, defBody s13, defScope s13, [], []⟩) rfl
  have g_law := He.glo_ok X G (c.fact 12 (f := .glo "law") rfl)
  obtain ⟨fd_law_epoch, F_law_epoch⟩ := c.def_ 13 (d := ⟨("_law_epoch", none), "_law_epoch", "_law_epoch", defArgs s11, defBody s11, defScope s11, [], []⟩) rfl
  have g_law_epoch := He.glo_ok X G (c.fact 13 (f := .glo "_law_epoch") rfl)
  have e_NOUGHT : ex0 K = true := by
    unfold ex at cx
    simp only [Bool.and_eq_true] at cx
    simp only [cx]
  have c_NOUGHT : ∃ a, mg "NOUGHT" = some (.ref a) ∧ ∀ H : Hp, SqT K H a (([0, 0] : List Int).map V.int) := ⟨_, He.glo_ok X G (c.fact 14 (f := .glo "NOUGHT") rfl), fun H => He.tupB_ok (vs := [.int 0, .int 0]) e_NOUGHT H⟩
  have kf_law_epoch := And.intro g_law_epoch F_law_epoch
  have kb_law_epoch : Binds K fd_law_epoch ["row"] [] := FunD.bindsN F_law_epoch fun _ _ _ _ _ _ us hl => match us, hl with | [_], _ => rfl
  have fr_bool := He.free_ok X G (c.fact 15 (f := .free "bool") rfl)
  have fr_int := He.free_ok X G (c.fact 16 (f := .free "int") rfl)
  have fr_isinstance := He.free_ok X G (c.fact 17 (f := .free "isinstance") rfl)
  have fr_len := He.free_ok X G (c.fact 18 (f := .free "len") rfl)
  have fr_list := He.free_ok X G (c.fact 19 (f := .free "list") rfl)
  have fr_max := He.free_ok X G (c.fact 20 (f := .free "max") rfl)
  have fr_range := He.free_ok X G (c.fact 21 (f := .free "range") rfl)
  have fr_sorted := He.free_ok X G (c.fact 22 (f := .free "sorted") rfl)
  have fr_str := He.free_ok X G (c.fact 23 (f := .free "str") rfl)
  have fr_tuple := He.free_ok X G (c.fact 24 (f := .free "tuple") rfl)
  have e := hfa.symm.trans g_law
  cases e
  refine ⟨fd_law, fun s v => (FunD.bindsA (ps := ["script"]) F_law fun _ _ _ _ _ _ us hl => match us, hl with | [_], _ => rfl) s [v] rfl, fun base _ _ => ?_⟩
  have C_answer_to := ok_answer_to (P := P) (w := w) (base := base)  g_answer_to F_answer_to
  have C_page_of := ok_page_of (P := P) (w := w) (base := base) c_NOUGHT g_page_of F_page_of
  have C_with_page := ok_with_page (P := P) (w := w) (base := base) fr_tuple g_with_page F_with_page
  have C_heard := ok_heard (P := P) (w := w) (base := base) C_answer_to C_page_of C_with_page g_heard F_heard
  have C_law_cell_at := ok_law_cell_at (P := P) (w := w) (base := base) fr_len g_law_cell_at F_law_cell_at
  have C_law_alike := ok_law_alike (P := P) (w := w) (base := base) fr_bool fr_int fr_isinstance fr_len fr_list fr_range fr_str fr_tuple g_law_alike F_law_alike
  have C_law_name := ok_law_name (P := P) (w := w) (base := base) fr_len g_law_name F_law_name
  have C_law_slate := ok_law_slate (P := P) (w := w) (base := base) C_law_name g_law_slate F_law_slate
  have C_law_near := ok_law_near (P := P) (w := w) (base := base) fr_max g_law_near F_law_near
  have C_law_row := ok_law_row (P := P) (w := w) (base := base) C_law_slate g_law_row F_law_row
  have C_law_book := ok_law_book (P := P) (w := w) (base := base) fr_range fr_tuple C_law_cell_at C_law_row g_law_book F_law_book
  have C_law_load := ok_law_load (P := P) (w := w) (base := base) C_law_name C_law_slate g_law_load F_law_load
  exact okl_law (P := P) (w := w) (base := base) kf_law_epoch kb_law_epoch fr_len fr_sorted fr_tuple C_law_alike C_law_book C_law_cell_at C_law_load C_law_near C_heard g_law F_law
end Hd

set_option Elab.async false
set_option linter.all false
set_option maxRecDepth 100000
set_option maxHeartbeats 4000000
namespace Tr
open PySem PyProof.Rows L2 Rf Mx
theorem alike_refl : ∀ (n : Nat) (d : D) (ah : AH), good n d = true → m_law_alike n [d, d] ah = .ok (.bl true)
  | 0, _, _, h => by cases h
  | n + 1, d, ah, h => by
    rw [m_law_alike, mF_ev, start_ev, b_law_alike]
    cases d with
    | non => simp
    | bl k => simp
    | int i => simp
    | str z => simp
    | tup l =>
      unfold good at h
      rw [Bool.and_eq_true, decide_eq_true_iff] at h
      obtain ⟨hl, hg⟩ := h
      rw [List.all_eq_true] at hg
      simp [rngOf1_ok hl]
      refine for_rng (P := fun z => z = .ok (.bl true)) (Inv := fun _ σ => ∃ z, σ = [.val (.tup l), .val (.tup l), z]) ⟨_, rfl⟩ (fun k hk σ hσ => ?_) (fun σ hσ => ?_)
      · obtain ⟨z, rfl⟩ := hσ
        have e1 : atI l (k : Int) = some l[k] := atI_nat (List.getElem?_eq_getElem hk)
        have hb : l[k].isBor = false := good_bor (hg _ (List.getElem_mem hk))
        have e2 := alike_refl n l[k] ah (hg _ (List.getElem_mem hk))
        simp [e1, call_val, hb, e2]
      · obtain ⟨z, rfl⟩ := hσ
        simp
    | lst l => cases h
    | bor l => cases h
    | ob l => cases h
theorem name_ok (c : Int) (ah : AH) : ∃ z : Str, m_law_name [.int c] ah = .ok (.str z) ∧ z.length ≤ 8 := by
  rw [m_law_name, mF_ev, start_ev, b_law_name]
  simp
  refine while_run (P := fun r => ∃ z : Str, r = .ok (.str z) ∧ z.length ≤ 8) (Inv := fun m σ => ∃ (c' : Int) (z : Str), σ = [.val (.int c'), .val (.int (1 + c % 8)), .val (.str z)] ∧ (z.length : Int) + m = 1 + c % 8) (1 + c % 8).toNat ⟨c, "", rfl, ?_⟩ (by omega) ?_
  · show (0 : Int) + _ = _
    omega
  · rintro m _ ⟨c', z, rfl, e⟩
    by_cases h : (z.length : Int) < 1 + c % 8
    · right
      refine ⟨?_, ?_⟩
      · simp [h, bLen_str (z := z) (le_size (by omega))]
      · obtain ⟨x, hx⟩ : ∃ x, atI ("abcdefghijklmnopqrstuvwxyz" : Str).cps.toList (c' / 8 % 26) = some x := by
          refine ⟨_, atI_some (by omega) (List.getElem?_eq_getElem (show (c' / 8 % 26).toNat < 26 by omega))⟩
        have hl : (⟨#[x]⟩ : Str).length = 1 := rfl
        have hs : opIx (.str (Str.ofString "abcdefghijklmnopqrstuvwxyz")) (.int (c' / 8 % 26)) = .ok (.str ⟨#[x]⟩) := by
          rw [opIx_str (le_size (by decide)), hx]
          rfl
        simp [hs, opAdd_str (x := z) (y := ⟨#[x]⟩) (le_size (by omega))]
        refine ⟨m - 1, by omega, _, _, ⟨rfl, rfl⟩, ?_⟩
        rw [Str.length_append, hl]
        omega
    · left
      refine ⟨?_, ?_⟩
      · simp [h, bLen_str (z := z) (le_size (by omega))]
      · simp
        omega
theorem pick {l : List D} {m i : Int} (hl : (l.length : Int) = m) (hn : 0 < m) (h : l.all (good 5) = true) : ∃ d, atI l (i % m) = some d ∧ good 5 d = true ∧ d.isBor = false := by
  obtain ⟨d, e, m⟩ := atI_mem (l := l) (i := i % m) (Int.emod_nonneg _ (by omega)) (by rw [hl]; exact Int.emod_lt_of_pos _ (by omega))
  rw [List.all_eq_true] at h
  exact ⟨d, e, h d m, good_bor (h d m)⟩
theorem slate_ok (c : Int) (ah : AH) : ∃ s, m_law_slate [.int c] ah = .ok s ∧ good 8 s = true := by
  obtain ⟨z, hz, hl⟩ := name_ok (c / 3) ah
  obtain ⟨d1, e1, g1, b1⟩ := pick (l := [.non, .int 0, .int 3]) (m := 3) (i := c / 260) rfl (by decide) (by simp)
  obtain ⟨d2, e2, g2, b2⟩ := pick (l := [.non, .str "over", .tup [.tup [.int 2, .tup [.int 0, .int 1, .int 4]], .tup [.int 2, .tup [.int 0, .int 1, .int 4]]]]) (m := 3) (i := c / 5) rfl (by decide) (by simp)
  have g1 := good_le g1 (show 5 ≤ 6 by decide)
  have g2 := good_le g2 (show 5 ≤ 7 by decide)
  rw [m_law_slate, mF_ev, start_ev, b_law_slate]
  by_cases h : 0 < c % 3
  · simp [call_val, hz, h, e1, b1, e2, b2]
    exact ⟨g1, g2⟩
  · simp [h, e1, b1, e2, b2]
    exact ⟨g1, g2⟩
theorem near_ok (a b c : Int) (ah : AH) (h0 : 0 ≤ a) : ∃ x y, m_law_near [.tup [.int a, .int b], .int c] ah = .ok (.tup [.int x, .int y]) ∧ 1 ≤ x := by
  rw [m_law_near, mF_ev, start_ev, b_law_near]
  have hc : c % 5 = 0 ∨ c % 5 = 1 ∨ c % 5 = 2 ∨ c % 5 = 3 ∨ c % 5 = 4 := by omega
  rcases hc with h | h | h | h | h
  · by_cases ha : 0 < a
    · simp [h, ha]
      omega
    · simp [h, ha]
      omega
  · simp [h]
    omega
  · simp [h]
    split <;> omega
  · simp [h]
    split <;> omega
  · simp [h]
    omega
structure Row where
  e : Int
  p0 : Int
  p1 : Int
  k0 : Int
  k1 : Int
  s : D
def Row.d (r : Row) : D := .tup [.int r.e, .tup [.int r.p0, .int r.p1], .tup [.int r.k0, .int r.k1], r.s]
theorem row_ok (e c : Int) (ah : AH) : ∃ r : Row, m_law_row [.int e, .int c] ah = .ok r.d ∧ r.e = e ∧ 1 ≤ r.p0 ∧ good 8 r.s = true := by
  obtain ⟨s, hs, gs⟩ := slate_ok (c / 54) ah
  have bs := good_bor gs
  rw [m_law_row, mF_ev, start_ev, b_law_row]
  have hc : c / 18 % 3 = 0 ∨ c / 18 % 3 = 1 ∨ c / 18 % 3 = 2 := by omega
  rcases hc with h | h | h
  · simp [h]
    exact ⟨⟨e, _, _, 0, 0, .non⟩, rfl, rfl, by show 1 ≤ 1 + c % _; omega, by simp⟩
  · simp [h, call_val, hs, bs]
    exact ⟨⟨e, _, _, _, _, s⟩, rfl, rfl, by show 1 ≤ 1 + c % _; omega, gs⟩
  · have hp : 0 < 1 + c % 100000000000000000000 := by omega
    simp [h, call_val, hs, bs, hp]
    exact ⟨⟨e, _, _, _, _, s⟩, rfl, rfl, by show 1 ≤ 1 + c % _; omega, gs⟩
theorem cell_ok (ns : List Int) (k : Int) (ah : AH) (h0 : 0 ≤ k) : ∃ c, m_law_cell_at [.lst (ns.map D.int), .int k] ah = .ok (.int c) := by
  rw [m_law_cell_at, mF_ev, start_ev, b_law_cell_at]
  by_cases h : k < ns.length
  · obtain ⟨d, e, m⟩ := atI_mem (l := ns.map D.int) h0 (by rw [List.length_map]; exact h)
    rw [List.mem_map] at m
    obtain ⟨c, _, rfl⟩ := m
    refine ⟨c, ?_⟩
    simp [h, e]
  · refine ⟨0, ?_⟩
    simp [h]
/-- the epochs rise -/
def Rise (rows : List Row) : Prop := rows.Pairwise fun a b => a.e < b.e
structure Ok (rows : List Row) : Prop where
  up : Rise rows
  p : ∀ r ∈ rows, 1 ≤ r.p0
  g : ∀ r ∈ rows, good 8 r.s = true
  n : rows.length ≤ 3
theorem book_ok (ns : List Int) (k : Int) (ah : AH) (h0 : 0 ≤ k) : ∃ rows, m_law_book [.lst (ns.map D.int), .int k] ah = .ok (.tup (rows.map Row.d)) ∧ Ok rows := by
  obtain ⟨c, hc⟩ := cell_ok ns k ah h0
  rw [m_law_book, mF_ev, start_ev, b_law_book]
  simp [call_val, hc, rngOf1_int (i := c / 3 % 4) (by omega) (by omega)]
  refine for_rng (P := fun r => ∃ rows : List Row, r = .ok (.tup (rows.map Row.d)) ∧ Ok rows) (Inv := fun j σ => ∃ (rows : List Row) (e : Int) (z : SV), σ = [.val (.lst (ns.map D.int)), .val (.int k), .own (rows.map Row.d), .val (.int e), z] ∧ Rise rows ∧ (∀ r ∈ rows, r.e < e) ∧ (∀ r ∈ rows, 1 ≤ r.p0) ∧ (∀ r ∈ rows, good 8 r.s = true) ∧ rows.length = j)
    ⟨[], _, _, rfl, .nil, by simp, by simp, by simp, rfl⟩ (fun j hj σ hσ => ?_) (fun σ hσ => ?_)
  · obtain ⟨rows, e, z, rfl, h1, h2, h3, h4, h5⟩ := hσ
    obtain ⟨d, hd⟩ := cell_ok ns (k + 1 + j) ah (by omega)
    obtain ⟨r, hr, r1, r2, r3⟩ := row_ok e d ah
    have hb : r.d.isBor = false := rfl
    have h6 : rows.length < sizeLine := lt_size (by omega)
    simp [call_val, hd, hr, hb, h6]
    refine ⟨rows ++ [r], _, ⟨by simp, rfl⟩, ?_, ?_, ?_, ?_, by simp [h5]⟩
    · refine List.pairwise_append.mpr ⟨h1, by simp, ?_⟩
      intro a ha b hb
      rw [List.mem_singleton] at hb
      subst hb
      rw [r1]
      exact h2 a ha
    · intro a ha
      rw [List.mem_append, List.mem_singleton] at ha
      rcases ha with ha | rfl
      · have := h2 a ha
        omega
      · omega
    · intro a ha
      rw [List.mem_append, List.mem_singleton] at ha
      rcases ha with ha | rfl
      · exact h3 a ha
      · exact r2
    · intro a ha
      rw [List.mem_append, List.mem_singleton] at ha
      rcases ha with ha | rfl
      · exact h4 a ha
      · exact r3
  · obtain ⟨rows, e, z, rfl, h1, h2, h3, h4, h5⟩ := hσ
    simp
    exact ⟨rows, rfl, h1, h3, h4, by omega⟩
def page (rows : List Row) (e : Int) : D := match rows.find? fun r => decide (r.e = e) with
  | some r => .tup [.tup [.int r.p0, .int r.p1], .tup [.int r.k0, .int r.k1], r.s]
  | none => .tup [.tup [.int 0, .int 0], .tup [.int 0, .int 0], .non]
theorem page_ok {rows : List Row} (e : Int) (ah : AH) (O : Ok rows) : m_page_of [.tup (rows.map Row.d), .int e] ah = .ok (page rows e) := by
  rw [m_page_of, mF_ev, start_ev, b_page_of]
  simp
  refine for_find (P := fun r => r = .ok (page rows e)) (Inv := fun σ => ∃ z, σ = [.val (.tup (rows.map Row.d)), .val (.int e), z]) (q := fun r => decide (r.e = e)) (r := fun r => .tup [.tup [.int r.p0, .int r.p1], .tup [.int r.k0, .int r.k1], r.s]) ⟨_, rfl⟩ (fun _ _ => rfl) (fun r hr hq σ hσ => ?_) (fun r hr hq σ hσ => ?_) ?_
  · obtain ⟨z, rfl⟩ := hσ
    simp [Row.d, hq]
  · obtain ⟨z, rfl⟩ := hσ
    have hb := good_bor (O.g r hr)
    simp [Row.d, hq, hb]
  · unfold page
    cases rows.find? fun r => decide (r.e = e) with
    | some r => rfl
    | none =>
      rintro σ ⟨z, rfl⟩
      simp
theorem with_ok {rows : List Row} (e : Int) (p k s : D) (ah : AH) (O : Ok rows) (hp : p.isBor = false) (hk : k.isBor = false) (hs : s.isBor = false) :
    m_with_page [.tup (rows.map Row.d), .int e, p, k, s] ah = .ok (.tup ((rows.filter fun r => decide (r.e < e)).map Row.d ++ ([.tup [.int e, p, k, s]] ++ (rows.filter fun r => decide (e < r.e)).map Row.d))) := by
  have hn : rows.length ≤ sizeLine := le_size (Nat.le_trans O.n (by decide))
  rw [m_with_page, mF_ev, start_ev, b_with_page]
  simp
  rw [Rlc_filter (fun r => decide (r.e < e)) hn ?_]
  · simp
    rw [Rlc_filter (fun r => decide (e < r.e)) hn ?_]
    · have f1 : (rows.filter fun r => decide (r.e < e)).length ≤ 3 := Nat.le_trans (List.length_filter_le ..) O.n
      have f2 : (rows.filter fun r => decide (e < r.e)).length ≤ 3 := Nat.le_trans (List.length_filter_le ..) O.n
      simp [hp, hk, hs]
      rw [opAdd_lst (by simp; exact le_size (by omega)), R2v_ok, opAdd_lst (by simp; exact le_size (by omega))]
      simp
    · intro r hr
      have hb : r.d.isBor = false := rfl
      rw [lcItem_nm hb]
      simp [Row.d, LcI_ok]
  · intro r hr
    have hb : r.d.isBor = false := rfl
    rw [lcItem_nm hb]
    simp [Row.d, LcI_ok]
theorem answer_ok (a b c d e f w l : D) (ah : AH) (hb : b.isBor = false) (hc : c.isBor = false) (hd : d.isBor = false) (he : e.isBor = false) (hw : w.isBor = false) (hl : l.isBor = false) :
    m_answer_to [.tup [a, b, c, d, e, f], w, l] ah = .ok (.tup [w, c, b, d, e, l]) := by
  rw [m_answer_to, mF_ev, start_ev, b_answer_to]
  simp [hb, hc, hd, he, hw, hl]
theorem load_ok (c : Int) (ah : AH) : ∃ a b dd s, m_law_load [.int c] ah = .ok (.tup [.tup [.int a, .int 0], .int b, dd, s]) ∧ good 8 s = true ∧ dd.isBor = false := by
  obtain ⟨z, hz, hl⟩ := name_ok (c / 3) ah
  obtain ⟨s, hs, gs⟩ := slate_ok (c / 13) ah
  have bs := good_bor gs
  obtain ⟨d1, e1, g1, b1⟩ := pick (l := [.non, .tup [.str "add", .str z, .int (c / 5 % 100000000000000000000 - 10000000000000000000)], .tup [.str "end"]]) (m := 3) (i := c) rfl (by decide) (by simp)
  rw [m_law_load, mF_ev, start_ev, b_law_load]
  simp [call_val, hz, hs, bs, e1, b1]
  exact ⟨_, _, _, _, ⟨rfl, rfl, rfl, rfl⟩, gs, b1⟩
theorem heard_ok {rows : List Row} (e x y kp : Int) (ah : AH) (O : Ok rows) (p0 p1 : Int) (k s a b c S : D) (h : page rows e = .tup [.tup [.int p0, .int p1], k, s]) (hk : k.isBor = false) (hs : s.isBor = false) (hS : S.isBor = false) :
    m_heard [.tup (rows.map Row.d), .tup [.str "tell", .int y, .int kp, .int e, .tup [.int x, .int y], .tup [a, b, c, S]]] ah = .ok (if leP p0 p1 x y = true then
      .tup [.tup ((rows.filter fun r => decide (r.e < e)).map Row.d ++ ([.tup [.int e, .tup [.int x, .int y], .tup [.int x, .int y], S]] ++ (rows.filter fun r => decide (e < r.e)).map Row.d)), .tup [.str "kept", .int kp, .int y, .int e, .tup [.int x, .int y], .tup []]]
      else .tup [.tup (rows.map Row.d), .tup [.str "late", .int kp, .int y, .int e, .tup [.int x, .int y], .tup [.tup [.int p0, .int p1]]]]) := by
  rw [m_heard, mF_ev, start_ev, b_heard]
  have hp := page_ok e ah O
  rw [h] at hp
  have hw := with_ok e (.tup [.int x, .int y]) (.tup [.int x, .int y]) S ah O rfl rfl hS
  cases hz : leP p0 p1 x y with
  | true =>
    simp [call_val, hp, opGt_p, opGe_p, hz, hw, answer_ok, hk, hs, hS]
  | false =>
    simp [call_val, hp, opGt_p, opGe_p, hz, answer_ok, hk, hs, hS]
theorem rise_inj {rows : List Row} (h : Rise rows) : ∀ {a b : Row}, a ∈ rows → b ∈ rows → a.e = b.e → a = b := by
  induction rows with
  | nil => exact fun ha => by cases ha
  | cons r rows ih =>
    intro a b ha hb e
    have h := List.pairwise_cons.mp h
    rcases List.mem_cons.mp ha with h1 | h1
    · rcases List.mem_cons.mp hb with h2 | h2
      · rw [h1, h2]
      · have := h.1 b h2
        rw [h1] at e
        omega
    · rcases List.mem_cons.mp hb with h2 | h2
      · have := h.1 a h1
        rw [h2] at e
        omega
      · exact ih h.2 h1 h2 e
theorem split_rows {rows : List Row} (h : Rise rows) {r : Row} (hr : r ∈ rows) : (rows.filter fun a => decide (a.e < r.e)) ++ r :: (rows.filter fun a => decide (r.e < a.e)) = rows := by
  obtain ⟨s, t, rfl⟩ := List.append_of_mem hr
  obtain ⟨h1, h2, h3⟩ := List.pairwise_append.mp h
  have h2 := List.pairwise_cons.mp h2
  have hs : ∀ a ∈ s, a.e < r.e := fun a ha => h3 a ha r (List.mem_cons_self ..)
  have ht : ∀ a ∈ t, r.e < a.e := fun a ha => h2.1 a ha
  have e1 : s.filter (fun a => decide (a.e < r.e)) = s := List.filter_eq_self.mpr fun a ha => decide_eq_true (hs a ha)
  have e2 : t.filter (fun a => decide (a.e < r.e)) = [] := List.filter_eq_nil_iff.mpr fun a ha => by simp; exact Int.le_of_lt (ht a ha)
  have e3 : s.filter (fun a => decide (r.e < a.e)) = [] := List.filter_eq_nil_iff.mpr fun a ha => by simp; exact Int.le_of_lt (hs a ha)
  have e4 : t.filter (fun a => decide (r.e < a.e)) = t := List.filter_eq_self.mpr fun a ha => decide_eq_true (ht a ha)
  simp [List.filter_append, List.filter_cons, e1, e2, e3, e4]
theorem rowLe : PySem.W.TotalLe (fun a b : Row => decide (a.e ≤ b.e)) where
  trans := by
    intro a b c
    simp only [decide_eq_true_iff]
    omega
  total := by
    intro a b
    simp only [decide_eq_true_iff]
    omega
theorem sort_rows {rows : List Row} (h : Rise rows) (n : Row) : sortK0 ((rows.filter fun a => decide (a.e ≠ n.e)).map Row.d ++ [n.d]) = ((rows.filter fun a => decide (a.e < n.e)) ++ n :: (rows.filter fun a => decide (n.e < a.e))).map Row.d := by
  have e : (rows.filter fun a => decide (a.e ≠ n.e)).map Row.d ++ [n.d] = ((rows.filter fun a => decide (a.e ≠ n.e)) ++ [n]).map Row.d := by simp
  rw [e]
  unfold sortK0
  rw [← PySem.W.sort_maps (r := fun a b : Row => decide (a.e ≤ b.e)) (s := fun a b => decide (key0 a ≤ key0 b)) Row.d (fun a _ b _ => rfl)]
  congr 1
  refine (PySem.W.sort_unique rowLe ?_ ?_).symm
  · have h' : rows.Pairwise fun a b => decide (a.e ≤ b.e) = true := h.imp fun z => decide_eq_true (Int.le_of_lt z)
    refine List.pairwise_append.mpr ⟨h'.filter _, List.pairwise_cons.mpr ⟨?_, h'.filter _⟩, ?_⟩
    · intro a ha
      have := (List.mem_filter.mp ha).2
      simp only [decide_eq_true_iff] at this ⊢
      omega
    · intro a ha b hb
      have ha := (List.mem_filter.mp ha).2
      rcases List.mem_cons.mp hb with rfl | hb
      · simp only [decide_eq_true_iff] at ha ⊢
        omega
      · have hb := (List.mem_filter.mp hb).2
        simp only [decide_eq_true_iff] at ha hb ⊢
        omega
  · intro c
    have hc : ∀ a : Row, PySem.W.sameRank (fun a b : Row => decide (a.e ≤ b.e)) c a = decide (a.e = c.e) := by
      intro a
      unfold PySem.W.sameRank
      rw [Bool.eq_iff_iff]
      simp only [Bool.and_eq_true, decide_eq_true_iff]
      omega
    have hc' : PySem.W.sameRank (fun a b : Row => decide (a.e ≤ b.e)) c = fun a => decide (a.e = c.e) := funext hc
    rw [hc', List.filter_append, List.filter_append, List.filter_cons, List.filter_filter, List.filter_filter, List.filter_filter]
    have none : ∀ p : Row → Bool, (∀ a, p a = false) → rows.filter p = [] := fun p hp => List.filter_eq_nil_iff.mpr fun a _ => by rw [hp a]; decide
    have same : ∀ p q : Row → Bool, (∀ a, p a = q a) → rows.filter p = rows.filter q := fun p q hp => by rw [funext hp]
    rcases Int.lt_trichotomy c.e n.e with z | z | z
    · rw [none (fun a => decide (a.e = c.e) && decide (n.e < a.e)) (fun a => by simp; omega), same (fun a => decide (a.e = c.e) && decide (a.e < n.e)) (fun a => decide (a.e = c.e)) (fun a => by rw [Bool.eq_iff_iff]; simp; omega),
        same (fun a => decide (a.e = c.e) && decide (a.e ≠ n.e)) (fun a => decide (a.e = c.e)) (fun a => by rw [Bool.eq_iff_iff]; simp; omega)]
      have : ¬n.e = c.e := by omega
      simp [this]
    · rw [none (fun a => decide (a.e = c.e) && decide (n.e < a.e)) (fun a => by simp; omega), none (fun a => decide (a.e = c.e) && decide (a.e < n.e)) (fun a => by simp; omega), none (fun a => decide (a.e = c.e) && decide (a.e ≠ n.e)) (fun a => by simp; omega)]
      simp [z]
    · rw [none (fun a => decide (a.e = c.e) && decide (a.e < n.e)) (fun a => by simp; omega), same (fun a => decide (a.e = c.e) && decide (n.e < a.e)) (fun a => decide (a.e = c.e)) (fun a => by rw [Bool.eq_iff_iff]; simp; omega),
        same (fun a => decide (a.e = c.e) && decide (a.e ≠ n.e)) (fun a => decide (a.e = c.e)) (fun a => by rw [Bool.eq_iff_iff]; simp; omega)]
      have : ¬n.e = c.e := by omega
      simp [this]
theorem good_rows {rows : List Row} (h : ∀ r ∈ rows, good 8 r.s = true) : ∀ d ∈ rows.map Row.d, good 9 d = true := by
  intro d hd
  obtain ⟨r, hr, rfl⟩ := List.mem_map.mp hd
  simp [Row.d, h r hr]
theorem law_true : ∀ ns : List Int, ns.length ≤ 63 → m_law [.lst (ns.map D.int)] [] = .ok (.bl true) := by
  intro ns hn
  obtain ⟨rows, hbook, O⟩ := book_ok ns 2 [] (by decide)
  obtain ⟨c0, h0⟩ := cell_ok ns 0 [] (by decide)
  obtain ⟨c1, h1⟩ := cell_ok ns 1 [] (by decide)
  obtain ⟨c6, h6⟩ := cell_ok ns 6 [] (by decide)
  obtain ⟨c7, h7⟩ := cell_ok ns 7 [] (by decide)
  obtain ⟨l1, l2, l3, l4, hload, gl, bl⟩ := load_ok (c7 % 10000000000000000000000000000000000000000) []
  have bl4 := good_bor gl
  have hl : rows.length ≤ sizeLine := le_size (Nat.le_trans O.n (by decide))
  rw [m_law, mF_ev, start_ev, b_law]
  simp [call_val, hbook, h0, h1, h6]
  refine seq_sat (ah := []) (P := fun r => r = .ok (.bl true)) (Q := fun σ => ∃ E : Int, σ = [.val (.lst (ns.map D.int)), .val (.tup (rows.map Row.d)), .val (.int E), .un, .un, .un, .un, .un, .un, .un, .un]) ?_ ?_
  · by_cases q1 : 0 < rows.length
    · by_cases q2 : 1 < c0 % 7
      · obtain ⟨d, e, m⟩ := atI_mem (l := rows.map Row.d) (i := c0 / 7 % rows.length) (Int.emod_nonneg _ (by omega)) (by rw [List.length_map]; exact Int.emod_lt_of_pos _ (by omega))
        obtain ⟨r, hr, rfl⟩ := List.mem_map.mp m
        simp [q1, q2, call_val, h0, e, Row.d]
      · simp [q1, q2]
    · simp [q1]
  · rintro _ ⟨E, rfl⟩
    simp
    refine for_map (P := fun r => r = .ok (.bl true)) (Inv := fun ys σ => ∃ (o : D) (z : SV), σ = [.val (.lst (ns.map D.int)), .val (.tup (rows.map Row.d)), .val (.int E), .val o, z, .un, .un, .un, .un, .un, .un] ∧ (((∀ r ∈ ys, r.e ≠ E) ∧ o = .tup [.int E, .tup [.int 0, .int 0], .tup [.int 0, .int 0], .non]) ∨ ∃ r ∈ ys, r.e = E ∧ o = r.d))
      ⟨_, _, rfl, .inl ⟨by simp, rfl⟩⟩ (fun _ _ => rfl) (fun ys r zs e σ hσ => ?_) (fun σ hσ => ?_)
    · obtain ⟨o, z, rfl, ho⟩ := hσ
      have hb : r.d.isBor = false := rfl
      by_cases q : r.e = E
      · simp [q, Row.d]
      · simp [q, Row.d]
        rcases ho with ⟨h1, h2⟩ | ⟨a, h1, h2, h3⟩
        · left
          refine ⟨?_, h2⟩
          rintro b (hb | rfl)
          · exact h1 b hb
          · exact q
        · right
          exact ⟨a, h1, h2, h3⟩
    · obtain ⟨o, z, rfl, ho⟩ := hσ
      have hold : ∃ p0 p1 k0 k1 S, o = (Row.mk E p0 p1 k0 k1 S).d ∧ page rows E = .tup [.tup [.int p0, .int p1], .tup [.int k0, .int k1], S] ∧ 0 ≤ p0 ∧ good 8 S = true ∧ ((p0 = 0 ∧ p1 = 0) ∨ Row.mk E p0 p1 k0 k1 S ∈ rows) := by
        rcases ho with ⟨q1, q2⟩ | ⟨r, q1, q2, q3⟩
        · refine ⟨0, 0, 0, 0, .non, q2, ?_, by decide, by simp, .inl ⟨rfl, rfl⟩⟩
          unfold page
          rw [List.find?_eq_none.mpr fun x hx => by simp; exact q1 x hx]
        · cases hf : rows.find? fun r => decide (r.e = E) with
          | none => exact absurd (decide_eq_true q2) (List.find?_eq_none.mp hf r q1)
          | some r' =>
            have m := List.mem_of_find?_eq_some hf
            have z : (fun r : Row => decide (r.e = E)) r' = true := List.find?_some (p := fun r : Row => decide (r.e = E)) hf
            have z : r'.e = E := of_decide_eq_true z
            have e := rise_inj O.up m q1 (z.trans q2.symm)
            subst e
            have hp := O.p r' m
            refine ⟨r'.p0, r'.p1, r'.k0, r'.k1, r'.s, ?_, ?_, by omega, O.g r' m, .inr ?_⟩
            · rw [q3, Row.d, z]
              rfl
            · unfold page
              rw [hf]
            · rw [← z]
              exact m
      clear ho
      obtain ⟨p0, p1, k0, k1, S, rfl, hpg, hp0, gS, hin⟩ := hold
      obtain ⟨x, y, hnear, hx⟩ := near_ok p0 p1 (c1 % 10000000000000000000000000000000000000000) [] hp0
      have bS := good_bor gS
      simp [call_val, h1, h6, h7, Row.d, hnear, hload, bS, bl, bl4]
      refine seq_sat (ah := []) (P := fun r => r = .ok (.bl true)) (Q := fun σ => ∃ T : D, good 8 T = true ∧ σ = [.val (.lst (ns.map D.int)), .val (.tup (rows.map Row.d)), .val (.int E), .val (Row.mk E p0 p1 k0 k1 S).d, z, .val (.tup [.int x, .int y]), .val (.int (c6 % 6)), .val (.tup [.tup [.int l1, .int 0], .int l2, l3, T]), .un, .un, .un]) ?_ ?_
      · rw [eqB_p]
        by_cases q1 : x = k0
        · by_cases q2 : y = k1
          · simp [q1, q2, Row.d, bS, opAdd_tup]
            exact gS
          · simp [q1, q2, Row.d]
            exact gl
        · simp [q1, Row.d]
          exact gl
      · rintro _ ⟨T, gT, rfl⟩
        clear hload bl gl bl4 h7
        have bT := good_bor gT
        have hheard := heard_ok E x y (c6 % 6) [] O p0 p1 _ _ (.tup [.int l1, .int 0]) (.int l2) l3 T hpg rfl bS bT
        have fl : (rows.filter fun a => decide (a.e ≠ E)).length ≤ 3 := Nat.le_trans (List.length_filter_le ..) O.n
        have item : ∀ (r : Row), LcI (.ok (!decide (r.e = E))) (.ok r.d) = .ok (if decide (r.e ≠ E) = true then some r.d else none) := by
          intro r
          rw [LcI_ok rfl]
          simp
        have fr : ∀ d ∈ (rows.filter fun a => decide (a.e ≠ E)).map Row.d, isKey0 d = true := by
          intro d hd
          obtain ⟨r, _, rfl⟩ := List.mem_map.mp hd
          rfl
        have f1 : (rows.filter fun a => decide (a.e < E)).length ≤ 3 := Nat.le_trans (List.length_filter_le ..) O.n
        have f2 : (rows.filter fun a => decide (E < a.e)).length ≤ 3 := Nat.le_trans (List.length_filter_le ..) O.n
        have g1 := good_rows (rows := rows.filter fun a => decide (a.e < E)) fun r hr => O.g r (List.mem_filter.mp hr).1
        have g2 := good_rows (rows := rows.filter fun a => decide (E < a.e)) fun r hr => O.g r (List.mem_filter.mp hr).1
        cases hz : leP p0 p1 x y with
        | true =>
          have hs := sort_rows O.up (Row.mk E x y x y T)
          have hk : bSortK0 (.bor ((rows.filter fun a => decide (a.e ≠ E)).map Row.d ++ [(Row.mk E x y x y T).d])) = _ := bSortK0_own (by rw [List.all_append, List.all_eq_true.mpr fr]; rfl) (by simp; exact le_size (by simp at fl; omega))
          rw [hs] at hk
          rw [hz, if_pos rfl] at hheard
          simp [call_val, h1, h6, bS, bT, hheard, Row.d]
          rw [Rlc_filter (f := Row.d) (fun r => decide (r.e ≠ E)) hl ?_]
          · simp [Row.d] at hk fl
            have fl' := lt_size (Nat.lt_of_le_of_lt fl (by decide))
            simp [opGe_p, hz, bS, bT, fl', hk]
            rw [call2 rfl rfl, alike_refl 40 _ _ ?_]
            · simp
            · refine good_le (n := 12) ?_ (by decide)
              have gL : good 11 (.tup ((rows.filter fun a => decide (a.e < E)).map Row.d ++ .tup [.int E, .tup [.int x, .int y], .tup [.int x, .int y], T] :: (rows.filter fun a => decide (E < a.e)).map Row.d)) = true := by
                refine good_of (by simp; omega) fun d hd => ?_
                rcases List.mem_append.mp hd with hd | hd
                · exact good_up (g1 d hd)
                · rcases List.mem_cons.mp hd with rfl | hd
                  · simp [good_up gT]
                  · exact good_up (g2 d hd)
              simp [gL]
          · intro r hr
            rw [lcItem_nm (show r.d.isBor = false from rfl)]
            have z := item r
            simp [Row.d] at z ⊢
            exact z
        | false =>
          rw [hz, if_neg (by decide)] at hheard
          have hin : Row.mk E p0 p1 k0 k1 S ∈ rows := by
            rcases hin with ⟨rfl, rfl⟩ | h
            · exfalso
              unfold leP at hz
              split at hz
              · omega
              · simp at hz
                omega
            · exact h
          have hs := sort_rows O.up (Row.mk E p0 p1 k0 k1 S)
          have hk : bSortK0 (.bor ((rows.filter fun a => decide (a.e ≠ E)).map Row.d ++ [(Row.mk E p0 p1 k0 k1 S).d])) = _ := bSortK0_own (by rw [List.all_append, List.all_eq_true.mpr fr]; rfl) (by simp; exact le_size (by simp at fl; omega))
          rw [hs, split_rows O.up hin] at hk
          simp [call_val, h1, h6, bS, bT, hheard, Row.d]
          rw [Rlc_filter (f := Row.d) (fun r => decide (r.e ≠ E)) hl ?_]
          · simp [Row.d] at hk fl
            have fl' := lt_size (Nat.lt_of_le_of_lt fl (by decide))
            simp [opGe_p, hz, bS, bT, fl', hk]
            rw [call2 rfl rfl, alike_refl 40 _ _ ?_]
            · simp
            · refine good_le (n := 12) ?_ (by decide)
              have gL : good 11 (.tup (rows.map Row.d)) = true := good_of (by have := O.n; simp; omega) fun d hd => good_up (good_rows O.g d hd)
              simp [gL]
          · intro r hr
            rw [lcItem_nm (show r.d.isBor = false from rfl)]
            have z := item r
            simp [Row.d] at z ⊢
            exact z
end Tr

set_option Elab.async false
set_option linter.all false
set_option maxRecDepth 100000
set_option maxHeartbeats 4000000
open PySem PySem.W PySem.Calls PyProof.Rows
set_option maxRecDepth 100000 in
set_option maxHeartbeats 0 in
theorem PySem.Challenge.cw_oneslate_k23_a_tell_heard_holds : PySem.Challenge.rw_oneslate_k23_a_tell_heard.Holds := by
  w_on; o_law
  refine HandSHeadRun.head_any (r := OpenLaw.row PySem.Challenge.rw_oneslate_k23_a_tell_heard) (q := view (OpenLaw.row PySem.Challenge.rw_oneslate_k23_a_tell_heard).prog [17]) (H := Hd.hk) (ob := Hd.ob) (M := 3000) (loose := Hd.lo) (d := HandSHeadRun.topDef (OpenLaw.row PySem.Challenge.rw_oneslate_k23_a_tell_heard).prog 17) (kwd := []) Hd.ob_eq
    (by kernel_rfl) (fun s => by kernel_rfl) Hd.run (by kernel_rfl) (by kernel_rfl) (by kernel_rfl) (by rfl) (by first | assumption | decide +kernel) (by decide +kernel) ⟨rfl, rfl, rfl, rfl, rfl, by decide +kernel⟩ ?hw ?hc
  case hw => w_witness2
  case hc =>
    refine Rf.walk_ofR (l := PySem.Challenge.rw_oneslate_k23_a_tell_heard) (n := 63) (k := 41) (x := "script") (m := Mx.m_law) rfl (by decide) (by kernel_rfl) ⟨rfl, by decide, by decide⟩ Tr.law_true ?F
    intro w mg fa h Y G hmg0
    obtain ⟨K, KX, c, cx⟩ := Y
    have hmg : mg ("law" : PySem.Str) = some (.ref fa) := by
      have e : (HandSHeadRun.topDef (OpenLaw.row PySem.Challenge.rw_oneslate_k23_a_tell_heard).prog 17).name = ("law" : PySem.Str) := by kernel_rfl
      rw [← e]
      exact hmg0
    obtain ⟨fd, hb, hF⟩ := Hd.facts (P := (PySem.Challenge.rw_oneslate_k23_a_tell_heard).prog) (w := w) KX G hmg c cx
    exact ⟨K, fd, KX, hb, hF⟩
