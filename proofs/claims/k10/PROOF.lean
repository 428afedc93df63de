import PyProof.Rows.All
import Wide.All
import OpenK.AllK
import Wide.FinOn
import HandS.ForMost
import HandS.ForExc
import HandS.TupAny
import HandS.Wide
import HandS.IsInst
import HandS.Conv
import KE.DataEq
import HandS.TupMul
import HandS.ExcInit
import HandS.ExcOwn
import KE.KExcSuper
import HandS.ExcSuper
import HandS.More
import HandS.Text
import HandS.TryOnly
import HandS.RaiseMore
import PyProof.ReprRoads
import HandS.Ends
import HandS.Words
import KE.RegKSuper
import PySem.Challenge.RW_unitsheld_k10_whole_fractions
set_option Elab.async false
set_option linter.all false
set_option maxRecDepth 100000
set_option maxHeartbeats 4000000
namespace DL
open PySem L2

inductive D where
  | non | bl (b : Bool) | int (i : Int) | str (s : Str)
  | tup (xs : List D) | lst (xs : List D)
  | dct (ks ds : List D)
  | ob (c : Str) (ns : List Str) (ds : List D)
  | fn (c : Str)
  | scr (ns : List Int)

/-- an exception: its class's name, its fields -/
structure Xn where
  c : Str
  ns : List Str
  ds : List D

/-- a local name's state: nothing, data that stays, an object of its own, the parameter that is changed in place, a caught exception -/
inductive Sl where
  | un | val (d : D) | own (d : D) | io (d : D) | xc (x : Xn)

inductive RE (α : Type) where
  | ok (a : α) (r : List Sl) | exn (x : Xn) (r : List Sl) | bad

def RE.bind {α β : Type} (m : RE α) (k : α → List Sl → RE β) : RE β := match m with
  | .ok a r => k a r
  | .exn x r => .exn x r
  | .bad => .bad

/-- how a statement ends -/
inductive RS where
  | nx (r : List Sl) | bk (r : List Sl) | ct (r : List Sl) | rt (d : D) (r : List Sl) | exn (x : Xn) (r : List Sl) | bad

/-- how a def ends (io: what the parameter that is changed in place is at the end) -/
inductive RF where
  | ok (d io : D) | exn (x : Xn) (io : D) | bad

structure Gm where
  K : PySem.W.Frag
  mg : Str → Option Value

def keyD : Key → D
  | .inl i => .int i
  | .inr s => .str s
/-- at a: a dict of these keys and values -/
def DictIs (H : Hp) (a : Addr) (ks : List D) (vs : List V) : Prop :=
  (∃ kvs : List (Key × V), H a = some (.dK kvs) ∧ ks = kvs.map (fun p => keyD p.1) ∧ vs = kvs.map (·.2)) ∨
  (∃ kvs : List (List Key × V), H a = some (.dT kvs) ∧ ks = kvs.map (fun p => D.tup (p.1.map keyD)) ∧ vs = kvs.map (·.2))

mutual
def Rep (G : Gm) (M : Addr → Prop) (H : Hp) : D → V → Prop
  | .non, v => v = .non
  | .bl b, v => v = .bl b
  | .int i, v => v = .int i
  | .str s, v => v = .str s
  | .tup xs, v => ∃ a vs, v = .ref a ∧ SqT G.K H a vs ∧ RepL G M H xs vs
  | .lst xs, v => ∃ a vs, v = .ref a ∧ ¬ M a ∧ H a = some (.lst vs) ∧ RepL G M H xs vs
  | .dct ks ds, v => ∃ a vs, v = .ref a ∧ ¬ M a ∧ DictIs H a ks vs ∧ RepL G M H ds vs
  | .ob c ns ds, v => ∃ a C dx vs, v = .ref a ∧ ¬ M a ∧ G.mg c = some (.ref C) ∧ H a = some (.ins C dx (ns.zip vs)) ∧ ns.length = vs.length ∧ RepL G M H ds vs
  | .fn c, v => ∃ f, v = .ref f ∧ G.mg c = some (.ref f)
  | .scr ns, v => ∃ a, v = .ref a ∧ ((¬ M a ∧ Rd H a (.lst (ns.map V.int))) ∨
      ∃ (o : Obj) (its : Array Value) (n : Nat), G.K.lookup a = some o ∧ o.cls = .type "list" ∧ o.dict = none ∧ o.data = .seq its n ∧ its.size ≤ sizeLine ∧ Vals (ns.map V.int) its.toList)
def RepL (G : Gm) (M : Addr → Prop) (H : Hp) : List D → List V → Prop
  | [], vs => vs = []
  | d :: ds, vs => ∃ v ws, vs = v :: ws ∧ Rep G M H d v ∧ RepL G M H ds ws
end

/-- the object at a, which is owned: its content -/
def OwnAt (G : Gm) (M : Addr → Prop) (H : Hp) (a : Addr) : D → Prop
  | .lst xs => ∃ vs, H a = some (.lst vs) ∧ RepL G M H xs vs
  | .dct ks ds => ∃ vs, DictIs H a ks vs ∧ RepL G M H ds vs
  | .ob c ns ds => ∃ C dx vs, G.mg c = some (.ref C) ∧ H a = some (.ins C dx (ns.zip vs)) ∧ ns.length = vs.length ∧ RepL G M H ds vs
  | _ => False

def RepX (G : Gm) (M : Addr → Prop) (H : Hp) (x : Xn) (cls : Value) (dd : Option Addr) : Prop :=
  ∃ C, G.mg x.c = some (.ref C) ∧ cls = .ref C ∧ ∃ vs, x.ns.length = vs.length ∧ RepL G M H x.ds vs ∧ (x.ns = [] ∨ ∃ d, dd = some d ∧ H d = some (.xd (x.ns.zip vs)))

/-- what may change is of the kinds that change -/
def MD (M : Addr → Prop) (H : Hp) : Prop := ∀ b, M b → Mut (H b)
/-- from (M, H) on: what is not owned stays; what is owned later was owned, or is new -/
structure Step (M : Addr → Prop) (H : Hp) (M' : Addr → Prop) (H' : Hp) : Prop where
  keep : ∀ b o, H b = some o → ¬ M b → H' b = some o
  own : ∀ b, M' b → M b ∨ H b = none
theorem Step.refl {M : Addr → Prop} {H : Hp} : Step M H M H := ⟨fun _ _ h _ => h, fun _ h => .inl h⟩
theorem Step.trans {M M1 M2 : Addr → Prop} {H H1 H2 : Hp} (a : Step M H M1 H1) (b : Step M1 H1 M2 H2) : Step M H M2 H2 where
  keep := fun c o h n => by
    refine b.keep c o (a.keep c o h n) fun m => ?_
    rcases a.own c m with z | z
    · exact n z
    · rw [z] at h; cases h
  own := fun c m => by
    rcases b.own c m with z | z
    · exact a.own c z
    · cases h : H c with
      | none => exact .inr rfl
      | some o =>
        refine .inl (Classical.byContradiction fun n => ?_)
        rw [a.keep c o h n] at z; cases z
theorem Step.ext {M : Addr → Prop} {H H' : Hp} (e : ∀ b o, H b = some o → H' b = some o) : Step M H M H' := ⟨fun b o h _ => e b o h, fun _ h => .inl h⟩

section
variable {G : Gm} {M M' : Addr → Prop} {H H' : Hp}
theorem Step.rd (st : Step M H M' H') {a : Addr} {u : HO} (n : ¬ M a) (h : Rd H a u) : Rd H' a u ∧ ¬ M' a := by
  rcases h with h | ⟨o, h⟩
  · refine ⟨.inl (st.keep a _ h n), fun m => ?_⟩
    rcases st.own a m with z | z
    · exact n z
    · rw [z] at h; cases h
  · refine ⟨.inr ⟨o, st.keep a _ h n⟩, fun m => ?_⟩
    rcases st.own a m with z | z
    · exact n z
    · rw [z] at h; cases h
theorem MD.not_tup (md : MD M H) {a : Addr} {vs : List V} (h : Rd H a (.tup vs)) : ¬ M a := fun m => by
  have z := md a m
  rcases h with h | ⟨o, h⟩ <;> rw [h] at z <;> exact z
theorem Step.sqt {K : PySem.W.Frag} (st : Step M H M' H') (md : MD M H) {a : Addr} {vs : List V} (h : SqT K H a vs) : SqT K H' a vs := by
  rcases h with h | h
  · exact .inl (st.rd (md.not_tup h) h).1
  · exact .inr h
theorem DictIs.some {a : Addr} {ks : List D} {vs : List V} (h : DictIs H a ks vs) : ∃ o, H a = some o := by
  rcases h with ⟨_, h, _⟩ | ⟨_, h, _⟩ <;> exact ⟨_, h⟩
theorem Step.notM (st : Step M H M' H') {a : Addr} {o : HO} (n : ¬ M a) (h : H a = some o) : ¬ M' a := fun m => by
  rcases st.own a m with z | z
  · exact n z
  · rw [z] at h; cases h
theorem DictIs.of {a : Addr} {ks : List D} {vs : List V} (h : DictIs H a ks vs) (e : H' a = H a) : DictIs H' a ks vs := by
  unfold DictIs; rw [e]; exact h
mutual
theorem Rep.step (st : Step M H M' H') (md : MD M H) : ∀ (d : D) (v : V), Rep G M H d v → Rep G M' H' d v
  | .non, _, h => h
  | .bl _, _, h => h
  | .int _, _, h => h
  | .str _, _, h => h
  | .tup xs, _, ⟨a, vs, e, h, r⟩ => ⟨a, vs, e, st.sqt md h, RepL.step st md xs vs r⟩
  | .lst xs, _, ⟨a, vs, e, n, h, r⟩ => ⟨a, vs, e, st.notM n h, st.keep a _ h n, RepL.step st md xs vs r⟩
  | .dct ks ds, _, ⟨a, vs, e, n, h, r⟩ => by
    obtain ⟨o, ho⟩ := h.some
    exact ⟨a, vs, e, st.notM n ho, h.of ((st.keep a o ho n).trans ho.symm), RepL.step st md ds vs r⟩
  | .ob c ns ds, _, ⟨a, C, dx, vs, e, n, hc, h, l, r⟩ => ⟨a, C, dx, vs, e, st.notM n h, hc, st.keep a _ h n, l, RepL.step st md ds vs r⟩
  | .fn c, _, h => h
  | .scr ns, _, ⟨a, e, h⟩ => ⟨a, e, h.elim (fun q => .inl ⟨(st.rd q.1 q.2).2, (st.rd q.1 q.2).1⟩) .inr⟩
theorem RepL.step (st : Step M H M' H') (md : MD M H) : ∀ (ds : List D) (vs : List V), RepL G M H ds vs → RepL G M' H' ds vs
  | [], _, h => h
  | d :: ds, _, ⟨v, ws, e, h, r⟩ => ⟨v, ws, e, Rep.step st md d v h, RepL.step st md ds ws r⟩
end
theorem OwnAt.step (st : Step M H M' H') (md : MD M H) {a : Addr} (e : H' a = H a) : ∀ {d : D}, OwnAt G M H a d → OwnAt G M' H' a d
  | .lst xs, ⟨vs, h, r⟩ => ⟨vs, e.trans h, RepL.step st md xs vs r⟩
  | .dct ks ds, ⟨vs, h, r⟩ => ⟨vs, h.of e, RepL.step st md ds vs r⟩
  | .ob c ns ds, ⟨C, dx, vs, hc, h, l, r⟩ => ⟨C, dx, vs, hc, e.trans h, l, RepL.step st md ds vs r⟩
theorem RepL.length : ∀ {ds : List D} {vs : List V}, RepL G M H ds vs → ds.length = vs.length
  | [], _, h => by cases h; rfl
  | d :: ds, _, ⟨v, ws, e, _, r⟩ => by subst e; simp [RepL.length r]
theorem RepL.append : ∀ {ds es : List D} {vs ws : List V}, RepL G M H ds vs → RepL G M H es ws → RepL G M H (ds ++ es) (vs ++ ws)
  | [], _, _, _, h, r => by cases h; exact r
  | d :: ds, _, _, _, ⟨v, ws, e, h, r⟩, q => by subst e; exact ⟨v, _, rfl, h, RepL.append r q⟩
theorem RepL.get : ∀ {ds : List D} {vs : List V} {i : Nat} {d : D}, RepL G M H ds vs → ds[i]? = some d → ∃ v, vs[i]? = some v ∧ Rep G M H d v
  | d :: ds, _, 0, _, ⟨v, ws, e, h, r⟩, q => by subst e; cases q; exact ⟨v, rfl, h⟩
  | d :: ds, _, i + 1, _, ⟨v, ws, e, h, r⟩, q => by subst e; exact RepL.get (i := i) r q
theorem RepL.get' : ∀ {ds : List D} {vs : List V} {i : Nat} {v : V}, RepL G M H ds vs → vs[i]? = some v → ∃ d, ds[i]? = some d ∧ Rep G M H d v
  | [], _, _, _, h, q => by cases h; simp at q
  | d :: ds, _, 0, _, ⟨v, ws, e, h, r⟩, q => by subst e; cases q; exact ⟨d, rfl, h⟩
  | d :: ds, _, i + 1, _, ⟨v, ws, e, h, r⟩, q => by subst e; exact RepL.get' (i := i) r q
theorem RepL.take : ∀ {ds : List D} {vs : List V} (n : Nat), RepL G M H ds vs → RepL G M H (ds.take n) (vs.take n)
  | _, _, 0, _ => by simp [RepL]
  | [], _, n + 1, h => by cases h; simp [RepL]
  | d :: ds, _, n + 1, ⟨v, ws, e, h, r⟩ => by subst e; exact ⟨v, _, rfl, h, RepL.take n r⟩
theorem RepL.drop : ∀ {ds : List D} {vs : List V} (n : Nat), RepL G M H ds vs → RepL G M H (ds.drop n) (vs.drop n)
  | _, _, 0, h => by simpa using h
  | [], _, n + 1, h => by cases h; simp [RepL]
  | d :: ds, _, n + 1, ⟨v, ws, e, h, r⟩ => by subst e; simpa using RepL.drop n r
theorem RepL.set : ∀ {ds : List D} {vs : List V} (i : Nat) {d : D} {v : V}, RepL G M H ds vs → Rep G M H d v → RepL G M H (ds.set i d) (vs.set i v)
  | [], _, _, _, _, h, _ => by cases h; simp [RepL]
  | d :: ds, _, 0, _, _, ⟨v, ws, e, h, r⟩, q => by subst e; exact ⟨_, _, rfl, q, r⟩
  | d :: ds, _, i + 1, _, _, ⟨v, ws, e, h, r⟩, q => by subst e; exact ⟨v, _, rfl, h, RepL.set i r q⟩
end
end DL

set_option Elab.async false
set_option linter.all false
set_option maxRecDepth 100000
set_option maxHeartbeats 4000000
namespace DL
open PySem L2

/-- what is fixed while a body runs -/
structure Jx where
  G : Gm
  M0 : Addr → Prop
  H0 : Hp
  io : Option Addr
  W : WX
  hx : Option (Addr × Value × Option Addr)

def SlotOk (J : Jx) (M : Addr → Prop) (H : Hp) (s : Sl) (o : Option (Option V)) : Prop := match s with
  | .un => True
  | .val d => ∃ v, o = some (some v) ∧ Rep J.G M H d v
  | .own d => ∃ a, o = some (some (.ref a)) ∧ M a ∧ OwnAt J.G M H a d ∧ ¬ J.M0 a ∧ J.H0 a = none
  | .io d => ∃ a, o = some (some (.ref a)) ∧ M a ∧ OwnAt J.G M H a d ∧ J.io = some a
  | .xc x => ∃ a cls dd, o = some (some (.ref a)) ∧ J.hx = some (a, cls, dd) ∧ RepX J.G M H x cls dd

def Sl.owned : Sl → Bool
  | .own _ => true
  | .io _ => true
  | _ => false

structure SI (J : Jx) (M : Addr → Prop) (r : List Sl) (σ : St) (H : Hp) : Prop where
  md : MD M H
  m0 : ∀ b, J.M0 b → M b
  io0 : ∀ a, J.io = some a → J.M0 a
  keep : ∀ b o, J.H0 b = some o → J.io ≠ some b → H b = some o
  len : r.length = σ.length
  slot : ∀ (i : Nat) s, r[i]? = some s → SlotOk J M H s σ[i]?
  dist : ∀ (i j : Nat) s t a, r[i]? = some s → r[j]? = some t → s.owned = true → t.owned = true → σ[i]? = some (some (.ref a)) → σ[j]? = some (some (.ref a)) → i = j

abbrev Extn (H H' : Hp) : Prop := ∀ (b : Addr) (o : HO), H b = some o → H' b = some o

section
variable {J : Jx} {M M' : Addr → Prop} {r : List Sl} {σ : St} {H H' : Hp}
theorem MD.ext (md : MD M H) (e : Extn H H') : MD M H' := fun b m => by
  have z := md b m
  cases q : H b with
  | none => rw [q] at z; exact z.elim
  | some o => rw [e b o q]; rw [q] at z; exact z
theorem MD.some (md : MD M H) {a : Addr} (m : M a) : ∃ o, H a = .some o := by
  have z := md a m
  cases q : H a with
  | none => rw [q] at z; exact z.elim
  | some o => exact ⟨o, rfl⟩
theorem RepX.step {x : Xn} {cls : Value} {dd : Option Addr} {G : Gm} (st : Step M H M' H') (md : MD M H) (h : RepX G M H x cls dd) : RepX G M' H' x cls dd := by
  obtain ⟨C, h1, h2, vs, h3, h4, h5⟩ := h
  refine ⟨C, h1, h2, vs, h3, RepL.step st md _ _ h4, ?_⟩
  rcases h5 with h5 | ⟨d, e, h5⟩
  · exact .inl h5
  · refine .inr ⟨d, e, st.keep d _ h5 fun m => ?_⟩
    have z := md d m
    rw [h5] at z
    exact z
theorem SlotOk.step {s : Sl} {o : Option (Option V)} (st : Step M H M' H') (md : MD M H) (hs : ∀ a, s.owned = true → o = some (some (.ref a)) → M' a ∧ H' a = H a) (h : SlotOk J M H s o) : SlotOk J M' H' s o := by
  cases s with
  | un => trivial
  | val d => obtain ⟨v, e, q⟩ := h; exact ⟨v, e, Rep.step st md _ _ q⟩
  | own d => obtain ⟨a, e, m, q, z⟩ := h; exact ⟨a, e, (hs a rfl e).1, OwnAt.step st md (hs a rfl e).2 q, z⟩
  | io d => obtain ⟨a, e, m, q, z⟩ := h; exact ⟨a, e, (hs a rfl e).1, OwnAt.step st md (hs a rfl e).2 q, z⟩
  | xc x => obtain ⟨a, cls, dd, e, q, z⟩ := h; exact ⟨a, cls, dd, e, q, z.step st md⟩
theorem SI.step (I : SI J M r σ H) (st : Step M H M' H') (md : MD M' H') (m0 : ∀ b, J.M0 b → M' b) (kp : ∀ b o, J.H0 b = some o → J.io ≠ some b → H' b = some o)
    (hs : ∀ (i : Nat) s a, r[i]? = some s → s.owned = true → σ[i]? = some (some (.ref a)) → M' a ∧ H' a = H a) : SI J M' r σ H' :=
  ⟨md, m0, I.io0, kp, I.len, fun i s e => (I.slot i s e).step st I.md (fun a o q => hs i s a e o q), I.dist⟩
theorem SlotOk.ownM {s : Sl} {a : Addr} {o : Option (Option V)} (h : SlotOk J M H s o) (hs : s.owned = true) (e : o = some (some (.ref a))) : M a := by
  cases s with
  | own d => obtain ⟨b, e', m, _⟩ := h; rw [e] at e'; cases e'; exact m
  | io d => obtain ⟨b, e', m, _⟩ := h; rw [e] at e'; cases e'; exact m
  | un => cases hs
  | val d => cases hs
  | xc x => cases hs
/-- the heap grows -/
theorem SI.ext (I : SI J M r σ H) (e : Extn H H') : SI J M r σ H' :=
  I.step (Step.ext e) (I.md.ext e) I.m0 (fun b o h n => e b o (I.keep b o h n)) fun i s a h o q => by
    have m := (I.slot i s h).ownM o q
    obtain ⟨u, hu⟩ := I.md.some m
    exact ⟨m, (e a u hu).trans hu.symm⟩
/-- an object of its own is written -/
theorem SI.write {i : Nat} {a : Addr} {s s' : Sl} (I : SI J M r σ H) (hi : r[i]? = some s) (ho : s.owned = true) (ha : σ[i]? = some (some (.ref a))) (ho' : s'.owned = true)
    (kp : ∀ b o, H b = some o → b ≠ a → H' b = some o) (md : MD M H') (new : SlotOk J M H' s' (some (some (.ref a)))) : SI J M (r.set i s') σ H' := by
  have hm : M a := (I.slot i s hi).ownM ho ha
  have st : Step M H M H' := ⟨fun b o h n => kp b o h (fun e => n (e ▸ hm)), fun b h => .inl h⟩
  have hio : ∀ b o, J.H0 b = some o → J.io ≠ some b → H' b = some o := fun b o h n => by
    refine kp b o (I.keep b o h n) fun e => ?_
    subst e
    have z := I.slot i s hi
    cases s with
    | own d => obtain ⟨c, e', _, _, _, q⟩ := z; rw [ha] at e'; cases e'; rw [h] at q; cases q
    | io d => obtain ⟨c, e', _, _, q⟩ := z; rw [ha] at e'; cases e'; exact n q
    | un => cases ho
    | val d => cases ho
    | xc x => cases ho
  refine ⟨md, I.m0, I.io0, hio, by rw [List.length_set]; exact I.len, fun j t e => ?_, fun j k t u c e1 e2 h1 h2 h3 h4 => ?_⟩
  · rw [List.getElem?_set] at e
    by_cases hj : i = j
    · subst hj
      rw [if_pos rfl] at e
      split at e
      · cases e; rw [ha]; exact new
      · cases e
    · rw [if_neg hj] at e
      refine (I.slot j t e).step st I.md fun c o q => ?_
      have m := (I.slot j t e).ownM o q
      obtain ⟨u, hu⟩ := I.md.some m
      have hne : c ≠ a := fun z => hj (I.dist i j s t a hi e ho o ha (z ▸ q))
      exact ⟨m, (kp c u hu hne).trans hu.symm⟩
  · have pick : ∀ (j : Nat) t, (r.set i s')[j]? = some t → t.owned = true → ∃ t', r[j]? = some t' ∧ t'.owned = true := fun j t e h => by
      rw [List.getElem?_set] at e
      by_cases hj : i = j
      · subst hj; exact ⟨s, hi, ho⟩
      · rw [if_neg hj] at e; exact ⟨t, e, h⟩
    obtain ⟨t', e1', h1'⟩ := pick j t e1 h1
    obtain ⟨u', e2', h2'⟩ := pick k u e2 h2
    exact I.dist j k t' u' c e1' e2' h1' h2' h3 h4
/-- a name is stored: data -/
theorem SI.set {i : Nat} {d : D} {v : V} (I : SI J M r σ H) (h : Rep J.G M H d v) : SI J M (r.set i (.val d)) (σ.set i (some v)) H := by
  have hl := I.len
  refine ⟨I.md, I.m0, I.io0, I.keep, by rw [List.length_set, List.length_set]; exact I.len, fun j t e => ?_, fun j k t u c e1 e2 h1 h2 h3 h4 => ?_⟩
  · rw [List.getElem?_set] at e ⊢
    by_cases hj : i = j
    · subst hj
      rw [if_pos rfl] at e ⊢
      split at e
      · cases e
        rename_i hlt
        rw [if_pos (by omega)]
        exact ⟨v, rfl, h⟩
      · cases e
    · rw [if_neg hj] at e ⊢
      exact I.slot j t e
  · rw [List.getElem?_set] at e1 e2 h3 h4
    by_cases hj : i = j
    · subst hj
      rw [if_pos rfl] at e1
      split at e1
      · cases e1; cases h1
      · cases e1
    · by_cases hk : i = k
      · subst hk
        rw [if_pos rfl] at e2
        split at e2
        · cases e2; cases h2
        · cases e2
      · rw [if_neg hj] at e1 h3
        rw [if_neg hk] at e2 h4
        exact I.dist j k t u c e1 e2 h1 h2 h3 h4
/-- a name is stored: a new object of its own -/
theorem SI.setOwn {i : Nat} {d : D} {a : Addr} (I : SI J M r σ H) (m : M a) (h : OwnAt J.G M H a d) (n0 : ¬ J.M0 a) (h0 : J.H0 a = none)
    (fl : ∀ (j : Nat) s, r[j]? = some s → s.owned = true → σ[j]? ≠ some (some (.ref a))) : SI J M (r.set i (.own d)) (σ.set i (some (.ref a))) H := by
  have hl := I.len
  refine ⟨I.md, I.m0, I.io0, I.keep, by rw [List.length_set, List.length_set]; exact I.len, fun j t e => ?_, fun j k t u c e1 e2 h1 h2 h3 h4 => ?_⟩
  · rw [List.getElem?_set] at e ⊢
    by_cases hj : i = j
    · subst hj
      rw [if_pos rfl] at e ⊢
      split at e
      · cases e
        rename_i hlt
        rw [if_pos (by omega)]
        exact ⟨a, rfl, m, h, n0, h0⟩
      · cases e
    · rw [if_neg hj] at e ⊢
      exact I.slot j t e
  · rw [List.getElem?_set] at e1 e2 h3 h4
    by_cases hj : i = j
    · subst hj
      by_cases hk : i = k
      · exact hk
      · rw [if_neg hk] at e2 h4
        rw [if_pos rfl] at h3
        split at h3
        · cases h3; exact absurd h4 (fl k u e2 h2)
        · cases h3
    · by_cases hk : i = k
      · subst hk
        rw [if_neg hj] at e1 h3
        rw [if_pos rfl] at h4
        split at h4
        · cases h4; exact absurd h3 (fl j t e1 h1)
        · cases h4
      · rw [if_neg hj] at e1 h3
        rw [if_neg hk] at e2 h4
        exact I.dist j k t u c e1 e2 h1 h2 h3 h4
/-- a name is forgotten -/
theorem SI.drop {i : Nat} (I : SI J M r σ H) : SI J M (r.set i .un) (σ.set i none) H := by
  have hl := I.len
  refine ⟨I.md, I.m0, I.io0, I.keep, by rw [List.length_set, List.length_set]; exact I.len, fun j t e => ?_, fun j k t u c e1 e2 h1 h2 h3 h4 => ?_⟩
  · rw [List.getElem?_set] at e ⊢
    by_cases hj : i = j
    · subst hj
      rw [if_pos rfl] at e
      split at e
      · cases e; trivial
      · cases e
    · rw [if_neg hj] at e ⊢
      exact I.slot j t e
  · rw [List.getElem?_set] at e1 e2 h3 h4
    by_cases hj : i = j
    · subst hj
      rw [if_pos rfl] at e1
      split at e1
      · cases e1; cases h1
      · cases e1
    · by_cases hk : i = k
      · subst hk
        rw [if_pos rfl] at e2
        split at e2
        · cases e2; cases h2
        · cases e2
      · rw [if_neg hj] at e1 h3
        rw [if_neg hk] at e2 h4
        exact I.dist j k t u c e1 e2 h1 h2 h3 h4
theorem OwnAt.rep {G : Gm} {a : Addr} {d : D} (h : OwnAt G M H a d) (n : ¬ M a) : Rep G M H d (.ref a) := by
  cases d with
  | lst xs => obtain ⟨vs, h, r⟩ := h; exact ⟨a, vs, rfl, n, h, r⟩
  | dct ks ds => obtain ⟨vs, h, r⟩ := h; exact ⟨a, vs, rfl, n, h, r⟩
  | ob c ns ds => obtain ⟨C, dx, vs, hc, h, l, r⟩ := h; exact ⟨a, C, dx, vs, rfl, n, hc, h, l, r⟩
  | non => exact h.elim
  | bl b => exact h.elim
  | int i => exact h.elim
  | str s => exact h.elim
  | tup xs => exact h.elim
  | fn c => exact h.elim
  | scr ns => exact h.elim
/-- the owned at a are owned no more -/
theorem Step.freeze (a : Addr) : Step M H (fun b => M b ∧ b ≠ a) H := ⟨fun _ _ h _ => h, fun _ h => .inl h.1⟩
/-- a floating owned object becomes data -/
theorem SI.freeze {a : Addr} (I : SI J M r σ H) (n0 : ¬ J.M0 a) (fl : ∀ (j : Nat) s, r[j]? = some s → s.owned = true → σ[j]? ≠ some (some (.ref a))) : SI J (fun b => M b ∧ b ≠ a) r σ H :=
  I.step (Step.freeze a) (fun b h => I.md b h.1) (fun b h => ⟨I.m0 b h, fun e => n0 (e ▸ h)⟩) I.keep fun i s c h o q =>
    ⟨⟨(I.slot i s h).ownM o q, fun e => fl i s h o (e ▸ q)⟩, rfl⟩
/-- the owned object of a name becomes data -/
theorem SI.freezeAt {i : Nat} {d : D} (I : SI J M r σ H) (hi : r[i]? = some (.own d)) : ∃ a, σ[i]? = some (some (.ref a)) ∧ SI J (fun b => M b ∧ b ≠ a) (r.set i (.val d)) σ H ∧ Rep J.G (fun b => M b ∧ b ≠ a) H d (.ref a) := by
  obtain ⟨a, e, m, o, n0, h0⟩ := I.slot i _ hi
  have hlt : i < σ.length := (List.getElem?_eq_some_iff.mp e).1
  have I1 : SI J M (r.set i .un) (σ.set i none) H := I.drop
  have I2 := I1.freeze (a := a) n0 fun j s hj hs hq => by
    rw [List.getElem?_set] at hj hq
    by_cases hij : i = j
    · subst hij
      rw [if_pos rfl] at hj
      split at hj
      · cases hj; cases hs
      · cases hj
    · rw [if_neg hij] at hj hq
      exact hij (I.dist i j _ s a hi hj rfl hs e hq)
  have R : Rep J.G (fun b => M b ∧ b ≠ a) H d (.ref a) := by
    have o' : OwnAt J.G (fun b => M b ∧ b ≠ a) H a d := o.step (Step.freeze a) I.md rfl
    exact o'.rep fun h => h.2 rfl
  have I3 := I2.set (i := i) R
  rw [List.set_set, List.set_set] at I3
  have es : σ.set i (some (.ref a)) = σ := by
    apply List.ext_getElem?
    intro j
    rw [List.getElem?_set]
    by_cases hij : i = j
    · subst hij; rw [if_pos rfl, if_pos hlt, e]
    · rw [if_neg hij]
  rw [es] at I3
  exact ⟨a, e, I3, R⟩
/-- a new object of its own -/
theorem SI.newOwn {p : Addr} {o : HO} (I : SI J M r σ H) (hp : H p = none) (mu : Mut (some o)) : SI J (fun b => M b ∨ b = p) r σ (upd H p o) ∧ Step M H (fun b => M b ∨ b = p) (upd H p o) ∧ ¬ M p ∧ ¬ J.M0 p ∧ J.H0 p = none ∧
    (∀ (j : Nat) s, r[j]? = some s → s.owned = true → σ[j]? ≠ some (some (.ref p))) := by
  have nm : ¬ M p := fun m => by have z := I.md p m; rw [hp] at z; exact z
  have st : Step M H (fun b => M b ∨ b = p) (upd H p o) := ⟨fun b u h _ => by rw [upd_ne (ne_of_none h hp)]; exact h, fun b h => h.elim .inl fun e => .inr (e ▸ hp)⟩
  have n0 : ¬ J.M0 p := fun m => nm (I.m0 p m)
  refine ⟨I.step st (fun b h => ?_) (fun b h => .inl (I.m0 b h)) (fun b u h n => ?_) (fun i s a h os q => ?_), st, nm, n0, ?_, fun j s h os q => nm ((I.slot j s h).ownM os q)⟩
  · rcases h with h | h
    · have hb : b ≠ p := fun e => nm (e ▸ h)
      rw [upd_ne hb]; exact I.md b h
    · subst h; rw [upd_same]; exact mu
  · have z := I.keep b u h n
    rw [upd_ne (ne_of_none z hp)]; exact z
  · have m := (I.slot i s h).ownM os q
    have hb : a ≠ p := fun e => nm (e ▸ m)
    exact ⟨.inl m, by rw [upd_ne hb]⟩
  · cases q : J.H0 p with
    | none => rfl
    | some u =>
      by_cases hio : J.io = some p
      · exact absurd (I.io0 p hio) n0
      · rw [I.keep p u q hio] at hp; cases hp
end
end DL

set_option Elab.async false
set_option linter.all false
set_option maxRecDepth 100000
set_option maxHeartbeats 4000000
namespace DL
open PySem L2

/-- what is wanted of a reading's outcome: R links the data to the value -/
def Out {α β : Type} (J : Jx) (R : List Sl → St → (Addr → Prop) → Hp → α → β → Prop) (M : Addr → Prop) (H : Hp) (σ : St) (m : RE α) (Q : β → Hp → Prop) : Prop := match m with
  | .ok a r => ∀ b M' H', Step M H M' H' → SI J M' r σ H' → R r σ M' H' a b → Q b H'
  | .exn x r => ∀ cls dd M' H', Step M H M' H' → SI J M' r σ H' → RepX J.G M' H' x cls dd → J.W cls dd σ H'
  | .bad => False
def RV (J : Jx) : List Sl → St → (Addr → Prop) → Hp → D → V → Prop := fun _ _ M H d v => Rep J.G M H d v
def RVs (J : Jx) : List Sl → St → (Addr → Prop) → Hp → List D → List V → Prop := fun _ _ M H d v => RepL J.G M H d v
def RB : List Sl → St → (Addr → Prop) → Hp → Bool → Bool → Prop := fun _ _ _ _ a b => b = a
/-- a new object of its own, which no name holds -/
def RO (J : Jx) : List Sl → St → (Addr → Prop) → Hp → D → V → Prop := fun r σ M H d v => ∃ a, v = .ref a ∧ M a ∧ OwnAt J.G M H a d ∧ ¬ J.M0 a ∧ J.H0 a = none ∧ ∀ (j : Nat) s, r[j]? = some s → s.owned = true → σ[j]? ≠ some (some (.ref a))
def tX {α β : Type} (J : Jx) (R : List Sl → St → (Addr → Prop) → Hp → α → β → Prop) (f : List Sl → RE α) : St → Hp → (β → Hp → Prop) → Prop :=
  fun σ H Q => ∃ M r, SI J M r σ H ∧ Out J R M H σ (f r) Q
abbrev tE (J : Jx) (f : List Sl → RE D) : TE := tX J (RV J) f
abbrev tN (J : Jx) (f : List Sl → RE D) : TE := tX J (RO J) f
abbrev tT (J : Jx) (f : List Sl → RE Bool) : TT := tX J RB f
abbrev tA (J : Jx) (f : List Sl → RE (List D)) : TA := tX J (RVs J) f

def OutS (J : Jx) (M : Addr → Prop) (H : Hp) (m : RS) (E : Ends) : Prop := match m with
  | .nx r => ∀ M' σ' H', Step M H M' H' → SI J M' r σ' H' → E.nx σ' H'
  | .bk r => ∀ M' σ' H', Step M H M' H' → SI J M' r σ' H' → E.bk σ' H'
  | .ct r => ∀ M' σ' H', Step M H M' H' → SI J M' r σ' H' → E.ct σ' H'
  | .rt d r => ∀ v M' σ' H', Step M H M' H' → SI J M' r σ' H' → Rep J.G M' H' d v → E.rt v H'
  | .exn x r => ∀ cls dd M' σ' H', Step M H M' H' → SI J M' r σ' H' → RepX J.G M' H' x cls dd → J.W cls dd σ' H'
  | .bad => False
def tS (J : Jx) (f : List Sl → RS) : TS := fun E σ H => ∃ M r, SI J M r σ H ∧ OutS J M H (f r) E

section
variable {J : Jx} {M M' : Addr → Prop} {H H' : Hp} {σ : St} {α β γ δ : Type}
theorem Out.step {R : List Sl → St → (Addr → Prop) → Hp → α → β → Prop} {m : RE α} {Q : β → Hp → Prop} (st : Step M H M' H') (h : Out J R M H σ m Q) : Out J R M' H' σ m Q := by
  cases m with
  | ok a r => exact fun b M2 H2 s2 => h b M2 H2 (st.trans s2)
  | exn x r => exact fun c d M2 H2 s2 => h c d M2 H2 (st.trans s2)
  | bad => exact h
theorem OutS.step {m : RS} {E : Ends} (st : Step M H M' H') (h : OutS J M H m E) : OutS J M' H' m E := by
  cases m with
  | nx r => exact fun M2 σ2 H2 s2 => h M2 σ2 H2 (st.trans s2)
  | bk r => exact fun M2 σ2 H2 s2 => h M2 σ2 H2 (st.trans s2)
  | ct r => exact fun M2 σ2 H2 s2 => h M2 σ2 H2 (st.trans s2)
  | rt d r => exact fun v M2 σ2 H2 s2 => h v M2 σ2 H2 (st.trans s2)
  | exn x r => exact fun c d M2 σ2 H2 s2 => h c d M2 σ2 H2 (st.trans s2)
  | bad => exact h
/-- first m, then k -/
theorem Out.bind {R : List Sl → St → (Addr → Prop) → Hp → γ → δ → Prop} {R1 : List Sl → St → (Addr → Prop) → Hp → α → β → Prop} {m : RE α} {k : α → List Sl → RE γ} {Q : δ → Hp → Prop} {Q1 : β → Hp → Prop} (h : Out J R M H σ (m.bind k) Q)
    (hk : ∀ a r b M1 H1, Step M H M1 H1 → SI J M1 r σ H1 → R1 r σ M1 H1 a b → Out J R M1 H1 σ (k a r) Q → Q1 b H1) : Out J R1 M H σ m Q1 := by
  cases m with
  | ok a r => exact fun b M1 H1 st I r1 => hk a r b M1 H1 st I r1 (Out.step st h)
  | exn x r => exact h
  | bad => exact h
end

/-! ### weakening -/
theorem PEi {X : Cx} {e : Expr} {t t' : TE} (h : PE X e t) (w : ∀ σ H Q, t' σ H Q → t σ H Q) : PE X e t' := ⟨fun pins s σ H Q I q => h.run pins s σ H Q I (w σ H Q q)⟩
theorem PTi {X : Cx} {e : Expr} {t t' : TT} (h : PT X e t) (w : ∀ σ H Q, t' σ H Q → t σ H Q) : PT X e t' := ⟨fun pins s σ H Q I q => h.run pins s σ H Q I (w σ H Q q)⟩
theorem PWi {X : Cx} {e : Expr} {t t' : TT} (h : PW X e t) (w : ∀ σ H Q, t' σ H Q → t σ H Q) : PW X e t' := ⟨fun wh pins s σ H Q I q => h.run wh pins s σ H Q I (w σ H Q q)⟩
theorem PAi {X : Cx} {e : List Expr} {t t' : TA} (h : PA X e t) (w : ∀ σ H Q, t' σ H Q → t σ H Q) : PA X e t' := ⟨fun p pins s σ H Q I q => h.run p pins s σ H Q I (w σ H Q q)⟩
theorem PSi {X : Cx} {e : Stmt} {t t' : TS} (h : PS X e t) (w : ∀ E σ H, t' E σ H → t E σ H) : PS X e t' := ⟨fun pins s σ H E I q => h.run pins s σ H E I (w E σ H q)⟩
theorem PSsi {X : Cx} {e : List Stmt} {t t' : TS} (h : PSs X e t) (w : ∀ E σ H, t' E σ H → t E σ H) : PSs X e t' := ⟨fun pins s σ H E I q => h.run pins s σ H E I (w E σ H q)⟩

/-! ### names and constants -/
def rd (i : Nat) : List Sl → RE D := fun r => match r[i]? with
  | some (.val d) => .ok d r
  | some (.own d) => .ok d (r.set i (.val d))
  | _ => .bad
/-- the data that a name holds, read where it stands -/
def pk (i : Nat) : List Sl → RE D := fun r => match r[i]? with
  | some (.val d) => .ok d r
  | some (.own d) => .ok d r
  | some (.io d) => .ok d r
  | _ => .bad
def cst (d : D) : List Sl → RE D := fun r => .ok d r
section
variable {X : Cx} {J : Jx}
theorem e_name (i : Nat) {x : Str} {pos : Pos} (hN : X.N[i]? = some x := by rfl) (hv : Vis X.env.scope x := by first | exact Or.inl rfl | exact Or.inr (Or.inl rfl) | exact Or.inr (Or.inr rfl)) (hd : (x == ("__debug__" : Str)) = false := by decide)
    (hcd : (x == ("__classdict__" : Str)) = false := by decide) : PE X (.Name x pos) (tE J (rd i)) := by
  refine PEi (pe_var hN hv hd hcd) fun σ H Q ⟨M, r, I, h⟩ => ?_
  unfold rd at h
  cases e : r[i]? with
  | none => rw [e] at h; exact h.elim
  | some s =>
    rw [e] at h
    cases s with
    | val d =>
      obtain ⟨v, hv, q⟩ := I.slot i _ e
      exact ⟨v, hv, h v M H Step.refl I q⟩
    | own d =>
      obtain ⟨a, ha, I', R'⟩ := I.freezeAt e
      exact ⟨_, ha, h _ _ H (Step.freeze a) I' R'⟩
    | un => exact h.elim
    | io d => exact h.elim
    | xc x => exact h.elim
theorem Out.ok_here {M : Addr → Prop} {H : Hp} {σ : St} {r : List Sl} {d : D} {v : V} {Q : VK} (I : SI J M r σ H) (h : Out J (RV J) M H σ (.ok d r) Q) (q : Rep J.G M H d v) : Q v H := h v M H Step.refl I q
theorem e_int {i : Int} {j : Nat} {pos : Pos} : PE X (.Constant (.int i) j pos) (tE J (cst (.int i))) := PEi pe_int fun σ H Q ⟨M, r, I, h⟩ => h _ M H Step.refl I rfl
theorem e_bl {i : Bool} {j : Nat} {pos : Pos} : PE X (.Constant (.bool i) j pos) (tE J (cst (.bl i))) := PEi pe_bl fun σ H Q ⟨M, r, I, h⟩ => h _ M H Step.refl I rfl
theorem e_non {j : Nat} {pos : Pos} : PE X (.Constant .none j pos) (tE J (cst .non)) := PEi pe_non fun σ H Q ⟨M, r, I, h⟩ => h _ M H Step.refl I rfl
theorem e_str {i : Str} {j : Nat} {pos : Pos} : PE X (.Constant (.str i) j pos) (tE J (cst (.str i))) := PEi pe_str fun σ H Q ⟨M, r, I, h⟩ => h _ M H Step.refl I rfl
/-- a def of the text, as a value -/
theorem e_fn {c : Str} {f : Addr} {pos : Pos} (hg : Gl X c) (hm : X.mg c = some (.ref f)) (hG : J.G.mg c = some (.ref f)) (hd : (c == ("__debug__" : Str)) = false := by decide) : PE X (.Name c pos) (tE J (cst (.fn c))) :=
  PEi (pe_glob (v := .ref f) hg hm rfl hd) fun σ H Q ⟨M, r, I, h⟩ => h _ M H Step.refl I ⟨f, rfl, hG⟩
/-- a constant of the module: data whose every part is written -/
theorem e_glob {c : Str} {u : Value} {v : V} {d : D} {pos : Pos} (hg : Gl X c) (hm : X.mg c = some u) (rv : RelV v u) (hR : ∀ M H, Rep J.G M H d v) (hd : (c == ("__debug__" : Str)) = false := by decide) : PE X (.Name c pos) (tE J (cst d)) :=
  PEi (pe_glob hg hm rv hd) fun σ H Q ⟨M, r, I, h⟩ => h _ M H Step.refl I (hR M H)

/-! ### operators on values -/
/-- data read where it stands: it may be an owned object -/
def RepB (G : Gm) (M : Addr → Prop) (H : Hp) (d : D) (v : V) : Prop := Rep G M H d v ∨ ∃ a, v = .ref a ∧ OwnAt G M H a d
def RW (J : Jx) : List Sl → St → (Addr → Prop) → Hp → D → V → Prop := fun _ _ M H d v => RepB J.G M H d v
abbrev tB (J : Jx) (f : List Sl → RE D) : TE := tX J (RW J) f
theorem b_of {e : Expr} {f : List Sl → RE D} (h : PE X e (tE J f)) : PE X e (tB J f) := PEi h fun σ H Q ⟨M, r, I, q⟩ => ⟨M, r, I, by
  cases e : f r with
  | ok d r1 => rw [e] at q; exact fun v M' H' st I' rv => q v M' H' st I' (.inl rv)
  | exn x r1 => rw [e] at q; exact q
  | bad => rw [e] at q; exact q.elim⟩
theorem pk_core {i : Nat} {M : Addr → Prop} {r : List Sl} {σ : St} {H : Hp} {d : D} {r' : List Sl} (I : SI J M r σ H) (e : pk i r = .ok d r') : r' = r ∧ ∃ v, σ[i]? = some (some v) ∧ RepB J.G M H d v := by
  unfold pk at e
  split at e
  · rename_i d' h; cases e
    obtain ⟨v, hv, q⟩ := I.slot i _ h
    exact ⟨rfl, v, hv, .inl q⟩
  · rename_i d' h; cases e
    obtain ⟨a, ha, m, q, _⟩ := I.slot i _ h
    exact ⟨rfl, _, ha, .inr ⟨a, rfl, q⟩⟩
  · rename_i d' h; cases e
    obtain ⟨a, ha, m, q, _⟩ := I.slot i _ h
    exact ⟨rfl, _, ha, .inr ⟨a, rfl, q⟩⟩
  · cases e
theorem b_name (i : Nat) {x : Str} {pos : Pos} (hN : X.N[i]? = some x := by rfl) (hv : Vis X.env.scope x := by first | exact Or.inl rfl | exact Or.inr (Or.inl rfl) | exact Or.inr (Or.inr rfl)) (hd : (x == ("__debug__" : Str)) = false := by decide)
    (hcd : (x == ("__classdict__" : Str)) = false := by decide) : PE X (.Name x pos) (tB J (pk i)) := by
  refine PEi (pe_var hN hv hd hcd) fun σ H Q ⟨M, r, I, h⟩ => ?_
  cases e : pk i r with
  | ok d r1 =>
    rw [e] at h
    obtain ⟨rfl, v, hv, q⟩ := pk_core I e
    exact ⟨v, hv, h v M H Step.refl I q⟩
  | exn x r1 => unfold pk at e; split at e <;> cases e
  | bad => rw [e] at h; exact h.elim
def has (i : Nat) (r : List Sl) : Bool := match pk i r with
  | .ok _ _ => true
  | _ => false
theorem has_core {i : Nat} {M : Addr → Prop} {r : List Sl} {σ : St} {H : Hp} (I : SI J M r σ H) (e : has i r = true) : ∃ v, σ[i]? = some (some v) := by
  unfold has at e
  split at e
  · rename_i h
    obtain ⟨_, v, hv, _⟩ := pk_core I h
    exact ⟨v, hv⟩
  · cases e
def liftO (o : Option D) (r : List Sl) : RE D := match o with
  | some d => .ok d r
  | none => .bad
def bin (g : D → D → Option D) (fa fb : List Sl → RE D) : List Sl → RE D := fun r => (fa r).bind fun x r1 => (fb r1).bind fun y r2 => liftO (g x y) r2
/-- where the right one is a name, read where it stands -/
def OpD (G : Gm) (r2 : R2) (g : D → D → Option D) : Prop := ∀ M H x y vx vy d (Q : VK), MD M H → g x y = some d → RepB G M H x vx → RepB G M H y vy → (∀ v H', Extn H H' → Rep G M H' d v → Q v H') → r2 vx vy H Q
theorem op_core {M : Addr → Prop} {H : Hp} {σ : St} {r : List Sl} {x y : D} {vx vy : V} {Q : VK} {r2 : R2} {g : D → D → Option D} (hg : OpD J.G r2 g) (I : SI J M r σ H) (rx : RepB J.G M H x vx) (ry : RepB J.G M H y vy)
    (h : Out J (RV J) M H σ (liftO (g x y) r) Q) : r2 vx vy H Q := by
  cases e : g x y with
  | none => rw [e] at h; exact h.elim
  | some d =>
    rw [e] at h
    exact hg M H x y vx vy d Q I.md e rx ry fun v H' ex q => h v M H' (Step.ext ex) (I.ext ex) q
variable {a b : Expr} {fa fb : List Sl → RE D} {pos : Pos}
theorem bin_core {r2 : R2} {g : D → D → Option D} (hg : OpD J.G r2 g) (σ : St) (H : Hp) (Q : VK) (h : tE J (bin g fa fb) σ H Q) : tOp r2 (tE J fa) (tB J fb) σ H Q := by
  obtain ⟨M, r, I, h⟩ := h
  refine ⟨M, r, I, Out.bind h fun x r1 vx M1 H1 st1 I1 rx h1 => ?_⟩
  refine ⟨M1, r1, I1, Out.bind h1 fun y r2 vy M2 H2 st2 I2 ry h2 => ?_⟩
  exact op_core hg I2 (.inl (Rep.step st2 I1.md _ _ rx)) ry h2
theorem e_bin {op : Operator} {r2 : R2} {g : D → D → Option D} (ho : OpR X (binaryOp op) r2) (hg : OpD J.G r2 g) (ha : PE X a (tE J fa)) (hb : PE X b (tB J fb)) : PE X (.BinOp a op b pos) (tE J (bin g fa fb)) :=
  PEi (pe_op ho ha hb) fun σ H Q h => bin_core hg σ H Q h
theorem e_cmp {op : CmpOp} {r2 : R2} {g : D → D → Option D} (ho : OpR X (compareOp op) r2) (hg : OpD J.G r2 g) (ha : PE X a (tE J fa)) (hb : PE X b (tB J fb)) (hm : behindInMarks op b = false) : PE X (.Compare a [op] [b] pos) (tE J (bin g fa fb)) :=
  PEi (pe_cmpR ho ha hb hm) fun σ H Q h => bin_core hg σ H Q h
/-- the left one a name, read where it stands (behind the right one) -/
def binL (g : D → D → Option D) (i : Nat) (fb : List Sl → RE D) : List Sl → RE D := fun r => if has i r then (fb r).bind fun y r1 => (pk i r1).bind fun x r2 => liftO (g x y) r2 else .bad
theorem binL_core {r2 : R2} {g : D → D → Option D} {i : Nat} (hg : OpD J.G r2 g) (σ : St) (H : Hp) (Q : VK) (h : tE J (binL g i fb) σ H Q) : tOp r2 (tVar i) (tB J fb) σ H Q := by
  obtain ⟨M, r, I, h⟩ := h
  unfold binL at h
  split at h
  · rename_i hh
    obtain ⟨v, hv⟩ := has_core I hh
    refine ⟨v, hv, M, r, I, Out.bind h fun y r1 vy M1 H1 st1 I1 ry h1 => ?_⟩
    cases e : pk i r1 with
    | ok d r3 =>
      rw [e] at h1
      obtain ⟨rfl, u, hu, q⟩ := pk_core I1 e
      rw [hv] at hu
      cases hu
      exact op_core hg I1 q ry h1
    | exn x r1 => unfold pk at e; split at e <;> cases e
    | bad => rw [e] at h1; exact h1.elim
  · exact h.elim
theorem e_binL {op : Operator} {r2 : R2} {g : D → D → Option D} (i : Nat) {x : Str} {p : Pos} (ho : OpR X (binaryOp op) r2) (hg : OpD J.G r2 g) (hb : PE X b (tB J fb)) (hN : X.N[i]? = some x := by rfl) (hv : Vis X.env.scope x := by first | exact Or.inl rfl | exact Or.inr (Or.inl rfl) | exact Or.inr (Or.inr rfl)) (hd : (x == ("__debug__" : Str)) = false := by decide)
    (hcd : (x == ("__classdict__" : Str)) = false := by decide) : PE X (.BinOp (.Name x p) op b pos) (tE J (binL g i fb)) :=
  PEi (pe_op ho (pe_var hN hv hd hcd) hb) fun σ H Q h => binL_core hg σ H Q h
theorem e_cmpL {op : CmpOp} {r2 : R2} {g : D → D → Option D} (i : Nat) {x : Str} {p : Pos} (ho : OpR X (compareOp op) r2) (hg : OpD J.G r2 g) (hb : PE X b (tB J fb)) (hm : behindInMarks op b = false) (hN : X.N[i]? = some x := by rfl) (hv : Vis X.env.scope x := by first | exact Or.inl rfl | exact Or.inr (Or.inl rfl) | exact Or.inr (Or.inr rfl)) (hd : (x == ("__debug__" : Str)) = false := by decide)
    (hcd : (x == ("__classdict__" : Str)) = false := by decide) : PE X (.Compare (.Name x p) [op] [b] pos) (tE J (binL g i fb)) :=
  PEi (pe_cmpR ho (pe_var hN hv hd hcd) hb hm) fun σ H Q h => binL_core hg σ H Q h
def un (g : D → Option D) (fa : List Sl → RE D) : List Sl → RE D := fun r => (fa r).bind fun x r1 => liftO (g x) r1
def gNeg : D → Option D
  | .int i => some (.int (-i))
  | _ => none
theorem e_neg (ha : PE X a (tE J fa)) : PE X (.UnaryOp .USub a pos) (tE J (un gNeg fa)) :=
  PEi (pe_un un_neg ha) fun σ H Q ⟨M, r, I, h⟩ => ⟨M, r, I, Out.bind h fun x r1 vx M1 H1 st1 I1 rx h1 => by
    cases x with
    | int i => cases rx; exact ⟨i, rfl, h1 _ M1 H1 Step.refl I1 rfl⟩
    | _ => exact h1.elim⟩
end
end DL

set_option Elab.async false
set_option linter.all false
set_option maxRecDepth 100000
set_option maxHeartbeats 4000000
namespace DL
open PySem L2

/-! ### data: plain to a depth, equality -/
def okd : Nat → D → Bool
  | _, .non => true
  | _, .bl _ => true
  | _, .int _ => true
  | _, .str _ => true
  | k + 1, .tup xs => xs.all (okd k)
  | k + 1, .lst xs => xs.all (okd k)
  | _, _ => false
mutual
def D.eqb : D → D → Bool
  | .non, .non => true
  | .bl a, .bl b => a == b
  | .bl a, .int j => (if a then 1 else 0) == j
  | .int i, .bl b => i == (if b then 1 else 0)
  | .int i, .int j => i == j
  | .str x, .str y => x == y
  | .lst xs, .lst ys => eqbL xs ys
  | .tup xs, .tup ys => eqbL xs ys
  | _, _ => false
def eqbL : List D → List D → Bool
  | [], [] => true
  | x :: xs, y :: ys => D.eqb x y && eqbL xs ys
  | _, _ => false
end
mutual
def toPy : D → PyData
  | .non => .none
  | .bl b => .bool b
  | .int i => .int i
  | .str s => .str s
  | .tup xs => .tuple (toPyL xs)
  | .lst xs => .list (toPyL xs)
  | .dct _ _ => .none
  | .ob _ _ _ => .none
  | .fn _ => .none
  | .scr _ => .none
def toPyL : List D → List PyData
  | [] => []
  | x :: xs => toPy x :: toPyL xs
end
theorem toPyL_eq : ∀ xs : List D, toPyL xs = xs.map toPy
  | [] => rfl
  | x :: xs => by show toPy x :: toPyL xs = _; rw [toPyL_eq xs]; rfl
/-- data that is compared -/
def okp (d : D) : Prop := ∃ k, okd k d = true
theorem okd_tup {k : Nat} {xs : List D} : okd (k + 1) (.tup xs) = xs.all (okd k) := by rw [okd]
theorem okd_lst {k : Nat} {xs : List D} : okd (k + 1) (.lst xs) = xs.all (okd k) := by rw [okd]
theorem okd_items {k : Nat} {xs : List D} (h : okd k (.tup xs) = true ∨ okd k (.lst xs) = true) : ∃ j, k = j + 1 ∧ xs.all (okd j) = true := by
  cases k with
  | zero => rcases h with h | h <;> simp [okd] at h
  | succ j =>
    refine ⟨j, rfl, ?_⟩
    rcases h with h | h
    · rwa [okd_tup] at h
    · rwa [okd_lst] at h
theorem okd_other {k : Nat} {d : D} (h : okd k d = true) : (∀ a b, d ≠ .dct a b) ∧ (∀ a b c, d ≠ .ob a b c) ∧ (∀ a, d ≠ .fn a) ∧ ∀ a, d ≠ .scr a := by
  refine ⟨?_, ?_, ?_, ?_⟩ <;> intros <;> intro e <;> subst e <;> cases k <;> simp [okd] at h
mutual
theorem dp_of (G : Gm) (M : Addr → Prop) (H : Hp) : ∀ (d : D) (k : Nat) (v : V), okd k d = true → Rep G M H d v → Dp G.K H v (toPy d)
  | .non, _, _, _, h => by cases h; exact .non
  | .bl b, _, _, _, h => by cases h; exact .bl b
  | .int i, _, _, _, h => by cases h; exact .int i
  | .str s, _, _, _, h => by cases h; exact .str s
  | .tup xs, k, _, ho, ⟨a, vs, e, q, r⟩ => by
    subst e
    obtain ⟨j, rfl, hj⟩ := okd_items (.inl ho)
    exact .tup q (dpAll_of G M H xs j vs hj r)
  | .lst xs, k, _, ho, ⟨a, vs, e, n, q, r⟩ => by
    subst e
    obtain ⟨j, rfl, hj⟩ := okd_items (.inr ho)
    exact .lst (SqL.of q) (dpAll_of G M H xs j vs hj r)
  | .dct _ _, _, _, ho, _ => absurd rfl ((okd_other ho).1 _ _)
  | .ob _ _ _, _, _, ho, _ => absurd rfl ((okd_other ho).2.1 _ _ _)
  | .fn _, _, _, ho, _ => absurd rfl ((okd_other ho).2.2.1 _)
  | .scr _, _, _, ho, _ => absurd rfl ((okd_other ho).2.2.2 _)
theorem dpAll_of (G : Gm) (M : Addr → Prop) (H : Hp) : ∀ (ds : List D) (k : Nat) (vs : List V), ds.all (okd k) = true → RepL G M H ds vs → DpAll G.K H vs (toPyL ds)
  | [], _, _, _, h => by cases h; exact .nil
  | d :: ds, k, _, ho, ⟨v, ws, e, q, r⟩ => by
    subst e
    rw [List.all_cons, Bool.and_eq_true] at ho
    exact .cons (dp_of G M H d k v ho.1 q) (dpAll_of G M H ds k ws ho.2 r)
end
mutual
theorem plain_of : ∀ (d : D) (k : Nat), okd k d = true → (toPy d).plain = true ∧ (toPy d).depth ≤ k
  | .non, _, _ => ⟨rfl, Nat.zero_le _⟩
  | .bl b, _, _ => ⟨rfl, Nat.zero_le _⟩
  | .int i, _, _ => ⟨rfl, Nat.zero_le _⟩
  | .str s, _, _ => ⟨rfl, Nat.zero_le _⟩
  | .tup xs, k, ho => by
    obtain ⟨j, rfl, hj⟩ := okd_items (.inl ho)
    have z := plainAll_of xs j hj
    exact ⟨z.1, Nat.succ_le_succ z.2⟩
  | .lst xs, k, ho => by
    obtain ⟨j, rfl, hj⟩ := okd_items (.inr ho)
    have z := plainAll_of xs j hj
    exact ⟨z.1, Nat.succ_le_succ z.2⟩
  | .dct _ _, _, ho => absurd rfl ((okd_other ho).1 _ _)
  | .ob _ _ _, _, ho => absurd rfl ((okd_other ho).2.1 _ _ _)
  | .fn _, _, ho => absurd rfl ((okd_other ho).2.2.1 _)
  | .scr _, _, ho => absurd rfl ((okd_other ho).2.2.2 _)
theorem plainAll_of : ∀ (ds : List D) (k : Nat), ds.all (okd k) = true → PyData.plainAll (toPyL ds) = true ∧ PyData.depthAll (toPyL ds) ≤ k
  | [], _, _ => ⟨rfl, Nat.zero_le _⟩
  | d :: ds, k, ho => by
    rw [List.all_cons, Bool.and_eq_true] at ho
    have h1 := plain_of d k ho.1
    have h2 := plainAll_of ds k ho.2
    refine ⟨?_, Nat.max_le.mpr ⟨h1.2, h2.2⟩⟩
    show ((toPy d).plain && PyData.plainAll (toPyL ds)) = true
    rw [h1.1, h2.1]
    rfl
end
mutual
theorem eqv_py : ∀ (x y : D) (j k : Nat), okd j x = true → okd k y = true → PyData.eqv (toPy x) (toPy y) = x.eqb y
  | .non, y, j, k, h1, h2 => by
    cases y <;> first | rfl | exact absurd rfl ((okd_other h2).1 _ _) | exact absurd rfl ((okd_other h2).2.1 _ _ _) | exact absurd rfl ((okd_other h2).2.2.1 _) | exact absurd rfl ((okd_other h2).2.2.2 _)
  | .bl b, y, j, k, h1, h2 => by
    cases y <;> first | rfl | exact absurd rfl ((okd_other h2).1 _ _) | exact absurd rfl ((okd_other h2).2.1 _ _ _) | exact absurd rfl ((okd_other h2).2.2.1 _) | exact absurd rfl ((okd_other h2).2.2.2 _)
  | .int i, y, j, k, h1, h2 => by
    cases y <;> first | rfl | exact absurd rfl ((okd_other h2).1 _ _) | exact absurd rfl ((okd_other h2).2.1 _ _ _) | exact absurd rfl ((okd_other h2).2.2.1 _) | exact absurd rfl ((okd_other h2).2.2.2 _)
  | .str s, y, j, k, h1, h2 => by
    cases y <;> first | rfl | exact absurd rfl ((okd_other h2).1 _ _) | exact absurd rfl ((okd_other h2).2.1 _ _ _) | exact absurd rfl ((okd_other h2).2.2.1 _) | exact absurd rfl ((okd_other h2).2.2.2 _)
  | .tup xs, y, j, k, h1, h2 => by
    cases y with
    | tup ys =>
      obtain ⟨j, rfl, hj⟩ := okd_items (.inl h1)
      obtain ⟨k, rfl, hk⟩ := okd_items (.inl h2)
      exact eqvAll_py xs ys j k hj hk
    | _ => first | rfl | exact absurd rfl ((okd_other h2).1 _ _) | exact absurd rfl ((okd_other h2).2.1 _ _ _) | exact absurd rfl ((okd_other h2).2.2.1 _) | exact absurd rfl ((okd_other h2).2.2.2 _)
  | .lst xs, y, j, k, h1, h2 => by
    cases y with
    | lst ys =>
      obtain ⟨j, rfl, hj⟩ := okd_items (.inr h1)
      obtain ⟨k, rfl, hk⟩ := okd_items (.inr h2)
      exact eqvAll_py xs ys j k hj hk
    | _ => first | rfl | exact absurd rfl ((okd_other h2).1 _ _) | exact absurd rfl ((okd_other h2).2.1 _ _ _) | exact absurd rfl ((okd_other h2).2.2.1 _) | exact absurd rfl ((okd_other h2).2.2.2 _)
  | .dct _ _, _, _, _, ho, _ => absurd rfl ((okd_other ho).1 _ _)
  | .ob _ _ _, _, _, _, ho, _ => absurd rfl ((okd_other ho).2.1 _ _ _)
  | .fn _, _, _, _, ho, _ => absurd rfl ((okd_other ho).2.2.1 _)
  | .scr _, _, _, _, ho, _ => absurd rfl ((okd_other ho).2.2.2 _)
theorem eqvAll_py : ∀ (xs ys : List D) (j k : Nat), xs.all (okd j) = true → ys.all (okd k) = true → PyData.eqvAll (toPyL xs) (toPyL ys) = eqbL xs ys
  | [], [], _, _, _, _ => rfl
  | [], _ :: _, _, _, _, _ => rfl
  | _ :: _, [], _, _, _, _ => rfl
  | x :: xs, y :: ys, j, k, h1, h2 => by
    rw [List.all_cons, Bool.and_eq_true] at h1 h2
    show (PyData.eqv (toPy x) (toPy y) && PyData.eqvAll (toPyL xs) (toPyL ys)) = (D.eqb x y && eqbL xs ys)
    rw [eqv_py x y j k h1.1 h2.1, eqvAll_py xs ys j k h1.2 h2.2]
end

theorem dp_ofB {G : Gm} {M : Addr → Prop} {H : Hp} {d : D} {k : Nat} {v : V} (ho : okd k d = true) (h : RepB G M H d v) : Dp G.K H v (toPy d) := by
  rcases h with h | ⟨a, rfl, h⟩
  · exact dp_of G M H d k v ho h
  · cases d with
    | lst xs =>
      obtain ⟨vs, ha, r⟩ := h
      obtain ⟨j, rfl, hj⟩ := okd_items (.inr ho)
      exact .lst (SqL.of ha) (dpAll_of G M H xs j vs hj r)
    | dct _ _ => exact absurd rfl ((okd_other ho).1 _ _)
    | ob _ _ _ => exact absurd rfl ((okd_other ho).2.1 _ _ _)
    | _ => exact h.elim
section
variable {G : Gm} {M : Addr → Prop} {H : Hp}
theorem RepB.int {i : Int} {v : V} (h : RepB G M H (.int i) v) : v = .int i := h.elim id fun ⟨_, _, z⟩ => z.elim
theorem RepB.bl {i : Bool} {v : V} (h : RepB G M H (.bl i) v) : v = .bl i := h.elim id fun ⟨_, _, z⟩ => z.elim
theorem RepB.str {i : Str} {v : V} (h : RepB G M H (.str i) v) : v = .str i := h.elim id fun ⟨_, _, z⟩ => z.elim
theorem RepB.non {v : V} (h : RepB G M H .non v) : v = .non := h.elim id fun ⟨_, _, z⟩ => z.elim
theorem RepB.tup {xs : List D} {v : V} (h : RepB G M H (.tup xs) v) : ∃ a vs, v = .ref a ∧ SqT G.K H a vs ∧ RepL G M H xs vs := h.elim id fun ⟨_, _, z⟩ => z.elim
theorem RepB.lst {xs : List D} {v : V} (h : RepB G M H (.lst xs) v) : ∃ a vs, v = .ref a ∧ H a = some (.lst vs) ∧ RepL G M H xs vs := by
  rcases h with ⟨a, vs, e, _, h, r⟩ | ⟨a, e, vs, h, r⟩
  · exact ⟨a, vs, e, h, r⟩
  · exact ⟨a, vs, e, h, r⟩
theorem RepB.dct {ks ds : List D} {v : V} (h : RepB G M H (.dct ks ds) v) : ∃ a vs, v = .ref a ∧ DictIs H a ks vs ∧ RepL G M H ds vs := by
  rcases h with ⟨a, vs, e, _, h, r⟩ | ⟨a, e, vs, h, r⟩
  · exact ⟨a, vs, e, h, r⟩
  · exact ⟨a, vs, e, h, r⟩
theorem RepB.ob {c : Str} {ns : List Str} {ds : List D} {v : V} (h : RepB G M H (.ob c ns ds) v) : ∃ a C dx vs, v = .ref a ∧ G.mg c = some (.ref C) ∧ H a = some (.ins C dx (ns.zip vs)) ∧ ns.length = vs.length ∧ RepL G M H ds vs := by
  rcases h with ⟨a, C, dx, vs, e, _, hc, h, l, r⟩ | ⟨a, e, C, dx, vs, hc, h, l, r⟩
  · exact ⟨a, C, dx, vs, e, hc, h, l, r⟩
  · exact ⟨a, C, dx, vs, e, hc, h, l, r⟩
theorem RepB.scr {ns : List Int} {v : V} (h : RepB G M H (.scr ns) v) : ∃ a, v = .ref a ∧ SqL G.K H a (ns.map V.int) := by
  rcases h with ⟨a, e, h⟩ | ⟨a, e, h⟩
  · exact ⟨a, e, h.elim (fun q => .inl q.2) .inr⟩
  · exact h.elim
end

/-! ### the operators -/
abbrev LIM : Nat := 1000000
theorem le_size {n : Nat} (h : n ≤ LIM) : n ≤ sizeLine := by
  rw [sizeLine_eq]
  exact Nat.le_trans h (by decide)
theorem lt_size {n : Nat} (h : n ≤ LIM) : n < sizeLine := by
  rw [sizeLine_eq]
  exact Nat.lt_of_le_of_lt h (by decide)
def gAdd : D → D → Option D
  | .int a, .int b => some (.int (a + b))
  | .str a, .str b => if a.length + b.length ≤ LIM then some (.str (a ++ b)) else none
  | .tup xs, .tup ys => if xs.length + ys.length ≤ LIM then some (.tup (xs ++ ys)) else none
  | .lst xs, .lst ys => if xs.length + ys.length ≤ LIM then some (.lst (xs ++ ys)) else none
  | _, _ => none
def rAddA (K : PySem.W.Frag) : R2 := fun x y H Q => rI0 (fun i j => .int (i + j)) x y H Q ∨ (∃ i j, x = .str i ∧ y = .str j ∧ i.length + j.length ≤ sizeLine ∧ Q (.str (i ++ j)) H) ∨ rCatA K x y H Q ∨ rCat x y H Q
theorem op_addA {X : Cx} : OpR X (binaryOp .Add) (rAddA X.K) := OpR.or op_add (OpR.or op_add_str (OpR.or op_catA op_cat))
theorem Rep.newTup {G : Gm} {M : Addr → Prop} {H : Hp} {p : Addr} {xs : List D} {vs : List V} (hp : H p = none) (md : MD M H) (r : RepL G M H xs vs) : Rep G M (upd H p (.tup vs)) (.tup xs) (.ref p) :=
  ⟨p, vs, rfl, .inl (.inl upd_same), RepL.step (Step.ext fun b o e => by rw [upd_ne (ne_of_none e hp)]; exact e) md _ _ r⟩
theorem MD.new {M : Addr → Prop} {H : Hp} {p : Addr} (md : MD M H) (hp : H p = none) : ¬ M p := fun m => by have z := md p m; rw [hp] at z; exact z
theorem Rep.newLst {G : Gm} {M : Addr → Prop} {H : Hp} {p : Addr} {xs : List D} {vs : List V} (hp : H p = none) (md : MD M H) (r : RepL G M H xs vs) : Rep G M (upd H p (.lst vs)) (.lst xs) (.ref p) :=
  ⟨p, vs, rfl, md.new hp, upd_same, RepL.step (Step.ext fun b o e => by rw [upd_ne (ne_of_none e hp)]; exact e) md _ _ r⟩
theorem ext_new {H : Hp} {p : Addr} {o : HO} (hp : H p = none) : Extn H (upd H p o) := fun b u e => by rw [upd_ne (ne_of_none e hp)]; exact e
theorem RepL.nil_of {G : Gm} {M : Addr → Prop} {H : Hp} {xs : List D} {vs : List V} (r : RepL G M H xs vs) (h : vs = []) : xs = [] := by
  subst h
  cases xs with
  | nil => rfl
  | cons d ds => obtain ⟨v, ws, e, _⟩ := r; cases e
theorem od_add {G : Gm} : OpD G (rAddA G.K) gAdd := by
  intro M H x y vx vy d Q md e rx ry q
  unfold gAdd at e
  split at e
  · cases e; cases rx.int; cases ry.int
    exact .inl ⟨_, _, rfl, rfl, q _ H (fun _ _ h => h) rfl⟩
  · split at e
    · rename_i hl
      cases e; cases rx.str; cases ry.str
      exact .inr (.inl ⟨_, _, rfl, rfl, le_size hl, q _ H (fun _ _ h => h) rfl⟩)
    · cases e
  · split at e
    · rename_i hl
      cases e
      obtain ⟨a, vs, rfl, ha, r1⟩ := rx.tup
      obtain ⟨b, ws, rfl, hb, r2⟩ := ry.tup
      refine .inr (.inr (.inl ⟨a, b, vs, ws, rfl, rfl, ha, hb, by rw [← r1.length, ← r2.length]; exact le_size hl, fun h0 => ?_, fun h1 h2 => ?_, fun h1 h2 p hp => ?_⟩))
      · rw [r1.nil_of h0] at q
        exact q _ H (fun _ _ h => h) ⟨b, ws, rfl, hb, r2⟩
      · rw [r2.nil_of h2, List.append_nil] at q
        exact q _ H (fun _ _ h => h) ⟨a, vs, rfl, ha, r1⟩
      · exact q _ _ (ext_new hp) (Rep.newTup hp md (r1.append r2))
    · cases e
  · split at e
    · rename_i hl
      cases e
      obtain ⟨a, vs, rfl, ha, r1⟩ := rx.lst
      obtain ⟨b, ws, rfl, hb, r2⟩ := ry.lst
      refine .inr (.inr (.inr ⟨a, b, vs, ws, rfl, rfl, ha, hb, by rw [← r1.length, ← r2.length]; exact le_size hl, fun p hp => ?_⟩))
      exact q _ _ (ext_new hp) (Rep.newLst hp md (r1.append r2))
    · cases e
  · cases e
def gInt (C : Int → Int → Bool) (g : Int → Int → D) : D → D → Option D
  | .int a, .int b => if C a b then some (g a b) else none
  | _, _ => none
theorem od_int {G : Gm} {C : Int → Int → Prop} {C' : Int → Int → Bool} {g : Int → Int → V} {g' : Int → Int → D} (hC : ∀ a b, C' a b = true → C a b) (hg : ∀ G M H a b, Rep G M H (g' a b) (g a b)) : OpD G (rI C g) (gInt C' g') := by
  intro M H x y vx vy d Q md e rx ry q
  unfold gInt at e
  split at e
  · split at e
    · rename_i hl
      cases e; cases rx.int; cases ry.int
      exact ⟨_, _, rfl, rfl, hC _ _ hl, q _ H (fun _ _ h => h) (hg ..)⟩
    · cases e
  · cases e
theorem od_int0 {G : Gm} {g : Int → Int → V} {g' : Int → Int → D} (hg : ∀ G M H a b, Rep G M H (g' a b) (g a b)) : OpD G (rI0 g) (gInt (fun _ _ => true) g') := by
  intro M H x y vx vy d Q md e rx ry q
  unfold gInt at e
  split at e
  · cases e; cases rx.int; cases ry.int
    exact ⟨_, _, rfl, rfl, q _ H (fun _ _ h => h) (hg ..)⟩
  · cases e
abbrev gSub := gInt (fun _ _ => true) fun a b => .int (a - b)
abbrev gMulI := gInt (fun a b => decide (a.natAbs.log2 + b.natAbs.log2 < 1000000)) fun a b => .int (a * b)
abbrev gDiv := gInt (fun _ b => decide (0 < b) && decide (b.natAbs.log2 < 9000)) fun a b => .int (a / b)
abbrev gMod := gInt (fun _ b => decide (0 < b)) fun a b => .int (a % b)
abbrev gPow := gInt (fun a b => decide (0 ≤ b) && decide (b ≤ 1000) && decide (a.natAbs < 1000000)) fun a b => .int (a ^ b.toNat)
abbrev gLt := gInt (fun _ _ => true) fun a b => .bl (decide (a < b))
abbrev gLe := gInt (fun _ _ => true) fun a b => .bl (decide (a ≤ b))
abbrev gGt := gInt (fun _ _ => true) fun a b => .bl (decide (b < a))
abbrev gGe := gInt (fun _ _ => true) fun a b => .bl (decide (b ≤ a))
section
variable {X : Cx} {J : Jx} {a b : Expr} {fa fb : List Sl → RE D} {pos : Pos}
theorem e_add (hK : X.K = J.G.K) (ha : PE X a (tE J fa)) (hb : PE X b (tB J fb)) : PE X (.BinOp a .Add b pos) (tE J (bin gAdd fa fb)) := e_bin (hK ▸ op_addA) od_add ha hb
theorem e_sub (ha : PE X a (tE J fa)) (hb : PE X b (tB J fb)) : PE X (.BinOp a .Sub b pos) (tE J (bin gSub fa fb)) := e_bin op_sub (od_int0 fun _ _ _ _ _ => rfl) ha hb
theorem e_mul (ha : PE X a (tE J fa)) (hb : PE X b (tB J fb)) : PE X (.BinOp a .Mult b pos) (tE J (bin gMulI fa fb)) := e_bin op_mulW (od_int (fun a b h => by have h' := of_decide_eq_true h; exact h') fun _ _ _ _ _ => rfl) ha hb
theorem e_div (ha : PE X a (tE J fa)) (hb : PE X b (tB J fb)) : PE X (.BinOp a .FloorDiv b pos) (tE J (bin gDiv fa fb)) :=
  e_bin op_fdivW (od_int (fun a b h => by rw [Bool.and_eq_true] at h; exact ⟨of_decide_eq_true h.1, of_decide_eq_true h.2⟩) fun _ _ _ _ _ => rfl) ha hb
theorem e_mod (ha : PE X a (tE J fa)) (hb : PE X b (tB J fb)) : PE X (.BinOp a .Mod b pos) (tE J (bin gMod fa fb)) := e_bin op_mod (od_int (fun a b h => of_decide_eq_true h) fun _ _ _ _ _ => rfl) ha hb
theorem e_pow (ha : PE X a (tE J fa)) (hb : PE X b (tB J fb)) : PE X (.BinOp a .Pow b pos) (tE J (bin gPow fa fb)) :=
  e_bin op_pow (od_int (fun a b h => by
    rw [Bool.and_eq_true, Bool.and_eq_true] at h
    have h1 := of_decide_eq_true h.1.1
    have h2 := of_decide_eq_true h.1.2
    have h3 := of_decide_eq_true h.2
    exact ⟨h1, by omega, by omega⟩) fun _ _ _ _ _ => rfl) ha hb
theorem e_lt (ha : PE X a (tE J fa)) (hb : PE X b (tB J fb)) : PE X (.Compare a [.Lt] [b] pos) (tE J (bin gLt fa fb)) := e_cmp op_lt (od_int0 fun _ _ _ _ _ => rfl) ha hb (nomark _)
theorem e_le (ha : PE X a (tE J fa)) (hb : PE X b (tB J fb)) : PE X (.Compare a [.LtE] [b] pos) (tE J (bin gLe fa fb)) := e_cmp op_le (od_int0 fun _ _ _ _ _ => rfl) ha hb (nomark _)
theorem e_gt (ha : PE X a (tE J fa)) (hb : PE X b (tB J fb)) : PE X (.Compare a [.Gt] [b] pos) (tE J (bin gGt fa fb)) := e_cmp op_gt (od_int0 fun _ _ _ _ _ => rfl) ha hb (nomark _)
theorem e_ge (ha : PE X a (tE J fa)) (hb : PE X b (tB J fb)) : PE X (.Compare a [.GtE] [b] pos) (tE J (bin gGe fa fb)) := e_cmp op_ge (od_int0 fun _ _ _ _ _ => rfl) ha hb (nomark _)
end

/-! ### == and in -/
def rEqP (K : PySem.W.Frag) (neg : Bool) : R2 := fun x y H Q => ∃ d e, Dp K H x d ∧ Dp K H y e ∧ d.plain = true ∧ e.plain = true ∧ d.depth ≤ 40 ∧ Q (.bl (PyData.eqv d e ^^ neg)) H
theorem op_eqP {X : Cx} (hu : X.A.units + 64 < cLine) : OpR X (compareOp .Eq) (rEqP X.K false) := by
  intro pins s σ H x y v u Q I rx ry h
  obtain ⟨d, e, hd, he, sd, se, hdp, q⟩ := h
  obtain ⟨as, r1⟩ := Dp.reads I d x v hd rx
  obtain ⟨bs, r2⟩ := Dp.reads I e y u he ry
  rw [Bool.xor_false] at q
  exact SeqAt.eq_plain r1 r2 sd se (by have := Nat.min_le_left d.depth e.depth; omega) ⟨.bl _, H, I, rfl, q⟩
theorem op_neP {X : Cx} (hu : X.A.units + 64 < cLine) : OpR X (compareOp .NotEq) (rEqP X.K true) := by
  intro pins s σ H x y v u Q I rx ry h
  obtain ⟨d, e, hd, he, sd, se, hdp, q⟩ := h
  obtain ⟨as, r1⟩ := Dp.reads I d x v hd rx
  obtain ⟨bs, r2⟩ := Dp.reads I e y u he ry
  rw [Bool.xor_true] at q
  exact SeqAt.ne_plain r1 r2 sd se (by have := Nat.min_le_left d.depth e.depth; omega) ⟨.bl _, H, I, rfl, q⟩
def gEq (neg : Bool) (x y : D) : Option D := if okd 20 x && okd 20 y then some (.bl (x.eqb y ^^ neg)) else none
theorem od_eq {G : Gm} {neg : Bool} : OpD G (rEqP G.K neg) (gEq neg) := by
  intro M H x y vx vy d Q md e rx ry q
  unfold gEq at e
  split at e
  · rename_i h
    rw [Bool.and_eq_true] at h
    cases e
    have p1 := plain_of x 20 h.1
    have p2 := plain_of y 20 h.2
    refine ⟨toPy x, toPy y, dp_ofB h.1 rx, dp_ofB h.2 ry, p1.1, p2.1, by omega, ?_⟩
    rw [eqv_py x y 20 20 h.1 h.2]
    exact q _ H (fun _ _ h => h) rfl
  · cases e
/-- what stands on the right of in -/
def gIn (neg : Bool) (x : D) : D → Option D
  | .lst ys => if okd 20 x && ys.all (okd 20) then some (.bl (ys.any (fun y => y.eqb x) ^^ neg)) else none
  | .tup ys => if okd 20 x && ys.all (okd 20) then some (.bl (ys.any (fun y => y.eqb x) ^^ neg)) else none
  | .str z => match x with
    | .str y => if y.length = 1 then some (.bl (decide (y.cps.getD 0 0 ∈ z.cps.toList) ^^ neg)) else none
    | _ => none
  | _ => none
def rInP (K : PySem.W.Frag) (neg : Bool) : R2 := fun x y H Q =>
  (∃ d ds, Dp K H x d ∧ (Dp K H y (.list ds) ∨ Dp K H y (.tuple ds)) ∧ d.plain = true ∧ PyData.plainAll ds = true ∧ d.depth ≤ 40 ∧ Q (.bl (ds.any (fun z => PyData.eqv z d) ^^ neg)) H) ∨
  (∃ (c : Nat) (z : Str), x = .str ⟨#[c]⟩ ∧ y = .str z ∧ Q (.bl (decide (c ∈ z.cps.toList) ^^ neg)) H)
theorem op_inP {X : Cx} (hu : X.A.units + 64 < cLine) : OpR X (compareOp .In) (rInP X.K false) := by
  intro pins s σ H x y v u Q I rx ry h
  rcases h with ⟨d, ds, hd, he, sd, se, hdp, q⟩ | ⟨c, z, hx, hy, q⟩
  · obtain ⟨as, r1⟩ := Dp.reads I d x v hd rx
    rw [Bool.xor_false] at q
    have hm := Nat.min_le_right (PyData.depthAll ds) d.depth
    rcases he with he | he
    · obtain ⟨bs, r2⟩ := Dp.reads I _ y u he ry
      exact SeqAt.in_list_data r2 r1 se sd (by omega) ⟨.bl _, H, I, rfl, q⟩
    · obtain ⟨bs, r2⟩ := Dp.reads I _ y u he ry
      exact SeqAt.in_tuple_data r2 r1 se sd (by omega) ⟨.bl _, H, I, rfl, q⟩
  · rw [Bool.xor_false] at q
    exact op_in_sign pins s σ H x y v u Q I rx ry ⟨c, z, hx, hy, q⟩
theorem op_niP {X : Cx} (hu : X.A.units + 64 < cLine) : OpR X (compareOp .NotIn) (rInP X.K true) := by
  intro pins s σ H x y v u Q I rx ry h
  rcases h with ⟨d, ds, hd, he, sd, se, hdp, q⟩ | ⟨c, z, hx, hy, q⟩
  · obtain ⟨as, r1⟩ := Dp.reads I d x v hd rx
    rw [Bool.xor_true] at q
    have hm := Nat.min_le_right (PyData.depthAll ds) d.depth
    rcases he with he | he
    · obtain ⟨bs, r2⟩ := Dp.reads I _ y u he ry
      exact SeqAt.notIn_list_data r2 r1 se sd (by omega) ⟨.bl _, H, I, rfl, q⟩
    · obtain ⟨bs, r2⟩ := Dp.reads I _ y u he ry
      exact SeqAt.notIn_tuple_data r2 r1 se sd (by omega) ⟨.bl _, H, I, rfl, q⟩
  · rw [Bool.xor_true] at q
    exact op_notIn_sign pins s σ H x y v u Q I rx ry ⟨c, z, hx, hy, q⟩
theorem any_py {x : D} (hx : okd 20 x = true) : ∀ {ys : List D}, ys.all (okd 20) = true → (toPyL ys).any (fun z => PyData.eqv z (toPy x)) = ys.any fun y => y.eqb x
  | [], _ => rfl
  | y :: ys, h => by
    rw [List.all_cons, Bool.and_eq_true] at h
    show (PyData.eqv (toPy y) (toPy x) || (toPyL ys).any _) = (D.eqb y x || ys.any _)
    rw [eqv_py y x 20 20 h.1 hx, any_py hx h.2]
theorem str_one {y : Str} (h : y.length = 1) : y = ⟨#[y.cps.getD 0 0]⟩ := by
  obtain ⟨cps⟩ := y
  have h' : cps.size = 1 := h
  congr 1
  apply Array.ext
  · simp [h']
  · intro i h1 h2
    have e : i = 0 := by simp at h2; omega
    subst e
    simp [Array.getD, h']
theorem od_in {G : Gm} {neg : Bool} : OpD G (rInP G.K neg) (gIn neg) := by
  intro M H x y vx vy d Q md e rx ry q
  unfold gIn at e
  split at e
  · split at e
    · rename_i ys h
      rw [Bool.and_eq_true] at h
      cases e
      have p1 := plain_of x 20 h.1
      have p2 := plainAll_of ys 20 h.2
      obtain ⟨a, ws, rfl, ha, r2⟩ := ry.lst
      refine .inl ⟨toPy x, toPyL ys, dp_ofB h.1 rx, .inl (.lst (SqL.of ha) (dpAll_of G M H ys 20 ws h.2 r2)), p1.1, p2.1, by omega, ?_⟩
      rw [any_py h.1 h.2]
      exact q _ H (fun _ _ h => h) rfl
    · cases e
  · split at e
    · rename_i ys h
      rw [Bool.and_eq_true] at h
      cases e
      have p1 := plain_of x 20 h.1
      have p2 := plainAll_of ys 20 h.2
      obtain ⟨a, ws, rfl, ha, r2⟩ := ry.tup
      refine .inl ⟨toPy x, toPyL ys, dp_ofB h.1 rx, .inr (.tup ha (dpAll_of G M H ys 20 ws h.2 r2)), p1.1, p2.1, by omega, ?_⟩
      rw [any_py h.1 h.2]
      exact q _ H (fun _ _ h => h) rfl
    · cases e
  · split at e
    · rename_i y
      split at e
      · rename_i h
        cases e; cases ry.str
        have ey := str_one h
        have rx' : vx = .str y := rx.str
        refine .inr ⟨y.cps.getD 0 0, _, by rw [rx', ← ey], rfl, q _ H (fun _ _ h => h) rfl⟩
      · cases e
    · cases e
  · cases e
section
variable {X : Cx} {J : Jx} {a b : Expr} {fa fb : List Sl → RE D} {pos : Pos}
theorem e_eq (hK : X.K = J.G.K) (hu : X.A.units + 64 < cLine) (ha : PE X a (tE J fa)) (hb : PE X b (tB J fb)) : PE X (.Compare a [.Eq] [b] pos) (tE J (bin (gEq false) fa fb)) := e_cmp (hK ▸ op_eqP hu) od_eq ha hb (nomark _)
theorem e_ne (hK : X.K = J.G.K) (hu : X.A.units + 64 < cLine) (ha : PE X a (tE J fa)) (hb : PE X b (tB J fb)) : PE X (.Compare a [.NotEq] [b] pos) (tE J (bin (gEq true) fa fb)) := e_cmp (hK ▸ op_neP hu) od_eq ha hb (nomark _)
theorem e_in (hK : X.K = J.G.K) (hu : X.A.units + 64 < cLine) (ha : PE X a (tE J fa)) (hb : PE X b (tB J fb)) (hm : behindInMarks .In b = false := by rfl) : PE X (.Compare a [.In] [b] pos) (tE J (bin (gIn false) fa fb)) := e_cmp (hK ▸ op_inP hu) od_in ha hb hm
theorem e_ni (hK : X.K = J.G.K) (hu : X.A.units + 64 < cLine) (ha : PE X a (tE J fa)) (hb : PE X b (tB J fb)) (hm : behindInMarks .NotIn b = false := by rfl) : PE X (.Compare a [.NotIn] [b] pos) (tE J (bin (gIn true) fa fb)) := e_cmp (hK ▸ op_niP hu) od_in ha hb hm
/-- is None, is not None -/
def gIsN (neg : Bool) : D → Option D
  | .non => some (.bl (true ^^ neg))
  | _ => some (.bl (false ^^ neg))
theorem Rep.isN {G : Gm} {M : Addr → Prop} {H : Hp} : ∀ {d : D} {v : V}, Rep G M H d v → (v = .non ↔ d = .non)
  | .non, _, h => by cases h; simp
  | .bl b, _, h => by cases h; simp
  | .int i, _, h => by cases h; simp
  | .str s, _, h => by cases h; simp
  | .tup xs, _, ⟨a, vs, e, _⟩ => by subst e; simp
  | .lst xs, _, ⟨a, vs, e, _⟩ => by subst e; simp
  | .dct ks ds, _, ⟨a, vs, e, _⟩ => by subst e; simp
  | .ob c ns ds, _, ⟨a, C, dx, vs, e, _⟩ => by subst e; simp
  | .fn c, _, ⟨f, e, _⟩ => by subst e; simp
  | .scr ns, _, ⟨a, e, _⟩ => by subst e; simp
theorem gIsN_eq (neg : Bool) {G : Gm} {M : Addr → Prop} {H : Hp} {d : D} {v : V} (h : Rep G M H d v) : gIsN neg d = some (.bl (decide (v = .non) ^^ neg)) := by
  have e := h.isN
  cases d <;> simp_all [gIsN]
theorem e_isN {j : Nat} {p : Pos} (ha : PE X a (tE J fa)) : PE X (.Compare a [.Is] [.Constant .none j p] pos) (tE J (un (gIsN false) fa)) :=
  PEi (pe_cmp (pc_isN ha) rfl) fun σ H Q ⟨M, r, I, h⟩ => ⟨M, r, I, Out.bind h fun x r1 vx M1 H1 st1 I1 rx h1 => by
    rw [gIsN_eq false rx, Bool.xor_false] at h1
    exact h1 _ M1 H1 Step.refl I1 rfl⟩
theorem e_notN {j : Nat} {p : Pos} (ha : PE X a (tE J fa)) : PE X (.Compare a [.IsNot] [.Constant .none j p] pos) (tE J (un (gIsN true) fa)) :=
  PEi (pe_cmp (pc_notN ha) rfl) fun σ H Q ⟨M, r, I, h⟩ => ⟨M, r, I, Out.bind h fun x r1 vx M1 H1 st1 I1 rx h1 => by
    rw [gIsN_eq true rx, Bool.xor_true] at h1
    exact h1 _ M1 H1 Step.refl I1 rfl⟩
end
end DL

set_option Elab.async false
set_option linter.all false
set_option maxRecDepth 100000
set_option maxHeartbeats 4000000
namespace DL
open PySem L2

/-! ### subscripts -/
def gIx : D → D → Option D
  | .lst xs, .int i => atI xs i
  | .tup xs, .int i => atI xs i
  | .str z, .int i => if z.length ≤ LIM then (atI z.cps.toList i).map fun c => .str ⟨#[c]⟩ else none
  | .scr ns, .int i => (atI ns i).map .int
  | _, _ => none
theorem atI_rep {G : Gm} {M : Addr → Prop} {H : Hp} {ds : List D} {vs : List V} {i : Int} {d : D} (r : RepL G M H ds vs) (h : atI ds i = some d) : ∃ v, atI vs i = some v ∧ Rep G M H d v := by
  unfold atI at h ⊢
  rw [← r.length]
  cases e : ixN ds.length i with
  | none => rw [e] at h; cases h
  | some j =>
    rw [e] at h
    exact r.get (i := j) h
theorem atI_map {α β : Type} (f : α → β) (xs : List α) (i : Int) : atI (xs.map f) i = (atI xs i).map f := by
  unfold atI
  rw [List.length_map]
  cases ixN xs.length i with
  | none => rfl
  | some j => show (xs.map f)[j]? = (xs[j]?).map f; rw [List.getElem?_map]
theorem od_ix {G : Gm} : OpD G (rIx G.K) gIx := by
  intro M H x y vx vy d Q md e rx ry q
  unfold gIx at e
  split at e
  · cases ry.int
    obtain ⟨a, vs, rfl, ha, r⟩ := rx.lst
    obtain ⟨v, hv, rv⟩ := atI_rep r e
    exact .inl ⟨a, vs, _, v, rfl, rfl, SqL.of ha, hv, q v H (fun _ _ h => h) rv⟩
  · cases ry.int
    obtain ⟨a, vs, rfl, ha, r⟩ := rx.tup
    obtain ⟨v, hv, rv⟩ := atI_rep r e
    exact .inr (.inl ⟨a, vs, _, v, rfl, rfl, ha, hv, q v H (fun _ _ h => h) rv⟩)
  · cases ry.int
    cases rx.str
    split at e
    · rename_i hl
      rename_i z i
      cases h : atI z.cps.toList i with
      | none => rw [h] at e; cases e
      | some c =>
        rw [h] at e; cases e
        exact .inr (.inr ⟨_, _, c, rfl, rfl, le_size hl, h, q _ H (fun _ _ h => h) rfl⟩)
    · cases e
  · cases ry.int
    obtain ⟨a, rfl, ha⟩ := rx.scr
    rename_i ns i
    cases h : atI ns i with
    | none => rw [h] at e; cases e
    | some c =>
      rw [h] at e; cases e
      exact .inl ⟨a, _, _, .int c, rfl, rfl, ha, by rw [atI_map, h]; rfl, q _ H (fun _ _ h => h) rfl⟩
  · cases e
section
variable {X : Cx} {J : Jx} {a b : Expr} {fa fb : List Sl → RE D} {pos : Pos}
theorem e_ix (hK : X.K = J.G.K) (ha : PE X a (tE J fa)) (hb : PE X b (tB J fb)) (hs : PlainIx b := by exact fun _ _ => rfl) : PE X (.Subscript a b pos) (tE J (bin gIx fa fb)) :=
  PEi (pe_ix ix_seq ha hb hs) fun σ H Q h => bin_core (hK ▸ od_ix) σ H Q h
theorem e_ixL (i : Nat) {x : Str} {p : Pos} (hK : X.K = J.G.K) (hb : PE X b (tB J fb)) (hs : PlainIx b := by exact fun _ _ => rfl) (hN : X.N[i]? = some x := by rfl) (hv : Vis X.env.scope x := by first | exact Or.inl rfl | exact Or.inr (Or.inl rfl) | exact Or.inr (Or.inr rfl)) (hd : (x == ("__debug__" : Str)) = false := by decide)
    (hcd : (x == ("__classdict__" : Str)) = false := by decide) : PE X (.Subscript (.Name x p) b pos) (tE J (binL gIx i fb)) :=
  PEi (pe_ix ix_seq (pe_var hN hv hd hcd) hb hs) fun σ H Q h => binL_core (hK ▸ od_ix) σ H Q h
end

/-! ### argument lists, displays -/
def anil : List Sl → RE (List D) := fun r => .ok [] r
def acons (f : List Sl → RE D) (fs : List Sl → RE (List D)) : List Sl → RE (List D) := fun r => (f r).bind fun d r1 => (fs r1).bind fun ds r2 => .ok (d :: ds) r2
section
variable {X : Cx} {J : Jx} {e : Expr} {es : List Expr} {f : List Sl → RE D} {fs : List Sl → RE (List D)} {pos : Pos}
theorem a_nil : PA X [] (tA J anil) := PAi pa_nil fun σ H Q ⟨M, r, I, h⟩ => h [] M H Step.refl I rfl
theorem a_cons (ha : PE X e (tE J f)) (hr : PA X es (tA J fs)) (hs : starEach (e :: es) X.env = (false, eval e X.env) :: starEach es X.env := by rfl) : PA X (e :: es) (tA J (acons f fs)) :=
  PAi (pa_cons ha hr hs) fun σ H Q ⟨M, r, I, h⟩ => ⟨M, r, I, Out.bind h fun d r1 v M1 H1 st1 I1 rd1 h1 =>
    ⟨M1, r1, I1, Out.bind h1 fun ds r2 vs M2 H2 st2 I2 rd2 h2 => h2 (v :: vs) M2 H2 Step.refl I2 ⟨v, vs, rfl, Rep.step st2 I1.md _ _ rd1, rd2⟩⟩⟩
def mkTup (fs : List Sl → RE (List D)) : List Sl → RE D := fun r => (fs r).bind fun ds r1 => if ds.length ≤ LIM then .ok (.tup ds) r1 else .bad
theorem e_tup {x1 : Nat} (h : PA X es (tA J fs)) : PE X (.Tuple es x1 pos) (tE J (mkTup fs)) :=
  PEi (pe_tup h) fun σ H Q ⟨M, r, I, h⟩ => ⟨M, r, I, Out.bind h fun ds r1 vs M1 H1 st1 I1 rd1 h1 => by
    split at h1
    · rename_i hl
      refine ⟨by rw [← rd1.length]; exact le_size hl, fun p hp => ?_⟩
      exact h1 _ M1 _ (Step.ext (ext_new hp)) (I1.ext (ext_new hp)) (Rep.newTup hp I1.md rd1)
    · exact h1.elim⟩
def mkLst (fs : List Sl → RE (List D)) : List Sl → RE D := fun r => (fs r).bind fun ds r1 => if ds.length ≤ LIM then .ok (.lst ds) r1 else .bad
/-- a new list at p, as an owned object -/
theorem new_lst {M : Addr → Prop} {H : Hp} {σ : St} {r : List Sl} {p : Addr} {ds : List D} {vs : List V} {Q : VK} (I : SI J M r σ H) (hp : H p = none) (rd : RepL J.G M H ds vs) (h : Out J (RO J) M H σ (.ok (.lst ds) r) Q) : Q (.ref p) (upd H p (.lst vs)) := by
  obtain ⟨I', st, nm, n0, h0, fl⟩ := I.newOwn (o := .lst vs) hp trivial
  exact h _ _ _ st I' ⟨p, rfl, .inr rfl, ⟨vs, upd_same, RepL.step st I.md _ _ rd⟩, n0, h0, fl⟩
theorem n_lst (h : PA X es (tA J fs)) : PE X (.List es pos) (tN J (mkLst fs)) :=
  PEi (pe_lst h) fun σ H Q ⟨M, r, I, h⟩ => ⟨M, r, I, Out.bind h fun ds r1 vs M1 H1 st1 I1 rd1 h1 => by
    split at h1
    · rename_i hl
      exact ⟨by rw [← rd1.length]; exact le_size hl, fun p hp => new_lst I1 hp rd1 h1⟩
    · exact h1.elim⟩
/-- an owned object, as data from here on -/
theorem e_of_n (h : PE X e (tN J f)) : PE X e (tE J f) := PEi h fun σ H Q ⟨M, r, I, q⟩ => ⟨M, r, I, by
  cases e1 : f r with
  | ok d r1 =>
    rw [e1] at q
    intro v M1 H1 st1 I1 ⟨a, ev, m, own, n0, h0, fl⟩
    subst ev
    have I2 := I1.freeze n0 fl
    exact q _ _ _ (st1.trans (Step.freeze a)) I2 ((own.step (Step.freeze a) I1.md rfl).rep fun z => z.2 rfl)
  | exn x r1 => rw [e1] at q; exact q
  | bad => rw [e1] at q; exact q.elim⟩
end

/-! ### tests -/
def asB : D → List Sl → RE Bool
  | .bl b, r => .ok b r
  | _, _ => .bad
def tv (f : List Sl → RE D) : List Sl → RE Bool := fun r => (f r).bind asB
def tnot (f : List Sl → RE Bool) : List Sl → RE Bool := fun r => (f r).bind fun b r1 => .ok (!b) r1
def tand (f g : List Sl → RE Bool) : List Sl → RE Bool := fun r => (f r).bind fun b r1 => if b = true then g r1 else .ok false r1
def tor (f g : List Sl → RE Bool) : List Sl → RE Bool := fun r => (f r).bind fun b r1 => if b = true then .ok true r1 else g r1
def vand (f g : List Sl → RE D) : List Sl → RE D := fun r => (f r).bind fun x r1 => (asB x r1).bind fun b r2 => if b = true then g r2 else .ok (.bl false) r2
def vor (f g : List Sl → RE D) : List Sl → RE D := fun r => (f r).bind fun x r1 => (asB x r1).bind fun b r2 => if b = true then .ok (.bl true) r2 else g r2
def vnot (f : List Sl → RE D) : List Sl → RE D := fun r => (f r).bind fun x r1 => (asB x r1).bind fun b r2 => .ok (.bl (!b)) r2
def vif (c : List Sl → RE Bool) (f g : List Sl → RE D) : List Sl → RE D := fun r => (c r).bind fun b r1 => if b = true then f r1 else g r1
section
variable {X : Cx} {J : Jx} {a b c : Expr} {rest : List Expr} {pos : Pos} {fa fb : List Sl → RE D} {ta tb tc : List Sl → RE Bool}
theorem t_val (h : PE X a (tE J fa)) (he : ∀ whole, isTrue a X.env whole = (do let v ← whole; standAt a.pos; holding [v] (truthy v)) := by intro _; rfl) : PT X a (tT J (tv fa)) :=
  PTi (pt_val h he) fun σ H Q ⟨M, r, I, q⟩ => ⟨M, r, I, Out.bind q fun d r1 v M1 H1 st1 I1 rd1 h1 => by
    cases d with
    | bl b => cases rd1; exact ⟨b, rfl, h1 _ M1 H1 Step.refl I1 rfl⟩
    | _ => exact h1.elim⟩
theorem t_not (h : PT X a (tT J ta)) : PT X (.UnaryOp .Not a pos) (tT J (tnot ta)) :=
  PTi (pt_not h) fun σ H Q ⟨M, r, I, q⟩ => ⟨M, r, I, Out.bind q fun d r1 v M1 H1 st1 I1 rd1 h1 => by cases rd1; exact h1 _ M1 H1 Step.refl I1 rfl⟩
theorem w_one {op : BoolOp} (h : PT X a (tT J ta)) : PW X (.BoolOp op [a] pos) (tT J ta) := by
  cases op
  · exact pw_and1 h
  · exact pw_or1 h
theorem w_and (ha : PT X a (tT J ta)) (hb : PW X (.BoolOp .And (b :: rest) pos) (tT J tb)) : PW X (.BoolOp .And (a :: b :: rest) pos) (tT J (tand ta tb)) :=
  PWi (pw_and ha hb) fun σ H Q ⟨M, r, I, q⟩ => ⟨M, r, I, Out.bind q fun d r1 v M1 H1 st1 I1 rd1 h1 => by
    cases rd1
    split at h1
    · rename_i e; rw [if_pos e]; exact ⟨M1, r1, I1, h1⟩
    · rename_i e; rw [if_neg e]; exact h1 _ M1 H1 Step.refl I1 rfl⟩
theorem w_or (ha : PT X a (tT J ta)) (hb : PW X (.BoolOp .Or (b :: rest) pos) (tT J tb)) : PW X (.BoolOp .Or (a :: b :: rest) pos) (tT J (tor ta tb)) :=
  PWi (pw_or ha hb) fun σ H Q ⟨M, r, I, q⟩ => ⟨M, r, I, Out.bind q fun d r1 v M1 H1 st1 I1 rd1 h1 => by
    cases rd1
    split at h1
    · rename_i e; rw [if_pos e]; exact h1 _ M1 H1 Step.refl I1 rfl
    · rename_i e; rw [if_neg e]; exact ⟨M1, r1, I1, h1⟩⟩
theorem e_one {op : BoolOp} (h : PE X a (tE J fa)) : PE X (.BoolOp op [a] pos) (tE J fa) := pe_one h
theorem asB_core {x : D} {v : V} {r1 : List Sl} {σ : St} {M1 : Addr → Prop} {H1 : Hp} {k : Bool → List Sl → RE D} {Q : VK} (rx : Rep J.G M1 H1 x v) (h : Out J (RV J) M1 H1 σ ((asB x r1).bind k) Q) : ∃ b, v = .bl b ∧ Out J (RV J) M1 H1 σ (k b r1) Q := by
  cases x with
  | bl b => cases rx; exact ⟨b, rfl, h⟩
  | _ => exact h.elim
theorem e_and (ha : PE X a (tE J fa)) (hb : PE X (.BoolOp .And (b :: rest) pos) (tE J fb)) : PE X (.BoolOp .And (a :: b :: rest) pos) (tE J (vand fa fb)) :=
  PEi (pe_and ha hb) fun σ H Q ⟨M, r, I, q⟩ => ⟨M, r, I, Out.bind q fun d r1 v M1 H1 st1 I1 rd1 h1 => by
    obtain ⟨k, rfl, h1⟩ := asB_core rd1 h1
    refine ⟨k, rfl, ?_⟩
    split at h1
    · rename_i e; rw [if_pos e]; exact ⟨M1, r1, I1, h1⟩
    · rename_i e; rw [if_neg e]; exact h1 _ M1 H1 Step.refl I1 rfl⟩
theorem e_or (ha : PE X a (tE J fa)) (hb : PE X (.BoolOp .Or (b :: rest) pos) (tE J fb)) : PE X (.BoolOp .Or (a :: b :: rest) pos) (tE J (vor fa fb)) :=
  PEi (pe_or ha hb) fun σ H Q ⟨M, r, I, q⟩ => ⟨M, r, I, Out.bind q fun d r1 v M1 H1 st1 I1 rd1 h1 => by
    obtain ⟨k, rfl, h1⟩ := asB_core rd1 h1
    refine ⟨k, rfl, ?_⟩
    split at h1
    · rename_i e; rw [if_pos e]; exact h1 _ M1 H1 Step.refl I1 rfl
    · rename_i e; rw [if_neg e]; exact ⟨M1, r1, I1, h1⟩⟩
theorem e_not (ha : PE X a (tE J fa)) : PE X (.UnaryOp .Not a pos) (tE J (vnot fa)) :=
  PEi (pe_not ha) fun σ H Q ⟨M, r, I, q⟩ => ⟨M, r, I, Out.bind q fun d r1 v M1 H1 st1 I1 rd1 h1 => by
    obtain ⟨k, rfl, h1⟩ := asB_core rd1 h1
    exact ⟨k, rfl, h1 _ M1 H1 Step.refl I1 rfl⟩⟩
theorem e_if (hc : PT X c (tT J tc)) (ha : PE X a (tE J fa)) (hb : PE X b (tE J fb)) : PE X (.IfExp c a b pos) (tE J (vif tc fa fb)) :=
  PEi (pe_ifExp hc ha hb) fun σ H Q ⟨M, r, I, q⟩ => ⟨M, r, I, Out.bind q fun d r1 v M1 H1 st1 I1 rd1 h1 => by
    cases rd1
    split at h1
    · rename_i e; rw [if_pos e]; exact ⟨M1, r1, I1, h1⟩
    · rename_i e; rw [if_neg e]; exact ⟨M1, r1, I1, h1⟩⟩
/-- a op1 b op2 c -/
def vchain (g g' : D → D → Option D) (fa fb fc : List Sl → RE D) : List Sl → RE D := fun r => (fa r).bind fun x r1 => (fb r1).bind fun y r2 => (liftO (g x y) r2).bind fun z r3 => (asB z r3).bind fun k r4 =>
  if k = true then (fc r4).bind fun w r5 => liftO (g' y w) r5 else .ok (.bl false) r4
theorem chain_core {r2 r2' : R2} {g g' : D → D → Option D} {fc : List Sl → RE D} (hg : OpD J.G r2 g) (hg' : OpD J.G r2' g') (σ : St) (H : Hp) (Q : VK) (h : tE J (vchain g g' fa fb fc) σ H Q) : tChain r2 r2' (tE J fa) (tE J fb) (tB J fc) σ H Q := by
  obtain ⟨M, r, I, h⟩ := h
  refine ⟨M, r, I, Out.bind h fun x r1 vx M1 H1 st1 I1 rx h1 => ?_⟩
  refine ⟨M1, r1, I1, Out.bind h1 fun y r2 vy M2 H2 st2 I2 ry h2 => ?_⟩
  cases e : g x y with
  | none => rw [e] at h2; exact h2.elim
  | some z =>
    rw [e] at h2
    refine hg M2 H2 x y vx vy z _ I2.md e (.inl (Rep.step st2 I1.md _ _ rx)) (.inl ry) fun v H' ex q => ?_
    have h3 := Out.step (Step.ext ex) h2
    obtain ⟨k, rfl, h4⟩ := asB_core q h3
    refine ⟨k, rfl, ?_⟩
    have I3 := I2.ext ex
    have ry' := Rep.step (Step.ext ex) I2.md _ _ ry
    split at h4
    · rename_i ek
      rw [if_pos ek]
      refine ⟨M2, r2, I3, Out.bind h4 fun w r5 vw M5 H5 st5 I5 rw5 h5 => ?_⟩
      exact op_core hg' I5 (.inl (Rep.step st5 I3.md _ _ ry')) rw5 h5
    · rename_i ek
      rw [if_neg ek]
      exact h4 _ M2 H' Step.refl I3 rfl
theorem e_chain {op op' : CmpOp} {r2 r2' : R2} {g g' : D → D → Option D} {fc : List Sl → RE D} (ho : OpR X (compareOp op) r2) (ho' : OpR X (compareOp op') r2') (hg : OpD J.G r2 g) (hg' : OpD J.G r2' g') (ha : PE X a (tE J fa)) (hb : PE X b (tE J fb)) (hc : PE X c (tB J fc))
    (hm : lastMarks [op, op'] [b, c] = false := by with_unfolding_all rfl) : PE X (.Compare a [op, op'] [b, c] pos) (tE J (vchain g g' fa fb fc)) :=
  PEi (pe_chain ho ho' ha hb hc hm) fun σ H Q h => chain_core hg hg' σ H Q h
theorem e_lele {fc : List Sl → RE D} (ha : PE X a (tE J fa)) (hb : PE X b (tE J fb)) (hc : PE X c (tB J fc)) (hm : lastMarks [.LtE, .LtE] [b, c] = false := by with_unfolding_all rfl) : PE X (.Compare a [.LtE, .LtE] [b, c] pos) (tE J (vchain gLe gLe fa fb fc)) :=
  e_chain op_le op_le (od_int0 fun _ _ _ _ _ => rfl) (od_int0 fun _ _ _ _ _ => rfl) ha hb hc hm
theorem e_lelt {fc : List Sl → RE D} (ha : PE X a (tE J fa)) (hb : PE X b (tE J fb)) (hc : PE X c (tB J fc)) (hm : lastMarks [.LtE, .Lt] [b, c] = false := by with_unfolding_all rfl) : PE X (.Compare a [.LtE, .Lt] [b, c] pos) (tE J (vchain gLe gLt fa fb fc)) :=
  e_chain op_le op_lt (od_int0 fun _ _ _ _ _ => rfl) (od_int0 fun _ _ _ _ _ => rfl) ha hb hc hm
end

/-! ### built-in functions of one argument -/
/-- by values; the answer data -/
def C1D (G : Gm) (r : List V → Hp → VK → Prop) (g : D → Option D) : Prop := ∀ M H x vx d (Q : VK), MD M H → g x = some d → RepB G M H x vx → (∀ v H', Extn H H' → Rep G M H' d v → Q v H') → r [vx] H Q
/-- .. the answer a new list -/
def C1N (G : Gm) (r : List V → Hp → VK → Prop) (g : D → Option (List D)) : Prop := ∀ M H x vx ds (Q : VK), MD M H → g x = some ds → RepB G M H x vx → (∀ p vs, H p = none → RepL G M H ds vs → Q (.ref p) (upd H p (.lst vs))) → r [vx] H Q
def unN (g : D → Option (List D)) (f : List Sl → RE D) : List Sl → RE D := fun r => (f r).bind fun x r1 => match g x with
  | some ds => .ok (.lst ds) r1
  | none => .bad
section
variable {X : Cx} {J : Jx} {e : Expr} {f : List Sl → RE D} {p pos : Pos} {x : Str} {id T : String} {r : List V → Hp → VK → Prop}
theorem pa1 {te : TE} (h : PE X e te) (hs : starEach [e] X.env = (false, eval e X.env) :: starEach [] X.env := by rfl) : PA X [e] (tCons te tNil) := pa_cons h pa_nil hs
theorem un_core {r : List V → Hp → VK → Prop} {g : D → Option D} (hg : C1D J.G r g) (σ : St) (H : Hp) (Q : VK) (h : tE J (un g f) σ H Q) : tCB r (tCons (tB J f) tNil) σ H Q := by
  obtain ⟨M, r0, I, h⟩ := h
  refine ⟨M, r0, I, Out.bind h fun d r1 v M1 H1 st1 I1 rd1 h1 => ?_⟩
  show r [v] H1 Q
  cases e1 : g d with
  | none => rw [e1] at h1; exact h1.elim
  | some d' =>
    rw [e1] at h1
    exact hg M1 H1 d v d' Q I1.md e1 rd1 fun v' H' ex q => h1 v' M1 H' (Step.ext ex) (I1.ext ex) q
theorem unN_core {r : List V → Hp → VK → Prop} {g : D → Option (List D)} (hg : C1N J.G r g) (σ : St) (H : Hp) (Q : VK) (h : tN J (unN g f) σ H Q) : tCB r (tCons (tB J f) tNil) σ H Q := by
  obtain ⟨M, r0, I, h⟩ := h
  refine ⟨M, r0, I, Out.bind h fun d r1 v M1 H1 st1 I1 rd1 h1 => ?_⟩
  show r [v] H1 Q
  cases e1 : g d with
  | none => rw [e1] at h1; exact h1.elim
  | some ds =>
    rw [e1] at h1
    exact hg M1 H1 d v ds Q I1.md e1 rd1 fun p vs hp rl => new_lst I1 hp rl h1
/-- f(e), f a built-in function -/
theorem e_call1 {g : D → Option D} (hc : CallR X (.builtin id) r) (hg : C1D J.G r g) (hx : Gl X x) (hm : X.mg x = none) (hv : bootBuiltins x = some (.builtin id)) (he : PE X e (tB J f)) (hs : starEach [e] X.env = (false, eval e X.env) :: starEach [] X.env := by rfl) (hn : x ≠ "__name__" := by decide)
    (hdb : (x == ("__debug__" : Str)) = false := by decide) (hpl : (backTo pos (starEach [] X.env)).any (·.1) = false := by rfl) : PE X (.Call (.Name x p) [e] [] pos) (tE J (un g f)) :=
  PEi (pe_callB hc hx hm hv (pa1 he hs) hn hdb hs hpl) fun σ H Q h => un_core hg σ H Q h
theorem n_call1 {g : D → Option (List D)} (hc : CallR X (.builtin id) r) (hg : C1N J.G r g) (hx : Gl X x) (hm : X.mg x = none) (hv : bootBuiltins x = some (.builtin id)) (he : PE X e (tB J f)) (hs : starEach [e] X.env = (false, eval e X.env) :: starEach [] X.env := by rfl) (hn : x ≠ "__name__" := by decide)
    (hdb : (x == ("__debug__" : Str)) = false := by decide) (hpl : (backTo pos (starEach [] X.env)).any (·.1) = false := by rfl) : PE X (.Call (.Name x p) [e] [] pos) (tN J (unN g f)) :=
  PEi (pe_callB hc hx hm hv (pa1 he hs) hn hdb hs hpl) fun σ H Q h => unN_core hg σ H Q h
theorem e_callT1 {g : D → Option D} (hc : CallR X (.type T) r) (hg : C1D J.G r g) (hx : Gl X x) (hm : X.mg x = none) (hv : bootBuiltins x = some (.type T)) (he : PE X e (tB J f)) (hs : starEach [e] X.env = (false, eval e X.env) :: starEach [] X.env := by rfl) (hn : x ≠ "__name__" := by decide)
    (hdb : (x == ("__debug__" : Str)) = false := by decide) (hpl : (backTo pos (starEach [] X.env)).any (·.1) = false := by rfl) : PE X (.Call (.Name x p) [e] [] pos) (tE J (un g f)) :=
  PEi (pe_callTy hc hx hm hv (pa1 he hs) hn hdb hs hpl) fun σ H Q h => un_core hg σ H Q h
theorem n_callT1 {g : D → Option (List D)} (hc : CallR X (.type T) r) (hg : C1N J.G r g) (hx : Gl X x) (hm : X.mg x = none) (hv : bootBuiltins x = some (.type T)) (he : PE X e (tB J f)) (hs : starEach [e] X.env = (false, eval e X.env) :: starEach [] X.env := by rfl) (hn : x ≠ "__name__" := by decide)
    (hdb : (x == ("__debug__" : Str)) = false := by decide) (hpl : (backTo pos (starEach [] X.env)).any (·.1) = false := by rfl) : PE X (.Call (.Name x p) [e] [] pos) (tN J (unN g f)) :=
  PEi (pe_callTy hc hx hm hv (pa1 he hs) hn hdb hs hpl) fun σ H Q h => unN_core hg σ H Q h
end
def gLen : D → Option D
  | .lst xs => some (.int xs.length)
  | .tup xs => some (.int xs.length)
  | .str z => if z.length ≤ LIM then some (.int z.length) else none
  | .scr ns => some (.int ns.length)
  | _ => none
def rLen (K : PySem.W.Frag) : List V → Hp → VK → Prop := fun xs H Q => ∃ x n, xs = [x] ∧ LenV K x H n ∧ Q (.int n) H
theorem od_len {G : Gm} : C1D G (rLen G.K) gLen := by
  intro M H x vx d Q md e rx q
  unfold gLen at e
  split at e
  · cases e
    obtain ⟨a, vs, rfl, ha, r⟩ := rx.lst
    exact ⟨_, _, rfl, .inl ⟨vs, SqL.of ha, r.length⟩, q _ H (fun _ _ h => h) rfl⟩
  · cases e
    obtain ⟨a, vs, rfl, ha, r⟩ := rx.tup
    exact ⟨_, _, rfl, .inr ⟨vs, ha, r.length⟩, q _ H (fun _ _ h => h) rfl⟩
  · split at e
    · rename_i hl
      cases e
      cases rx.str
      exact ⟨_, _, rfl, ⟨le_size hl, rfl⟩, q _ H (fun _ _ h => h) rfl⟩
    · cases e
  · cases e
    obtain ⟨a, rfl, ha⟩ := rx.scr
    exact ⟨_, _, rfl, .inl ⟨_, ha, by simp⟩, q _ H (fun _ _ h => h) rfl⟩
  · cases e
section
variable {X : Cx} {J : Jx} {e : Expr} {f : List Sl → RE D} {p pos : Pos}
theorem e_len (hK : X.K = J.G.K) (hx : Gl X "len") (hm : X.mg "len" = none) (he : PE X e (tB J f)) (hs : starEach [e] X.env = (false, eval e X.env) :: starEach [] X.env := by rfl) (hpl : (backTo pos (starEach [] X.env)).any (·.1) = false := by rfl) : PE X (.Call (.Name "len" p) [e] [] pos) (tE J (un gLen f)) :=
  e_call1 (r := rLen X.K) call_len (hK ▸ od_len) hx hm PySem.boot_len he hs (by decide) (by decide) hpl
end
end DL

set_option Elab.async false
set_option linter.all false
set_option maxRecDepth 100000
set_option maxHeartbeats 4000000
namespace DL
open PySem L2

/-! ### statements -/
/-- an expression, then what is done with its value -/
def RE.s {α : Type} (m : RE α) (k : α → List Sl → RS) : RS := match m with
  | .ok a r => k a r
  | .exn x r => .exn x r
  | .bad => .bad
def sseq (f g : List Sl → RS) : List Sl → RS := fun r => match f r with
  | .nx r' => g r'
  | o => o
def sasg (i : Nat) (f : List Sl → RE D) : List Sl → RS := fun r => (f r).s fun d r1 => .nx (r1.set i (.val d))
def sown (i : Nat) (f : List Sl → RE D) : List Sl → RS := fun r => (f r).s fun d r1 => .nx (r1.set i (.own d))
def sif (c : List Sl → RE Bool) (f g : List Sl → RS) : List Sl → RS := fun r => (c r).s fun b r1 => if b = true then f r1 else g r1
def sret (f : List Sl → RE D) : List Sl → RS := fun r => (f r).s fun d r1 => .rt d r1
def sexp (f : List Sl → RE D) : List Sl → RS := fun r => (f r).s fun _ r1 => .nx r1
def snx : List Sl → RS := fun r => .nx r
section
variable {J : Jx} {M : Addr → Prop} {H : Hp} {σ : St} {α β : Type}
theorem Out.s {R1 : List Sl → St → (Addr → Prop) → Hp → α → β → Prop} {m : RE α} {k : α → List Sl → RS} {E : Ends} {Q1 : β → Hp → Prop} (h : OutS J M H (m.s k) E)
    (hk : ∀ a r b M1 H1, Step M H M1 H1 → SI J M1 r σ H1 → R1 r σ M1 H1 a b → OutS J M1 H1 (k a r) E → Q1 b H1) : Out J R1 M H σ m Q1 := by
  cases m with
  | ok a r => exact fun b M1 H1 st I r1 => hk a r b M1 H1 st I r1 (OutS.step st h)
  | exn x r => exact fun cls dd M1 H1 st I rx => h cls dd M1 σ H1 st I rx
  | bad => exact h
end
section
variable {X : Cx} {J : Jx} {st : Stmt} {rest : List Stmt} {f g : List Sl → RS} {e : Expr} {fe : List Sl → RE D} {pos : Pos}
theorem s_cons (h1 : PS X st (tS J f)) (h2 : PSs X rest (tS J g)) : PSs X (st :: rest) (tS J (sseq f g)) :=
  PSsi (pss_cons h1 h2) fun E σ H ⟨M, r, I, h⟩ => ⟨M, r, I, by
    unfold sseq at h
    cases e : f r with
    | nx r' => rw [e] at h; exact fun M' σ' H' st I' => ⟨M', r', I', OutS.step st h⟩
    | bk r' => rw [e] at h; exact h
    | ct r' => rw [e] at h; exact h
    | rt d r' => rw [e] at h; exact h
    | exn x r' => rw [e] at h; exact h
    | bad => rw [e] at h; exact h.elim⟩
theorem s_one (h : PS X st (tS J f)) : PSs X [st] (tS J f) := pss_one h
theorem s_nil : PSs X [] (tS J snx) := PSsi pss_nil fun E σ H ⟨M, r, I, h⟩ => h M σ H Step.refl I
theorem s_pass : PS X (.Pass pos) (tS J snx) := PSi ps_pass fun E σ H ⟨M, r, I, h⟩ => h M σ H Step.refl I
theorem s_break : PS X (.Break pos) (tS J fun r => .bk r) := PSi ps_break fun E σ H ⟨M, r, I, h⟩ => h M σ H Step.refl I
theorem s_cont : PS X (.Continue pos) (tS J fun r => .ct r) := PSi ps_continue fun E σ H ⟨M, r, I, h⟩ => h M σ H Step.refl I
theorem s_doc {x : Str} {j : Nat} {pos' : Pos} : PS X (.Expr (.Constant (.str x) j pos) pos') (tS J snx) := PSi ps_doc fun E σ H ⟨M, r, I, h⟩ => h M σ H Step.refl I
theorem s_expr (he : PE X e (tE J fe)) (hs : swapsWith e none pos.line X.env = pure false := by rfl) : PS X (.Expr e pos) (tS J (sexp fe)) :=
  PSi (ps_expr he hs) fun E σ H ⟨M, r, I, h⟩ => ⟨M, r, I, Out.s h fun d r1 v M1 H1 st1 I1 rd1 h1 => h1 M1 σ H1 Step.refl I1⟩
theorem s_ret (he : PE X e (tE J fe)) : PS X (.Return (some e) pos) (tS J (sret fe)) :=
  PSi (ps_ret he) fun E σ H ⟨M, r, I, h⟩ => ⟨M, r, I, Out.s h fun d r1 v M1 H1 st1 I1 rd1 h1 => h1 v M1 σ H1 Step.refl I1 rd1⟩
theorem s_retN : PS X (.Return none pos) (tS J (sret (cst .non))) := PSi ps_retN fun E σ H ⟨M, r, I, h⟩ => h _ M σ H Step.refl I rfl
theorem s_if {c : Expr} {a b : List Stmt} {fc : List Sl → RE Bool} (hc : PT X c (tT J fc)) (ha : PSs X a (tS J f)) (hb : PSs X b (tS J g)) : PS X (.If c a b pos) (tS J (sif fc f g)) :=
  PSi (ps_if hc ha hb) fun E σ H ⟨M, r, I, h⟩ => ⟨M, r, I, Out.s h fun d r1 v M1 H1 st1 I1 rd1 h1 => by
    cases rd1
    split at h1
    · rename_i e; rw [if_pos e]; exact ⟨M1, r1, I1, h1⟩
    · rename_i e; rw [if_neg e]; exact ⟨M1, r1, I1, h1⟩⟩
theorem s_asg (i : Nat) {x : Str} {pos' : Pos} (hN : X.N.Nodup) (he : PE X e (tE J fe)) (hi : X.N[i]? = some x := by rfl) (hx : Loc X.env.scope x := by first | exact Or.inl rfl | exact Or.inr rfl) (hs : swapsWith e (some (.Name x pos')) pos.line X.env = pure false := by rfl)
    (hf : X.fn x = true ∨ X.env.scope.names.lookup x = some .local := by first | exact .inl rfl | exact .inr rfl) : PS X (.Assign [.Name x pos'] e pos) (tS J (sasg i fe)) :=
  PSi (ps_set hN hi hx he hs hf) fun E σ H ⟨M, r, I, h⟩ => ⟨M, r, I, Out.s h fun d r1 v M1 H1 st1 I1 rd1 h1 => h1 M1 _ H1 Step.refl (I1.set rd1)⟩
theorem s_own (i : Nat) {x : Str} {pos' : Pos} (hN : X.N.Nodup) (he : PE X e (tN J fe)) (hi : X.N[i]? = some x := by rfl) (hx : Loc X.env.scope x := by first | exact Or.inl rfl | exact Or.inr rfl) (hs : swapsWith e (some (.Name x pos')) pos.line X.env = pure false := by rfl)
    (hf : X.fn x = true ∨ X.env.scope.names.lookup x = some .local := by first | exact .inl rfl | exact .inr rfl) : PS X (.Assign [.Name x pos'] e pos) (tS J (sown i fe)) :=
  PSi (ps_set hN hi hx he hs hf) fun E σ H ⟨M, r, I, h⟩ => ⟨M, r, I, Out.s h fun d r1 v M1 H1 st1 I1 ⟨a, ev, m, own, n0, h0, fl⟩ h1 => by
    subst ev
    exact h1 M1 _ H1 Step.refl (I1.setOwn m own n0 h0 fl)⟩

/-! ### targets -/
/-- a target's reading; vs: the slots that it stores -/
def tG (J : Jx) (vs : List Nat) (g : D → List Sl → RS) : TG := fun v σ H Q => ∃ M r d, SI J M r σ H ∧ Rep J.G M H d v ∧ OutS J M H (g d r) { nx := fun σ' H' => wipe σ' vs = wipe σ vs → Q σ' H', rt := fun _ _ => False }
def tGs (J : Jx) (vs : List Nat) (g : List D → List Sl → RS) : TGs := fun ws σ H Q => ∃ M r ds, SI J M r σ H ∧ RepL J.G M H ds ws ∧ OutS J M H (g ds r) { nx := fun σ' H' => wipe σ' vs = wipe σ vs → Q σ' H', rt := fun _ _ => False }
theorem wipe_set {σ : St} {i : Nat} {x : Option V} : ∀ {vs : List Nat}, i ∈ vs → wipe (σ.set i x) vs = wipe σ vs
  | [], h => by cases h
  | v :: vs, h => by
    show (wipe (σ.set i x) vs).set v none = (wipe σ vs).set v none
    by_cases e : i ∈ vs
    · rw [wipe_set e]
    · have ev : i = v := by rcases List.mem_cons.mp h with z | z
                            · exact z
                            · exact absurd z e
      subst ev
      have gen : ∀ (ws : List Nat), i ∉ ws → wipe (σ.set i x) ws = (wipe σ ws).set i x := by
        intro ws
        induction ws with
        | nil => intro _; rfl
        | cons w ws ih =>
          intro hn
          have h1 : i ≠ w := fun z => hn (z ▸ List.mem_cons_self)
          have h2 : i ∉ ws := fun z => hn (List.mem_cons_of_mem _ z)
          show (wipe (σ.set i x) ws).set w none = ((wipe σ ws).set w none).set i x
          rw [ih h2, List.set_comm _ _ h1]
      rw [gen vs e, List.set_set]
def gnm (i : Nat) : D → List Sl → RS := fun d r => .nx (r.set i (.val d))
def gnil : List D → List Sl → RS := fun ds r => match ds with
  | [] => .nx r
  | _ => .bad
def gcons (g : D → List Sl → RS) (gs : List D → List Sl → RS) : List D → List Sl → RS := fun ds r => match ds with
  | d :: ds => (match g d r with
    | .nx r1 => gs ds r1
    | _ => .bad)
  | _ => .bad
def gtp (n : Nat) (gs : List D → List Sl → RS) : D → List Sl → RS := fun d r => match d with
  | .tup ds => if ds.length = n then gs ds r else .bad
  | _ => .bad
variable {vs : List Nat}
theorem g_name (i : Nat) {x : Str} {p : Pos} (hN : X.N.Nodup) (hvs : i ∈ vs := by decide) (hi : X.N[i]? = some x := by rfl) (hx : Loc X.env.scope x := by first | exact Or.inl rfl | exact Or.inr rfl) (hf : X.fn x = true ∨ X.env.scope.names.lookup x = some .local := by first | exact .inl rfl | exact .inr rfl) : PG X (.Name x p) (tG J vs (gnm i)) :=
  ⟨fun pins s σ H v u Q I rv ⟨M, r, d, SI1, rd1, h⟩ => (pg_name hN hi hx hf).run pins s σ H v u Q I rv (h M _ H Step.refl (SI1.set rd1) (wipe_set hvs))⟩
theorem g_nil : PGs X [] (tGs J vs gnil) := ⟨fun pins s σ H ws us Q I rv ⟨M, r, ds, SI1, rd1, h⟩ => pgs_nil.run pins s σ H ws us Q I rv (by
  cases ds with
  | nil => cases rd1; exact ⟨rfl, h M _ H Step.refl SI1 rfl⟩
  | cons d ds => exact h.elim)⟩
theorem g_cons {t : Expr} {ts : List Expr} {g : D → List Sl → RS} {gs : List D → List Sl → RS} (h1 : PG X t (tG J vs g)) (h2 : PGs X ts (tGs J vs gs)) (hs : (assignEach (t :: ts) X.env).map (·.2) = assign t X.env :: (assignEach ts X.env).map (·.2) := by rfl) : PGs X (t :: ts) (tGs J vs (gcons g gs)) :=
  ⟨fun pins s σ H ws us Q I rv ⟨M, r, ds, SI1, rd1, h⟩ => (pgs_cons h1 h2 hs).run pins s σ H ws us Q I rv (by
    cases ds with
    | nil => exact h.elim
    | cons d ds =>
      obtain ⟨v, ws, rfl, q1, q2⟩ := rd1
      refine ⟨v, ws, rfl, M, r, d, SI1, q1, ?_⟩
      have h : OutS J M H (match g d r with
        | .nx r1 => gs ds r1
        | _ => .bad) { nx := fun σ' H' => wipe σ' vs = wipe σ vs → Q σ' H', rt := fun _ _ => False } := h
      cases e : g d r with
      | nx r1 =>
        rw [e] at h
        intro M' σ' H' st I' ew
        refine ⟨M', r1, ds, I', RepL.step st SI1.md _ _ q2, ?_⟩
        rw [ew]
        exact OutS.step st h
      | _ => rw [e] at h; exact h.elim)⟩
theorem g_tup {es : List Expr} {k n : Nat} {p : Pos} {gs : List D → List Sl → RS} (hK : X.K = J.G.K) (hc : X.calm = true) (h : PGs X es (tGs J vs gs)) (hn : (assignEach es X.env).length = n := by rfl) (hst : (assignEach es X.env).findIdx? (·.1) = none := by rfl) : PG X (.Tuple es k p) (tG J vs (gtp n gs)) :=
  ⟨fun pins s σ H v u Q I rv ⟨M, r, d, SI1, rd1, h1⟩ => (pg_tup hc h hn hst).run pins s σ H v u Q I rv (by
    unfold gtp at h1
    split at h1
    · split at h1
      · rename_i ds hl
        obtain ⟨a, ws, rfl, ha, q⟩ := rd1
        exact ⟨a, ws, rfl, hK ▸ ha, by rw [← q.length]; exact hl, M, r, ds, SI1, q, h1⟩
      · exact h1.elim
    · exact h1.elim)⟩
/-- (a, b, ..) = e, by a tuple that is made -/
def stg (f : List Sl → RE D) (g : D → List Sl → RS) : List Sl → RS := fun r => (f r).s g
theorem s_tgt {tg : Expr} {g : D → List Sl → RS} (he : PE X e (tE J fe)) (hg : PG X tg (tG J vs g)) (ok : ∀ d r, (∃ r', g d r = .nx r') ∨ g d r = .bad) (hs : swapsWithSole [tg] e pos.line X.env = pure false := by rfl) (hw : swappedStores [tg] e X.env = pure none := by rfl) (h1 : (assignEach [tg] X.env).map (·.2) = [assign tg X.env] := by rfl) : PS X (.Assign [tg] e pos) (tS J (stg fe g)) :=
  PSi (ps_asg he hg hs hw h1) fun E σ H ⟨M, r, I, h⟩ => ⟨M, r, I, Out.s h fun d r1 v M1 H1 st1 I1 rd1 h1 => ⟨M1, r1, d, I1, rd1, by
    rcases ok d r1 with ⟨r', e'⟩ | e'
    · rw [e'] at h1 ⊢; exact fun M' σ' H' st I' _ => h1 M' σ' H' st I'
    · rw [e'] at h1; exact h1.elim⟩⟩
/-- what targets do: store, or nothing -/
def GOk (g : D → List Sl → RS) : Prop := ∀ d r, (∃ r', g d r = .nx r') ∨ g d r = .bad
def GsOk (g : List D → List Sl → RS) : Prop := ∀ d r, (∃ r', g d r = .nx r') ∨ g d r = .bad
theorem ok_nm {i : Nat} : GOk (gnm i) := fun d r => .inl ⟨_, rfl⟩
theorem ok_nil : GsOk gnil := fun d r => by cases d with
  | nil => exact .inl ⟨_, rfl⟩
  | cons _ _ => exact .inr rfl
theorem ok_cons {g : D → List Sl → RS} {gs : List D → List Sl → RS} (h2 : GsOk gs) : GsOk (gcons g gs) := fun ds r => by
  cases ds with
  | nil => exact .inr rfl
  | cons d ds =>
    show (∃ r', (match g d r with
      | .nx r1 => gs ds r1
      | _ => .bad) = RS.nx r') ∨ (match g d r with
      | .nx r1 => gs ds r1
      | _ => .bad) = RS.bad
    cases e : g d r with
    | nx r1 => exact h2 ds r1
    | _ => exact .inr rfl
theorem ok_tp {n : Nat} {gs : List D → List Sl → RS} (h : GsOk gs) : GOk (gtp n gs) := fun d r => by
  unfold gtp
  split
  · split
    · exact h _ r
    · exact .inr rfl
  · exact .inr rfl
/-- a, b = e1, e2: two local names -/
def spar (i j : Nat) (fs : List Sl → RE (List D)) : List Sl → RS := fun r => (fs r).s fun ds r1 => match ds with
  | [d, d'] => .nx ((r1.set i (.val d)).set j (.val d'))
  | _ => .bad
theorem s_par (i j : Nat) {x y : Str} {a b : Expr} {fs : List Sl → RE (List D)} {px py pt : Pos} {kt k2 : Nat} {pt2 : Pos} (hc : X.calm = true) (hN : X.N.Nodup) (ha : PA X [a, b] (tA J fs)) (hi : X.N[i]? = some x := by rfl) (hj : X.N[j]? = some y := by rfl) (hij : i ≠ j := by decide)
    (hx : X.env.scope.names.lookup x = some .local := by rfl) (hy : X.env.scope.names.lookup y = some .local := by rfl)
    (hw : swappedStores [.Tuple [.Name x px, .Name y py] kt pt] (.Tuple [a, b] k2 pt2) X.env = pure (some [x, y]) := by rfl)
    (hs : swapsWithSole [.Tuple [.Name x px, .Name y py] kt pt] (.Tuple [a, b] k2 pt2) pos.line X.env = pure false := by rfl) : PS X (.Assign [.Tuple [.Name x px, .Name y py] kt pt] (.Tuple [a, b] k2 pt2) pos) (tS J (spar i j fs)) :=
  PSi (ps_par hc hN hi hj hij hx hy ha hw hs) fun E σ H ⟨M, r, I, h⟩ => ⟨M, r, I, Out.s h fun d r1 v M1 H1 st1 I1 rd1 h1 => by
    match d, rd1, h1 with
    | [d, d'], ⟨v1, _, ev, q1, v2, _, ev2, q2, e3⟩, h1 =>
      cases e3
      subst ev2
      exact ⟨v1, v2, ev, h1 M1 _ H1 Step.refl ((I1.set q1).set q2)⟩
    | [], _, h1 => exact h1.elim
    | [_], _, h1 => exact h1.elim
    | _ :: _ :: _ :: _, _, h1 => exact h1.elim⟩

/-! ### owned objects are changed -/
def isOwn (i : Nat) (r : List Sl) : Bool := match r[i]? with
  | some (.own _) => true
  | some (.io _) => true
  | _ => false
/-- the owned object of name i goes over to another state -/
def putOwn (i : Nat) (r : List Sl) (g : D → Option D) : Option (List Sl) := match r[i]? with
  | some (.own d) => (g d).map fun d' => r.set i (.own d')
  | some (.io d) => (g d).map fun d' => r.set i (.io d')
  | _ => none
theorem own_at {M : Addr → Prop} {r : List Sl} {σ : St} {H : Hp} {i : Nat} (I : SI J M r σ H) (h : isOwn i r = true) : ∃ a s d, r[i]? = some s ∧ s.owned = true ∧ σ[i]? = some (some (.ref a)) ∧ M a ∧ OwnAt J.G M H a d ∧ (s = .own d ∨ s = .io d) := by
  unfold isOwn at h
  split at h
  · rename_i d e
    obtain ⟨a, ea, m, q, _⟩ := I.slot i _ e
    exact ⟨a, _, d, e, rfl, ea, m, q, .inl rfl⟩
  · rename_i d e
    obtain ⟨a, ea, m, q, _⟩ := I.slot i _ e
    exact ⟨a, _, d, e, rfl, ea, m, q, .inr rfl⟩
  · cases h
theorem put_core {M : Addr → Prop} {r r' : List Sl} {σ : St} {H H' : Hp} {i : Nat} {a : Addr} {d d' : D} {s : Sl} (I : SI J M r σ H) (es : r[i]? = some s) (hs : s = .own d ∨ s = .io d) (ea : σ[i]? = some (some (.ref a))) (g : D → Option D) (hg : g d = some d') (hr : putOwn i r g = some r')
    (kp : ∀ b o, H b = some o → b ≠ a → H' b = some o) (md : MD M H') (new : OwnAt J.G M H' a d') : SI J M r' σ H' ∧ Step M H M H' := by
  have hm : M a := (I.slot i s es).ownM (by rcases hs with rfl | rfl <;> rfl) ea
  have st : Step M H M H' := ⟨fun b o h n => kp b o h (fun e => n (e ▸ hm)), fun b h => .inl h⟩
  refine ⟨?_, st⟩
  unfold putOwn at hr
  have z := I.slot i s es
  rcases hs with rfl | rfl
  · rw [es] at hr
    simp only [hg, Option.map_some, Option.some.injEq] at hr
    subst hr
    obtain ⟨b, eb, m, q, n0, h0⟩ := z
    rw [ea] at eb; cases eb
    exact I.write es rfl ea rfl kp md ⟨a, rfl, hm, new, n0, h0⟩
  · rw [es] at hr
    simp only [hg, Option.map_some, Option.some.injEq] at hr
    subst hr
    obtain ⟨b, eb, m, q, hio⟩ := z
    rw [ea] at eb; cases eb
    exact I.write es rfl ea rfl kp md ⟨a, rfl, hm, new, hio⟩
theorem MD.upd {M : Addr → Prop} {H : Hp} {a : Addr} {o : HO} (md : MD M H) (mu : Mut (Option.some o)) : MD M (upd H a o) := fun b m => by
  by_cases e : b = a
  · subst e; rw [upd_same]; exact mu
  · rw [upd_ne e]; exact md b m
theorem kept_upd {H : Hp} {a : Addr} {o : HO} : ∀ b u, H b = some u → b ≠ a → upd H a o b = some u := fun b u h n => by rw [upd_ne n]; exact h
def setD (k v : D) : D → Option D := fun d => match d, k with
  | .lst xs, .int z => (ixN xs.length z).map fun j => .lst (xs.set j v)
  | _, _ => none
theorem setD_some {k v d d' : D} (h : setD k v d = some d') : ∃ xs z j, d = .lst xs ∧ k = .int z ∧ ixN xs.length z = some j ∧ d' = .lst (xs.set j v) := by
  unfold setD at h
  split at h
  · rename_i xs z
    rw [Option.map_eq_some_iff] at h
    obtain ⟨j, hj, e⟩ := h
    exact ⟨xs, z, j, rfl, rfl, hj, e.symm⟩
  · cases h
theorem putOwn_some {i : Nat} {r r' : List Sl} {g : D → Option D} (h : putOwn i r g = some r') : isOwn i r = true ∧ ∀ s d, r[i]? = some s → (s = .own d ∨ s = .io d) → ∃ d', g d = some d' := by
  unfold putOwn at h
  unfold isOwn
  split at h
  · rename_i d e
    rw [e]
    refine ⟨rfl, fun s d2 e2 hs => ?_⟩
    cases e2
    rcases hs with hs | hs <;> cases hs
    rw [Option.map_eq_some_iff] at h
    obtain ⟨d', hd, _⟩ := h
    exact ⟨d', hd⟩
  · rename_i d e
    rw [e]
    refine ⟨rfl, fun s d2 e2 hs => ?_⟩
    cases e2
    rcases hs with hs | hs <;> cases hs
    rw [Option.map_eq_some_iff] at h
    obtain ⟨d', hd, _⟩ := h
    exact ⟨d', hd⟩
  · cases h
/-- xs[k] = e, xs an owned list -/
def sset (i : Nat) (fv fk : List Sl → RE D) : List Sl → RS := fun r => (fv r).s fun v r1 => if isOwn i r1 = true then (fk r1).s fun k r2 => (match putOwn i r2 (setD k v) with
  | some r3 => .nx r3
  | none => .bad) else .bad
theorem s_set (i : Nat) {x : Str} {k : Expr} {fk : List Sl → RE D} {p p2 : Pos} (he : PE X e (tE J fe)) (hk : PE X k (tB J fk)) (hN : X.N[i]? = some x := by rfl) (hv : Vis X.env.scope x := by first | exact Or.inl rfl | exact Or.inr (Or.inl rfl) | exact Or.inr (Or.inr rfl)) (hd : (x == ("__debug__" : Str)) = false := by decide)
    (hcd : (x == ("__classdict__" : Str)) = false := by decide)
    (ha' : ∀ v, assign (.Subscript (.Name x p) k p2) X.env v = (do
      let ov ← holding [v] (eval (.Name x p) X.env)
      let iv ← holding [v, ov] (eval k X.env)
      standAt p2
      holding [v, ov, iv] (setItem ov iv v)
      release [v, ov, iv] []) := by intro _; rfl) (hs : swapsWithSole [.Subscript (.Name x p) k p2] e pos.line X.env = pure false := by rfl) (hw : swappedStores [.Subscript (.Name x p) k p2] e X.env = pure none := by rfl) :
    PS X (.Assign [.Subscript (.Name x p) k p2] e pos) (tS J (sset i fe fk)) :=
  PSi (ps_asg he (pg_sub (pe_var hN hv hd hcd) hk set_list ha') hs hw) fun E σ H ⟨M, r, I, h⟩ => ⟨M, r, I, Out.s h fun v r1 w M1 H1 st1 I1 rv h1 => by
    split at h1
    · rename_i ho
      obtain ⟨a, s0, d0, es0, ow0, ea, m0, q0, hs0⟩ := own_at I1 ho
      refine ⟨_, ea, M1, r1, I1, Out.s h1 fun k r2 vk M2 H2 st2 I2 rk h2 => ?_⟩
      cases ep : putOwn i r2 (setD k v) with
      | none => rw [ep] at h2; exact h2.elim
      | some r3 =>
        rw [ep] at h2
        obtain ⟨ho2, hg2⟩ := putOwn_some ep
        obtain ⟨a2, s2, d2, es2, ow2, ea2, m2, q2, hs2⟩ := own_at I2 ho2
        rw [ea] at ea2; cases ea2
        obtain ⟨d3, hd3⟩ := hg2 s2 d2 es2 hs2
        obtain ⟨xs, z, j, rfl, rfl, hj, rfl⟩ := setD_some hd3
        obtain ⟨vs, hva, rl⟩ := q2
        cases rk.int
        refine ⟨a, vs, z, j, rfl, rfl, hva, by rw [← rl.length]; exact hj, ?_⟩
        have st : Step M2 H2 M2 (upd H2 a (.lst (vs.set j w))) := ⟨fun b o h n => by rw [upd_ne (by rintro rfl; exact n m2)]; exact h, fun b h => .inl h⟩
        have rv' := Rep.step (st2.trans st) I1.md _ _ rv
        have rl' := RepL.step st I2.md _ _ rl
        obtain ⟨I3, st3⟩ := put_core I2 es2 hs2 ea _ hd3 ep kept_upd (I2.md.upd (o := .lst (vs.set j w)) trivial) ⟨_, upd_same, rl'.set j rv'⟩
        exact h2 M2 σ _ st3 I3
    · exact h1.elim⟩
/-- a method of an owned object by values: what it hands back, and the object behind it -/
def OwnM (G : Gm) (r : V → List V → Hp → VK → Prop) (g : D → List D → Option (D × D)) : Prop := ∀ M H a o ds vs res o' (Q : VK), MD M H → M a → g o ds = some (res, o') → OwnAt G M H a o → RepL G M H ds vs →
  (∀ v H', (∀ b u, H b = some u → b ≠ a → H' b = some u) → MD M H' → OwnAt G M H' a o' → Rep G M H' res v → Q v H') → r (.ref a) vs H Q
def mutm (i : Nat) (g : D → List D → Option (D × D)) (fs : List Sl → RE (List D)) : List Sl → RE D := fun r => if isOwn i r = true then (fs r).bind fun ds r1 => (match r1[i]? with
  | some (.own o) => (match g o ds with
    | some (res, o') => .ok res (r1.set i (.own o'))
    | none => .bad)
  | some (.io o) => (match g o ds with
    | some (res, o') => .ok res (r1.set i (.io o'))
    | none => .bad)
  | _ => .bad) else .bad
theorem mut_core {r : V → List V → Hp → VK → Prop} {g : D → List D → Option (D × D)} {i : Nat} {fs : List Sl → RE (List D)} (hr : OwnM J.G r g) (σ : St) (H : Hp) (Q : VK) (h : tE J (mutm i g fs) σ H Q) :
    tVar i σ H fun x H1 => (∃ a, x = .ref a ∧ ∃ M d, OwnAt J.G M H1 a d) ∧ tA J fs σ H1 fun xs H2 => r x xs H2 Q := by
  obtain ⟨M, r0, I, h⟩ := h
  unfold mutm at h
  split at h
  · rename_i ho
    obtain ⟨a, s0, d0, es0, ow0, ea, m0, q0, hs0⟩ := own_at I ho
    refine ⟨_, ea, ⟨a, rfl, M, d0, q0⟩, M, r0, I, Out.bind h fun ds r1 vs M1 H1 st1 I1 rd1 h1 => ?_⟩
    have fin : ∀ (s s' : Sl) (o o' res : D), r1[i]? = some s → s.owned = true → s'.owned = true → OwnAt J.G M1 H1 a o → g o ds = some (res, o') → σ[i]? = some (some (.ref a)) → M1 a →
        (∀ H', OwnAt J.G M1 H' a o' → SlotOk J M1 H' s' (some (some (.ref a)))) → Out J (RV J) M1 H1 σ (.ok res (r1.set i s')) Q → r (.ref a) vs H1 Q := fun s s' o o' res es ow ow' q hg ea m hn h1 => by
      refine hr M1 H1 a o ds vs res o' Q I1.md m hg q rd1 fun v H' kp md own' rv => ?_
      exact h1 v M1 H' ⟨fun b u hb n => kp b u hb (fun e => n (e ▸ m)), fun b h => .inl h⟩ (I1.write es ow ea ow' kp md (hn H' own')) rv
    split at h1
    · rename_i o es
      obtain ⟨a', ea', m, q, n0, h0⟩ := I1.slot i _ es
      rw [ea] at ea'; cases ea'
      split at h1
      · rename_i res o' hg
        exact fin (.own o) (.own o') o o' res es rfl rfl q hg ea m (fun H' own' => ⟨a, rfl, m, own', n0, h0⟩) h1
      · exact h1.elim
    · rename_i o es
      obtain ⟨a', ea', m, q, hio⟩ := I1.slot i _ es
      rw [ea] at ea'; cases ea'
      split at h1
      · rename_i res o' hg
        exact fin (.io o) (.io o') o o' res es rfl rfl q hg ea m (fun H' own' => ⟨a, rfl, m, own', hio⟩) h1
      · exact h1.elim
    · exact h1.elim
  · exact h.elim
end
end DL

set_option Elab.async false
set_option linter.all false
set_option maxRecDepth 100000
set_option maxHeartbeats 4000000
namespace DL
open PySem L2

/-! ### what is walked -/
/-- the iterator gives out ds, whatever happens around -/
def ItD (G : Gm) (M0 : Addr → Prop) (H0 : Hp) (T : It) (ds : List D) : Prop := ∀ (i : Nat) M H, Step M0 H0 M H → MD M H →
  (∀ d, ds[i]? = some d → T.go i H ∧ ∀ x H', T.yld i H x H' → Extn H H' ∧ Rep G M H' d x) ∧ (ds.length ≤ i → T.stop i H)
def tI (J : Jx) (f : List Sl → RE (List D)) : TI := fun σ H R => ∃ M r, SI J M r σ H ∧ Out J (fun _ _ M1 H1 ds (T : It) => ItD J.G M1 H1 T ds) M H σ (f r) R
def gSeq : D → Option (List D)
  | .lst xs => some xs
  | .tup xs => some xs
  | .str z => some (z.cps.toList.map fun c => .str ⟨#[c]⟩)
  | .scr ns => some (ns.map .int)
  | _ => none
def iseq (f : List Sl → RE D) : List Sl → RE (List D) := fun r => (f r).bind fun x r1 => match gSeq x with
  | some ds => .ok ds r1
  | none => .bad
section
variable {X : Cx} {J : Jx} {tg e : Expr} {f : List Sl → RE D} {pos : Pos}
/-- the reading of a walked value: a list, a tuple, a text -/
def iAny (K : PySem.W.Frag) (tl : TE) : TI := fun σ H R => tl σ H fun x H1 => (∃ a, x = .ref a ∧ (∃ xs, SqL K H1 a xs) ∧ R (Itl K a) H1) ∨ (∃ a, x = .ref a ∧ (∃ xs, SqT K H1 a xs) ∧ R (Itt K a) H1) ∨ (∃ z, x = .str z ∧ R (Its z) H1)
theorem pi_any {tl : TE} (hl : PE X e tl) : PI X tg e (iAny X.K tl) := by
  refine ⟨fun pins s σ H R I h => ?_⟩
  refine thn (hl.run pins s σ H _ I h) fun v s1 ⟨x, H1, I1, rx, q⟩ => ?_
  rcases q with ⟨a, ea, ⟨xs, hq⟩, q⟩ | ⟨a, ea, ⟨xs, hq⟩, q⟩ | ⟨z, ez, q⟩
  · subst ea
    obtain rfl : v = Value.ref a := rx
    obtain ⟨its, _, pl, _⟩ := I1.list hq
    exact wpAny_pyIter_list pl.isList (pi_one (tk := s1.toks) I1 _ (turn_list a _) ⟨_, Heap.get?_push_size _ rfl, rfl, rfl⟩ q)
  · subst ea
    obtain rfl : v = Value.ref a := rx
    obtain ⟨its, _, pl, _⟩ := I1.tuple hq
    exact wpAny_pyIter_tuple (show s1.heap.IsTuple a its.toArray from pl) (pi_one (tk := s1.toks) I1 _ (turn_tuple a _) ⟨_, Heap.get?_push_size _ rfl, rfl, rfl⟩ q)
  · subst ez
    obtain ⟨t, rfl⟩ := rx
    by_cases ha : z.cps.all (· < 128) = true
    · exact wpAny_pyIter_ascii ha (pi_one (tk := s1.toks) I1 _ (turn_str _ z t "str_ascii_iterator" (.inl rfl)) ⟨_, Heap.get?_push_size _ rfl, rfl, rfl⟩ q)
    · exact wpAny_pyIter_wide (by simpa using ha) (pi_one (tk := s1.toks) I1 _ (turn_str _ z t "str_iterator" (.inr rfl)) ⟨_, Heap.get?_push_size _ rfl, rfl, rfl⟩ q)
theorem PIi {wi wi' : TI} (h : PI X tg e wi) (w : ∀ σ H R, wi' σ H R → wi σ H R) : PI X tg e wi' := ⟨fun pins s σ H R I q => h.run pins s σ H R I (w σ H R q)⟩
theorem itd_list {G : Gm} {M0 : Addr → Prop} {H0 : Hp} {K : PySem.W.Frag} {a : Addr} {xs : List D} {vs : List V} (md : MD M0 H0) (n : ¬ M0 a) (h : H0 a = some (.lst vs)) (r : RepL G M0 H0 xs vs) : ItD G M0 H0 (Itl K a) xs := by
  intro i M H st md'
  have h' := st.keep a _ h n
  have r' := RepL.step st md _ _ r
  refine ⟨fun d hd => ?_, fun hl => ⟨vs, SqL.of h', by rw [← r.length]; exact hl⟩⟩
  obtain ⟨v, hv, rv⟩ := r'.get hd
  refine ⟨⟨vs, v, SqL.of h', hv⟩, fun x H' ⟨e, q⟩ => ?_⟩
  subst e
  have z := q vs (SqL.of h')
  rw [hv] at z; cases z
  exact ⟨fun _ _ h => h, rv⟩
theorem itd_tup {G : Gm} {M0 : Addr → Prop} {H0 : Hp} {a : Addr} {xs : List D} {vs : List V} (md : MD M0 H0) (h : SqT G.K H0 a vs) (r : RepL G M0 H0 xs vs) : ItD G M0 H0 (Itt G.K a) xs := by
  intro i M H st md'
  have h' := st.sqt md h
  have r' := RepL.step st md _ _ r
  refine ⟨fun d hd => ?_, fun hl => ⟨vs, h', by rw [← r.length]; exact hl⟩⟩
  obtain ⟨v, hv, rv⟩ := r'.get hd
  refine ⟨⟨vs, v, h', hv⟩, fun x H' ⟨e, q⟩ => ?_⟩
  subst e
  have z := q vs h'
  rw [hv] at z; cases z
  exact ⟨fun _ _ h => h, rv⟩
theorem itd_str {G : Gm} {M0 : Addr → Prop} {H0 : Hp} {z : Str} : ItD G M0 H0 (Its z) (z.cps.toList.map fun c => .str ⟨#[c]⟩) := by
  intro i M H st md
  refine ⟨fun d hd => ?_, fun hl => by show z.cps.size ≤ i; simpa using hl⟩
  rw [List.getElem?_map, Option.map_eq_some_iff] at hd
  obtain ⟨c, hc, rfl⟩ := hd
  have hc' : z.cps[i]? = some c := by simpa using hc
  refine ⟨(Array.getElem?_eq_some_iff.mp hc').1, fun x H' ⟨e, c', h1, h2⟩ => ?_⟩
  subst e; subst h2
  rw [hc'] at h1; cases h1
  exact ⟨fun _ _ h => h, rfl⟩
theorem itd_scr {G : Gm} {M0 : Addr → Prop} {H0 : Hp} {a : Addr} {ns : List Int} (h : (¬ M0 a ∧ Rd H0 a (.lst (ns.map V.int))) ∨
      ∃ (o : Obj) (its : Array Value) (n : Nat), G.K.lookup a = some o ∧ o.cls = .type "list" ∧ o.dict = none ∧ o.data = .seq its n ∧ its.size ≤ sizeLine ∧ Vals (ns.map V.int) its.toList) : ItD G M0 H0 (Itl G.K a) (ns.map .int) := by
  intro i M H st md
  have h' : SqL G.K H a (ns.map V.int) := h.elim (fun q => .inl (st.rd q.1 q.2).1) .inr
  refine ⟨fun d hd => ?_, fun hl => ⟨_, h', by simpa using hl⟩⟩
  rw [List.getElem?_map, Option.map_eq_some_iff] at hd
  obtain ⟨c, hc, rfl⟩ := hd
  have hv : (ns.map V.int)[i]? = some (.int c) := by rw [List.getElem?_map, hc]; rfl
  refine ⟨⟨_, _, h', hv⟩, fun x H' ⟨e, q⟩ => ?_⟩
  subst e
  have z := q _ h'
  rw [hv] at z; cases z
  exact ⟨fun _ _ h => h, rfl⟩
theorem i_seq (hK : X.K = J.G.K) (he : PE X e (tE J f)) : PI X tg e (tI J (iseq f)) :=
  PIi (pi_any he) fun σ H R ⟨M, r, I, h⟩ => ⟨M, r, I, Out.bind h fun d r1 v M1 H1 st1 I1 rd1 h1 => by
    cases d with
    | lst xs =>
      obtain ⟨a, vs, rfl, n, ha, q⟩ := rd1
      exact .inl ⟨a, rfl, ⟨vs, SqL.of ha⟩, h1 _ M1 H1 Step.refl I1 (itd_list I1.md n ha q)⟩
    | tup xs =>
      obtain ⟨a, vs, rfl, ha, q⟩ := rd1
      rw [hK]
      exact .inr (.inl ⟨a, rfl, ⟨vs, ha⟩, h1 _ M1 H1 Step.refl I1 (itd_tup I1.md ha q)⟩)
    | str z => cases rd1; exact .inr (.inr ⟨z, rfl, h1 _ M1 H1 Step.refl I1 itd_str⟩)
    | scr ns =>
      obtain ⟨a, rfl, ha⟩ := rd1
      rw [hK]
      exact .inl ⟨a, rfl, ⟨_, ha.elim (fun q => .inl q.2) .inr⟩, h1 _ M1 H1 Step.refl I1 (itd_scr ha)⟩
    | non => exact h1.elim
    | bl b => exact h1.elim
    | int i => exact h1.elim
    | dct ks ds => exact h1.elim
    | ob c ns ds => exact h1.elim
    | fn c => exact h1.elim⟩
/-- lo, lo + 1, .. below hi -/
def rngL (lo hi : Int) : List D := (List.range (hi - lo).toNat).map fun (i : Nat) => .int (lo + i)
theorem itd_rng {G : Gm} {M0 : Addr → Prop} {H0 : Hp} {lo : Int} {n : Nat} : ItD G M0 H0 (Itr lo n) ((List.range n).map fun (i : Nat) => .int (lo + i)) := by
  intro i M H st md
  refine ⟨fun d hd => ?_, fun hl => by show n ≤ i; simpa using hl⟩
  rw [List.getElem?_map, Option.map_eq_some_iff] at hd
  obtain ⟨c, hc, rfl⟩ := hd
  rw [List.getElem?_eq_some_iff] at hc
  obtain ⟨hlt, e⟩ := hc
  rw [List.getElem_range] at e
  subst e
  rw [List.length_range] at hlt
  refine ⟨hlt, fun x H' ⟨e, q⟩ => ?_⟩
  subst e; subst q
  exact ⟨fun _ _ h => h, rfl⟩
def small (i : Int) : Bool := decide (-1000000000 ≤ i) && decide (i ≤ 1000000000)
theorem small_ok {i : Int} (h : small i = true) : -(2 ^ 62) ≤ i ∧ i < 2 ^ 62 := by
  unfold small at h
  rw [Bool.and_eq_true] at h
  have h1 := of_decide_eq_true h.1
  have h2 := of_decide_eq_true h.2
  exact ⟨by omega, by omega⟩
def irng1 (f : List Sl → RE D) : List Sl → RE (List D) := fun r => (f r).bind fun d r1 => match d with
  | .int j => if small j = true then .ok (rngL 0 j) r1 else .bad
  | _ => .bad
def irng2 (f g : List Sl → RE D) : List Sl → RE (List D) := fun r => (f r).bind fun d r1 => (g r1).bind fun d' r2 => match d, d' with
  | .int i, .int j => if (small i && small j) = true then .ok (rngL i j) r2 else .bad
  | _, _ => .bad
variable {a b : Expr} {fa fb : List Sl → RE D} {p : Pos}
theorem i_rng1 (hg : Gl X "range") (hm : X.mg "range" = none) (ha : PE X a (tE J fa)) (hs : starEach [a] X.env = [(false, eval a X.env)] := by rfl) : PI X tg (.Call (.Name "range" p) [a] [] pos) (tI J (irng1 fa)) :=
  PIi (pi_range1 hg hm (pa1 ha hs) hs) fun σ H R ⟨M, r, I, h⟩ => ⟨M, r, I, Out.bind h fun d r1 v M1 H1 st1 I1 rd1 h1 => by
    cases d with
    | int j =>
      cases rd1
      dsimp only at h1
      split at h1
      · rename_i hs'
        have hz := small_ok hs'
        refine ⟨j, rfl, hz.1, hz.2, h1 _ M1 H1 Step.refl I1 ?_⟩
        have z := itd_rng (G := J.G) (M0 := M1) (H0 := H1) (lo := 0) (n := (j - 0).toNat)
        rw [Int.sub_zero] at z
        unfold rngL
        rw [Int.sub_zero]
        exact z
      · exact h1.elim
    | _ => exact h1.elim⟩
theorem i_rng2 (hg : Gl X "range") (hm : X.mg "range" = none) (ha : PE X a (tE J fa)) (hb : PE X b (tE J fb)) (hs : starEach [a, b] X.env = [(false, eval a X.env), (false, eval b X.env)] := by rfl) (hs2 : starEach [b] X.env = [(false, eval b X.env)] := by rfl) : PI X tg (.Call (.Name "range" p) [a, b] [] pos) (tI J (irng2 fa fb)) :=
  PIi (pi_range2 hg hm (pa_cons ha (pa_cons hb pa_nil hs2) (hs.trans (by rw [hs2]))) hs hs2) fun σ H R ⟨M, r, I, h⟩ => ⟨M, r, I, Out.bind h fun d r1 v M1 H1 st1 I1 rd1 h1 => ⟨M1, r1, I1, Out.bind h1 fun d' r2 v' M2 H2 st2 I2 rd2 h2 => by
    cases d with
    | int i =>
      cases rd1
      cases d' with
      | int j =>
        cases rd2
        dsimp only at h2
        split at h2
        · rename_i hs'
          rw [Bool.and_eq_true] at hs'
          have hz := small_ok hs'.1
          have hy := small_ok hs'.2
          exact ⟨i, j, rfl, ⟨hz.1, hz.2, hy.1, hy.2⟩, h2 _ M2 H2 Step.refl I2 itd_rng⟩
        · exact h2.elim
      | _ => exact h2.elim
    | _ => exact h2.elim⟩⟩
end

/-! ### for, while -/
def forL : List D → (D → List Sl → RS) → (List Sl → RS) → List Sl → RS
  | [], _, _, r => .nx r
  | d :: ds, g, b, r => match g d r with
    | .nx r1 => (match b r1 with
      | .nx r2 => forL ds g b r2
      | .ct r2 => forL ds g b r2
      | .bk r2 => .nx r2
      | o => o)
    | _ => .bad
def sfor (fi : List Sl → RE (List D)) (g : D → List Sl → RS) (b : List Sl → RS) : List Sl → RS := fun r => (fi r).s fun ds r1 => forL ds g b r1
def whileN : Nat → (List Sl → RE Bool) → (List Sl → RS) → List Sl → RS
  | 0, _, _, _ => .bad
  | n + 1, c, b, r => (c r).s fun k r1 => if k = true then (match b r1 with
      | .nx r2 => whileN n c b r2
      | .ct r2 => whileN n c b r2
      | .bk r2 => .nx r2
      | o => o) else .nx r1
open Classical in
/-- the while loop, if it comes to an end -/
noncomputable def swhile (c : List Sl → RE Bool) (b : List Sl → RS) : List Sl → RS := fun r => if h : ∃ n, whileN n c b r ≠ .bad then whileN (Classical.choose h) c b r else .bad
theorem whileN_up {c : List Sl → RE Bool} {b : List Sl → RS} : ∀ (n : Nat) (r : List Sl), whileN n c b r ≠ .bad → whileN (n + 1) c b r = whileN n c b r
  | 0, r, h => absurd rfl h
  | n + 1, r, h => by
    unfold whileN at h ⊢
    cases e : c r with
    | ok k r1 =>
      rw [e] at h
      dsimp only [RE.s] at h ⊢
      by_cases hk : k = true
      · rw [if_pos hk] at h ⊢
        rw [if_pos hk]
        cases eb : b r1 with
        | nx r2 => rw [eb] at h; exact whileN_up n r2 h
        | ct r2 => rw [eb] at h; exact whileN_up n r2 h
        | bk r2 => rfl
        | rt d r2 => rfl
        | exn x r2 => rfl
        | bad => rfl
      · rw [if_neg hk, if_neg hk]
    | exn x r1 => rfl
    | bad => rfl
theorem whileN_add {c : List Sl → RE Bool} {b : List Sl → RS} {n : Nat} {r : List Sl} (h : whileN n c b r ≠ .bad) : ∀ k, whileN (n + k) c b r = whileN n c b r
  | 0 => rfl
  | k + 1 => by
    have e := whileN_add h k
    have h' : whileN (n + k) c b r ≠ .bad := by rw [e]; exact h
    exact (whileN_up (n + k) r h').trans e
theorem swhile_eq {c : List Sl → RE Bool} {b : List Sl → RS} {n : Nat} {r : List Sl} (h : whileN n c b r ≠ .bad) : swhile c b r = whileN n c b r := by
  have hx : ∃ n, whileN n c b r ≠ .bad := ⟨n, h⟩
  unfold swhile
  rw [dif_pos hx]
  have h2 := Classical.choose_spec hx
  rcases Nat.le_total n (Classical.choose hx) with q | q
  · obtain ⟨k, ek⟩ := Nat.exists_eq_add_of_le q
    rw [ek]; exact whileN_add h k
  · obtain ⟨k, ek⟩ := Nat.exists_eq_add_of_le q
    have := whileN_add h2 k
    rw [← ek] at this
    exact this.symm
section
variable {X : Cx} {J : Jx} {tg iter c : Expr} {body : List Stmt} {fi : List Sl → RE (List D)} {g : D → List Sl → RS} {fb : List Sl → RS} {fc : List Sl → RE Bool} {pos : Pos}
theorem s_for (hp : PassesOwn (model X.prog X.w) X.A X.env X.xe) (hc : X.calm = true) (hi : PI X tg iter (tI J fi)) {vs : List Nat} (hg : PG X tg (tG J vs g)) (ok : GOk g) (hb : PSs X body (tS J fb)) (hs : ∀ x, foldedSetIterable iter X.env x = pure x := by intro _; rfl) :
    PS X (.For tg iter body [] pos) (tS J (sfor fi g fb)) :=
  PSi (ps_for hp hc hi hg hb hs) fun E σ H ⟨M, r, I, h⟩ => ⟨M, r, I, Out.s h fun ds r1 T M1 H1 st1 I1 it h1 => by
    refine ⟨fun i m σ' H' => m = ds.length - i ∧ i ≤ ds.length ∧ ∃ M' r', SI J M' r' σ' H' ∧ Step M1 H1 M' H' ∧ OutS J M' H' (forL (ds.drop i) g fb r') E, ⟨ds.length, by simp, Nat.zero_le _, M1, r1, I1, Step.refl, by simpa using h1⟩, ?_⟩
    rintro i m σ' H' ⟨rfl, hi, M', r', I', st', h'⟩
    obtain ⟨it1, it2⟩ := it i M' H' st' I'.md
    by_cases hlt : i < ds.length
    · have hd : ds[i]? = some ds[i] := List.getElem?_eq_getElem hlt
      obtain ⟨go, yl⟩ := it1 _ hd
      refine .inr ⟨go, fun σ2 H2 => ∃ M2 r2, SI J M2 r2 σ2 H2 ∧ Step M1 H1 M2 H2 ∧ OutS J M2 H2 (forL (ds.drop (i + 1)) g fb r2) E, fun σ2 H2 ⟨M2, r2, q⟩ => ⟨ds.length - (i + 1), by omega, rfl, by omega, M2, r2, q⟩, fun x H2 y => ?_⟩
      obtain ⟨ex, rx⟩ := yl x H2 y
      rw [List.drop_eq_getElem_cons hlt] at h'
      have h2 := OutS.step (Step.ext ex) h'
      refine ⟨M', r', ds[i], I'.ext ex, rx, ?_⟩
      have eq : forL (ds[i] :: ds.drop (i + 1)) g fb r' = (match g ds[i] r' with
        | .nx r1 => (match fb r1 with
          | .nx r2 => forL (ds.drop (i + 1)) g fb r2
          | .ct r2 => forL (ds.drop (i + 1)) g fb r2
          | .bk r2 => .nx r2
          | o => o)
        | _ => .bad) := rfl
      rw [eq] at h2
      rcases ok ds[i] r' with ⟨r3, e3⟩ | e3
      · rw [e3] at h2 ⊢
        intro M3 σ3 H3 st3 I3 _
        refine ⟨M3, r3, I3, ?_⟩
        have h3 := OutS.step st3 h2
        have st4 : Step M1 H1 M3 H3 := (st'.trans (Step.ext ex)).trans st3
        dsimp only at h3
        cases eb : fb r3 with
        | nx r4 => rw [eb] at h3; exact fun M4 σ4 H4 s4 I4 => ⟨M4, r4, I4, st4.trans s4, OutS.step s4 h3⟩
        | ct r4 => rw [eb] at h3; exact fun M4 σ4 H4 s4 I4 => ⟨M4, r4, I4, st4.trans s4, OutS.step s4 h3⟩
        | bk r4 => rw [eb] at h3; exact h3
        | rt d r4 => rw [eb] at h3; exact h3
        | exn x r4 => rw [eb] at h3; exact h3
        | bad => rw [eb] at h3; exact h3.elim
      · rw [e3] at h2; exact h2.elim
    · have e : i = ds.length := by omega
      subst e
      rw [List.drop_length] at h'
      exact .inl ⟨it2 (Nat.le_refl _), h' M' σ' H' Step.refl I'⟩⟩
theorem s_while (hp : PassesOwn (model X.prog X.w) X.A X.env X.xe) (hc : PT X c (tT J fc)) (hb : PSs X body (tS J fb)) : PS X (.While c body [] pos) (tS J (swhile fc fb)) :=
  PSi (ps_while hp hc hb) fun E σ H ⟨M, r, I, h⟩ => by
    have hx : ∃ n, whileN n fc fb r ≠ .bad := by
      apply Classical.byContradiction
      intro hn
      unfold swhile at h
      rw [dif_neg hn] at h
      exact h
    obtain ⟨n, hn⟩ := hx
    rw [swhile_eq hn] at h
    refine ⟨fun m σ' H' => ∃ M' r', SI J M' r' σ' H' ∧ OutS J M' H' (whileN m fc fb r') E, ⟨n, M, r, I, h⟩, ?_⟩
    rintro m σ' H' ⟨M', r', I', h'⟩
    cases m with
    | zero => exact h'.elim
    | succ m =>
      refine ⟨M', r', I', Out.s h' fun k r1 v M1 H1 st1 I1 rv h1 => ?_⟩
      cases rv
      by_cases hk : k = true
      · rw [if_pos hk] at h1 ⊢
        refine ⟨fun σ2 H2 => ∃ M2 r2, SI J M2 r2 σ2 H2 ∧ OutS J M2 H2 (whileN m fc fb r2) E, fun σ2 H2 q => ⟨m, Nat.lt_succ_self _, q⟩, M1, r1, I1, ?_⟩
        cases eb : fb r1 with
        | nx r4 => rw [eb] at h1; exact fun M4 σ4 H4 s4 I4 => ⟨M4, r4, I4, OutS.step s4 h1⟩
        | ct r4 => rw [eb] at h1; exact fun M4 σ4 H4 s4 I4 => ⟨M4, r4, I4, OutS.step s4 h1⟩
        | bk r4 => rw [eb] at h1; exact h1
        | rt d r4 => rw [eb] at h1; exact h1
        | exn x r4 => rw [eb] at h1; exact h1
        | bad => rw [eb] at h1; exact h1.elim
      · rw [if_neg hk] at h1 ⊢
        exact h1 M1 σ' H1 Step.refl I1
end
end DL

set_option Elab.async false
set_option linter.all false
set_option maxRecDepth 100000
set_option maxHeartbeats 4000000
namespace DLX
open PySem PySem.W PySem.Calls PyProof.Rows PySem.HandSPX

/-- def __init__(self, f): super().__init__(f); self.f = f -/
def body1 (f : Str) (p0 p1 ap q1 pos pos' : Pos) (a1 a2 a3 a4 : Pos) : List Stmt :=
  [.Expr (.Call (.Attribute (.Call (.Name "super" p0) [] [] p1) "__init__" ap) [.Name f q1] [] pos) pos', .Assign [.Attribute (.Name "self" a1) f a2] (.Name f a3) a4]
/-- def __init__(self, f, g): super().__init__(f, g); self.f = f; self.g = g -/
def body2 (f g : Str) (p0 p1 ap q1 q2 pos pos' : Pos) (a1 a2 a3 a4 b1 b2 b3 b4 : Pos) : List Stmt :=
  [.Expr (.Call (.Attribute (.Call (.Name "super" p0) [] [] p1) "__init__" ap) [.Name f q1, .Name g q2] [] pos) pos', .Assign [.Attribute (.Name "self" a1) f a2] (.Name f a3) a4, .Assign [.Attribute (.Name "self" b1) g b2] (.Name g b3) b4]
def args1 (f : Str) (p1 p2 : Pos) : Arguments := { posonlyargs := [], args := [{ arg := "self", annotation := none, pos := p1 }, { arg := f, annotation := none, pos := p2 }], vararg := none, kwonlyargs := [], kw_defaults := [], kwarg := none, defaults := [] }
def args2 (f g : Str) (p1 p2 p3 : Pos) : Arguments := { posonlyargs := [], args := [{ arg := "self", annotation := none, pos := p1 }, { arg := f, annotation := none, pos := p2 }, { arg := g, annotation := none, pos := p3 }], vararg := none, kwonlyargs := [], kw_defaults := [], kwarg := none, defaults := [] }
def scope1 (f : Str) : Scope := { kind := .function, names := [("self", .local), (f, .local), ("__class__", .free), ("super", .globalImplicit)], isGenerator := false, isCoroutine := false, more := [] }
def scope2 (f g : Str) : Scope := { kind := .function, names := [("self", .local), (f, .local), (g, .local), ("__class__", .free), ("super", .globalImplicit)], isGenerator := false, isCoroutine := false, more := [] }

/-- what the written part tells of such a class, at C, its __init__ at fI -/
structure Cl (P : Program) (K : Frag) (mg : Str → Option Value) (c : Str) (C fI : Addr) (fs : List Str) : Prop where
  gC : mg c = some (.ref C)
  cls : ∃ nm q N bs bm sn sub ab col dd k0 k1 k2 k3 k5, K.lookup C = some (excClassObj nm q C N bs bm true sn sub ab col dd k0 k1 k2 k3 k5 "ValueError.__new__") ∧ refsVE bm = true
  sa : findIn K (.ref C) "__setattr__" = some (some (.builtin "object.__setattr__"))
  ga : findIn K (.ref C) "__getattribute__" = some (some (.builtin "BaseException.__getattribute__"))
  gg : findIn K (.ref C) "__getattr__" = some none
  no : ∀ f ∈ fs, findIn K (.ref C) f = some none
  iC : findIn K (.ref C) "__init__" = some (some (.ref fI))
  tC : typeIn K (.ref fI) = some (.type "function")
  kC : keepIn K (.ref C) = true
  exC : subIn K (.ref C) (.type "BaseException") = some true
  veC : subIn K (.ref C) (.type "ValueError") = some true
  tyC : typeIn K (.ref C) = some (.type "type")
  hdC : hasDictIn K C = true
  selfC : mroIn K C (.ref C) = some true
  sup : ks_superIn K C C "__init__" = some (some (.builtin "ValueError.__init__"))
  op : nsIn K cStatics "thirdparty.any" = some none
  ms : nsIn K mainGlobals "super" = some none
  tops : (P.main.scope.names.lookup ("super" : Str)).isSome = false
/-- its __init__, as it lies in the written part -/
structure Fn (P : Program) (K : Frag) (fI C : Addr) (q : Str) (a : Arguments) (b : List Stmt) (sc : Scope) : Prop where
  ex : ∃ (oc : Value) (od : Option Addr) (doc pm : Value) (an : Option Addr) (cda : Addr) (ct : Value) (osl : Array (Option Value)) (cc : Addr) (ccl cl : Value) (cdd cld : Option Addr) (vs : Array Value) (ccs csl : Array (Option Value)) (file : Str) (tf : Tok),
    K.lookup fI = some ⟨oc, od, .func (ksFn "__init__" q a b sc .none .none doc pm an (.ref cda) ct cc), osl⟩ ∧ codeIn K (.ref cda) q = true ∧
    K.lookup cda = some ⟨ccl, cdd, .fields vs, ccs⟩ ∧ vs[2]? = some (.str file tf) ∧ ((P.main.file : Str) == file) = true ∧ K.lookup cc = some ⟨cl, cld, .cell (some (.ref C)), csl⟩
/-- what __init__ leaves of a fresh exception at x -/
structure End (h h' : Heap) (x C dx : Addr) (mA : Str → Option Value) : Prop where
  keep : ∀ b o, b ≠ x → h.get? b = some o → h'.get? b = some o
  obj : ∃ t, h'.get? x = some { cls := .ref C, dict := some dx, data := .fields #[.ref t, .none, .none, .none, .bool false, .none] }
  dbig : h.objs.size ≤ dx
  dne : dx ≠ x
  ns : h'.Ns1 dx mA
section
variable {prog : Program} {w : World} {A : Around} {E : Value → Shared → Prop} {R : Result → Shared → Prop} {K : Frag} {mg : Str → Option Value} {c : Str} {C fI : Addr} {fs : List Str}
theorem ex_ref {h : Heap} {x C t : Addr} (hx : h.get? x = some (excO C t)) : InstAt h x (excO C t) C none := ⟨hx, rfl, rfl, trivial⟩
/-- the call of ValueError.__init__ bound to the exception -/
theorem call_super (T : Cl prog K mg c C fI fs) {h : Heap} {g : Array GenState} {d : Drawn} {t : Nat} {os : OsState} {u x t0 : Addr} {rest : List Value} {Q : Value → Shared → Prop} (X : K.In h) (hu : h.get? u = some (kxs_mw "ValueError.__init__" x)) (hx : h.get? x = some (excO C t0)) (hz : rest.length ≤ sizeLine)
    (hq : ∀ h' t1, (∀ b o, b ≠ x → h.get? b = some o → h'.get? b = some o) → h'.get? x = some (excO C t1) → h.objs.size < h'.objs.size → Q .none ⟨h', g, d, t, os⟩) :
    wpAny (model prog w) A (call (.ref u) rest) Q E ⟨h, g, d, t, os⟩ := by
  obtain ⟨nm, q, N, bs, bm, sn, sub, ab, col, dd, k0, k1, k2, k3, k5, hC, hbm⟩ := T.cls
  refine wpAny_call (codeAny_of_tree ?_)
  show wpAny (model prog w) A.in1 (callAny (.ref u) ⟨rest, []⟩) _ _ ⟨h, g, d, t, os⟩
  unfold callAny
  dsimp only
  refine wpAny_bind (wpAny_load hu ?_)
  have e1 : (Value.type "method-wrapper" == Value.type "method" || Value.type "method-wrapper" == Value.type "builtin_function_or_method" ||
      Value.type "method-wrapper" == Value.type "method-wrapper") = true := by decide
  simp only [kxs_mw, e1, if_true]
  refine KFB.if_so (by decide) ?_
  refine wpAny_bind (check_bound_init F.excBase_ValueError.toExcCallFacts (X _ _ hC) hx rfl ?_)
  refine wpAny_bind (wpAny_pure (wpAny_pure ⟨plainId_quiet F.excBase_ValueError.init.plain _, ?_⟩))
  refine codeAny_builtin F.excBase_ValueError.initEntry ?_
  exact exc_init_tree (c2 := .none) (c3 := .none) (b4 := .bool false) (dv := none) (t0 := t0) (cls := .ref C) hx hz fun h' k1 k2 k3 => hq h' _ k1 k2 (Heap.lt_size k3)
/-- super().__init__(..): behind it the exception has other args -/
theorem super_stmt (T : Cl prog K mg c C fI fs) {q : Str} {ar : Arguments} {b : List Stmt} {sc : Scope} {oc : Value} {od : Option Addr} {doc pm : Value} {an : Option Addr} {cda : Addr} {ct : Value} {osl : Array (Option Value)} {cc : Addr} {ccl cl : Value} {cdd cld : Option Addr} {vs : Array Value} {ccs csl : Array (Option Value)} {file : Str} {tf : Tok} {a0 : Arg}
    (ho : K.lookup fI = some ⟨oc, od, .func (ksFn "__init__" q ar b sc .none .none doc pm an (.ref cda) ct cc), osl⟩) (hcode : K.lookup cda = some ⟨ccl, cdd, .fields vs, ccs⟩) (hvs : vs[2]? = some (.str file tf)) (hfile : ((prog.main.file : Str) == file) = true) (hcell : K.lookup cc = some ⟨cl, cld, .cell (some (.ref C)), csl⟩)
    (hp : (ar.posonlyargs ++ ar.args).head? = some a0) (h0 : a0.arg = "self") {L : Addr} {body : List Stmt} {p0 p1 ap pos pos' : Pos} {e : Expr} {es : List Expr} {s : Shared} {m mb : Str → Option Value} {x t0 : Addr} {us : List Value} {Q : Flow → Shared → Prop}
    (X : K.In s.heap) (hg : s.heap.Ns mainGlobals mg) (hb : s.heap.Ns builtinsNs mb) (hbb : ∀ y : Str, y ≠ "__name__" → mb y = bootBuiltins y) (hn : s.heap.Ns L m) (hv : m "self" = some (.ref x)) (hx : s.heap.get? x = some (excO C t0)) (hnx : K.lookup x = none)
    (hks : sc.names.lookup ("super" : Str) = some .globalImplicit) (hkc : sc.names.lookup ("__class__" : Str) = some .free) (hka : sc.names.lookup ("self" : Str) = some .local) (hk : sc.kind = .function) (hz : us.length ≤ sizeLine)
    (hargs : ∀ (s1 : Shared) (Q1 : List Value → Shared → Prop), s1.heap.Ns L m → Q1 us s1 → wpAny (model prog w) A (spliced (backTo pos (starEach (e :: es) (ksEnv q sc L fI (.ref cda) cc)))) Q1 E s1)
    (he : starEach (e :: es) (ksEnv q sc L fI (.ref cda) cc) = (false, eval e (ksEnv q sc L fI (.ref cda) cc)) :: starEach es (ksEnv q sc L fI (.ref cda) cc)) (hpl : (backTo pos (starEach es (ksEnv q sc L fI (.ref cda) cc))).any (·.1) = false)
    (hxL : x ≠ L)
    (hq : ∀ h' t1 tk, (∀ b o, b ≠ x → s.heap.get? b = some o → h'.get? b = some o) → h'.get? x = some (excO C t1) → h'.Ns L m → s.heap.objs.size ≤ h'.objs.size → Q .next { s with heap := h', toks := tk })
    {pl : Sem Bool} (hev : eval (.Call (.Attribute (.Call (.Name "super" p0) [] [] p1) "__init__" ap) (e :: es) [] pos) (ksEnv q sc L fI (.ref cda) cc) = (do
      let ov ← attributeBase (.Call (.Name "super" p0) [] [] p1) "__init__" (ksEnv q sc L fI (.ref cda) cc) (eval (.Call (.Name "super" p0) [] [] p1) (ksEnv q sc L fI (.ref cda) cc))
      standAt ap.atName
      let (f, first) ← holding [ov] (getMethod ov "__init__" pl)
      callWith pos f first (backTo pos (starEach (e :: es) (ksEnv q sc L fI (.ref cda) cc))) []))
    (hsw : swapsWith (.Call (.Attribute (.Call (.Name "super" p0) [] [] p1) "__init__" ap) (e :: es) [] pos) none pos'.line (ksEnv q sc L fI (.ref cda) cc) = pure false := by rfl) :
    _root_.PySem.wpAt (model prog w) A (.func body (ksEnv q sc L fI (.ref cda) cc)) (exec (.Expr (.Call (.Attribute (.Call (.Name "super" p0) [] [] p1) "__init__" ap) (e :: es) [] pos) pos') (ksEnv q sc L fI (.ref cda) cc)) Q E s := by
  obtain ⟨nm, qn, N, bs, bm, sn, sub, ab, col, dd, k0, k1, k2, k3, k5, hC, hbm⟩ := T.cls
  have hcd : clsIn K C = some { name := nm, bases := bs, mro := .ref C :: bm, ns := N, qualname := qn, hasDict := true, slotNames := sn, subclasses := sub, abstract := ab, collection := col, hasDel := false } := by
    unfold clsIn
    rw [hC] <;> rfl
  have hC1 := X _ _ hC
  refine ks_wpAt_Expr_any ?_ (by first | rfl | (simp [interactive]; intro z; rw [hk] at z; cases z)) hsw
  refine ks_wpAt_MethodCall (pl := pl) ?_ hev
  obtain ⟨hh, g, d, t, os⟩ := s
  refine ks_wpAt_super_base (env := ksEnv q sc L fI (.ref cda) cc) hks hkc (by decide) rfl (X _ _ ho) rfl hp rfl (X _ _ hcode) rfl hvs hfile T.tops ?_
  refine ks_loadName_global hk hks ?_
  refine loadGlobal_builtin (env := ksEnv q sc L fI (.ref cda) cc) hg (mg_none_of X hg T.ms) hb ((hbb "super" (by decide +kernel)).trans (show bootBuiltins "super" = some (.type "super") by decide +kernel)) ⟨rfl, ?_⟩
  refine wpAny_loadName_free hk hkc rfl ⟨_, X _ _ hcell, rfl⟩ ?_
  rw [h0]
  refine wpAny_loadName_local hk hka hn hv ?_
  refine ks_wpAny_isType_cls hC1 rfl ⟨rfl, ?_⟩
  refine ks_wpAny_call_super hC1 rfl hx rfl (fun c e => by cases e) (looks_mroIn X T.selfC) (fun h1 e1 k1 => ?_)
  have X1 : K.In h1 := X.keeps k1
  have hx1 := k1 _ _ hx
  have hso := e1
  have hm := T.sup
  unfold ks_superIn at hm
  rw [hcd] at hm
  have I1 : InstAt h1 x (excO C t0) C none := ex_ref hx1
  have hI : Looks (model prog w) h1 (isInstance (.ref x) (.type "ValueError")) true := I1.type.andThen (looks_subIn X1 T.veC)
  have nxC : x ≠ C := fun e => by rw [e, hC] at hnx; cases hnx
  refine kxs_getMethod kxs_ValueError hso (looks_opaque X1 T.op) (fun A Q E s k q => wpAny_bind ((looks_clsIn X1 hcd) A _ E s k (wpAny_pure q))) rfl X1 hm hI nxC (by decide) ?_
  have hns1 : (h1.push (kxs_mw "ValueError.__init__" x)).Ns L m := (hn.keeps k1).keeps fun b o e => Heap.get?_push_of_some _ e
  have hu : (h1.push (kxs_mw "ValueError.__init__" x)).get? h1.objs.size = some (kxs_mw "ValueError.__init__" x) := Heap.get?_push_at rfl rfl
  have hx2 : (h1.push (kxs_mw "ValueError.__init__" x)).get? x = some (excO C t0) := Heap.get?_push_of_some _ hx1
  refine kxs_callWith (i := "ValueError.__init__") (x := x) (u := h1.objs.size) ?_ ?_
  · rw [he]
    show (false || (backTo pos (starEach es (ksEnv q sc L fI (.ref cda) cc))).any (·.1)) = false
    rw [hpl]; rfl
  have fin : wpAny (model prog w) A (call (.ref h1.objs.size) us) (fun _ s' => Q .next s') E ⟨h1.push (kxs_mw "ValueError.__init__" x), g, d, t + 1, os⟩ := by
    refine call_super T (X1.keeps fun b o e => Heap.get?_push_of_some _ e) hu hx2 hz fun h' t1 k2 e2 sz => ?_
    have kk : ∀ b o, b ≠ x → hh.get? b = some o → h'.get? b = some o := fun b o nb e => k2 b o nb (Heap.get?_push_of_some _ (k1 b o e))
    refine hq h' t1 _ kk e2 ?_ ?_
    · obtain ⟨oL, es', ep, hL, r⟩ := hn
      exact ⟨oL, es', ep, kk _ _ (Ne.symm hxL) hL, r⟩
    · have z1 := Heap.lt_size hso
      have z2 : (h1.push (kxs_mw "ValueError.__init__" x)).objs.size = h1.objs.size + 1 := Heap.size_push ..
      show hh.objs.size ≤ h'.objs.size
      have z3 : hh.objs.size < h1.objs.size := z1
      omega
  have ha := hargs ⟨h1.push (kxs_mw "ValueError.__init__" x), g, d, t + 1, os⟩ (fun vs s1 => KxsAt "ValueError.__init__" h1.objs.size x s1.heap ∧ wpAny (model prog w) A (call (.ref h1.objs.size) vs) (fun _ s' => Q .next s') E s1) hns1 ⟨hu, fin⟩
  rw [he] at ha ⊢
  exact evalArgs_plain ha
theorem held_init1 (T : Cl prog K mg c C fI fs) {f q : Str} {p0 p1 ap q1 pos pos' a1 a2 a3 a4 u1 u2 : Pos} (N : Fn prog K fI C q (args1 f u1 u2) (body1 f p0 p1 ap q1 pos pos' a1 a2 a3 a4) (scope1 f)) (hf : f ∈ fs) (hne : (("self" : Str) == f) = false) (hd : (f == ("__debug__" : Str)) = false)
    (lf : (scope1 f).names.lookup f = some .local) (lk : (scope1 f).names.lookup ("super" : Str) = some .globalImplicit) (lc : (scope1 f).names.lookup ("__class__" : Str) = some .free)
    (hbd : ∀ (doc pm ct : Value) (an : Option Addr) (cda cc : Addr) (y z : Value), bindArgs (ksFn "__init__" q (args1 f u1 u2) (body1 f p0 p1 ap q1 pos pos' a1 a2 a3 a4) (scope1 f) .none .none doc pm an (.ref cda) ct cc) ⟨[y, z], []⟩ = pure [(("self" : Str), y), (f, z)])
    (hev : ∀ (L cda cc : Addr), ∃ pl, eval (.Call (.Attribute (.Call (.Name "super" p0) [] [] p1) "__init__" ap) [.Name f q1] [] pos) (ksEnv q (scope1 f) L fI (.ref cda) cc) = (do
      let ov ← attributeBase (.Call (.Name "super" p0) [] [] p1) "__init__" (ksEnv q (scope1 f) L fI (.ref cda) cc) (eval (.Call (.Name "super" p0) [] [] p1) (ksEnv q (scope1 f) L fI (.ref cda) cc))
      standAt ap.atName
      let (g, first) ← holding [ov] (getMethod ov "__init__" pl)
      callWith pos g first (backTo pos (starEach [.Name f q1] (ksEnv q (scope1 f) L fI (.ref cda) cc))) []))
    (hsw1 : ∀ (L cda cc : Addr), swapsWith (.Call (.Attribute (.Call (.Name "super" p0) [] [] p1) "__init__" ap) [.Name f q1] [] pos) none pos'.line (ksEnv q (scope1 f) L fI (.ref cda) cc) = pure false)
    (hsw2 : ∀ (L cda cc : Addr), swapsWith (.Name f a3) (some (.Attribute (.Name "self" a1) f a2)) a4.line (ksEnv q (scope1 f) L fI (.ref cda) cc) = pure false)
    {s : Shared} {mb : Str → Option Value} {x t0 : Addr} {v : Value} (X : K.In s.heap) (hlim : s.heap.NoLimit) (hg : s.heap.Ns mainGlobals mg) (hb : s.heap.Ns builtinsNs mb) (hbb : ∀ y : Str, y ≠ "__name__" → mb y = bootBuiltins y)
    (hx : s.heap.get? x = some (excO C t0)) (hnx : K.lookup x = none) (hroom : A.depth < recursionLimit)
    (hq : ∀ h' tk dx, End s.heap h' x C dx (fun y => if y = f then some v else none) → R (.ok (.ret .none)) { s with heap := h', toks := tk }) :
    codeAny (model prog w) A (.call (.ref fI) ⟨[.ref x, v], []⟩) R s := by
  obtain ⟨oc, od, doc, pm, an, cda, ct, osl, cc, ccl, cl, cdd, cld, vs, ccs, csl, file, tf, ho, hcd, hcode, hvs, hfile, hcell⟩ := N.ex
  obtain ⟨nm, qn, NN, bs, bm, sn, sub, ab, col, dd, k0, k1, k2, k3, k5, hC, hbm⟩ := T.cls
  have hcl : clsIn K C = some { name := nm, bases := bs, mro := .ref C :: bm, ns := NN, qualname := qn, hasDict := true, slotNames := sn, subclasses := sub, abstract := ab, collection := col, hasDel := false } := by
    unfold clsIn
    rw [hC] <;> rfl
  have ls : (scope1 f).names.lookup ("self" : Str) = some .local := by simp [scope1, List.lookup]
  have mself : ([((f : Str), v), (("self" : Str), Value.ref x)] : List (Str × Value)).lookup ("self" : Str) = some (.ref x) := by simp [List.lookup, hne]
  have mf : ([((f : Str), v), (("self" : Str), Value.ref x)] : List (Str × Value)).lookup f = some v := by simp [List.lookup]
  refine ks_codeAny_call_defAt (binds := [("self", .ref x), (f, v)]) hroom (X _ _ ho) rfl hlim (codeRec_of X hcd) rfl (BindsTo.of_eq (hbd ..)) (fun y hy => ?_) (fun y hy => ?_) (fun h1 hn k => ?_) rfl rfl rfl
  · simp [scope1] at hy; rcases hy with rfl | rfl | rfl | rfl <;> simp
  · simp at hy; rcases hy with rfl | rfl
    · exact ls
    · exact lf
  have X1 := X.keeps k
  have hx1 := k _ _ hx
  have hxL : x ≠ s.heap.objs.size := Nat.ne_of_lt (Heap.lt_size hx)
  show _root_.PySem.wpAt (model prog w) (A.deeper (ksEnv q (scope1 f) s.heap.objs.size fI (.ref cda) cc)) (.func (body1 f p0 p1 ap q1 pos pos' a1 a2 a3 a4) (ksEnv q (scope1 f) s.heap.objs.size fI (.ref cda) cc)) (execs (body1 f p0 p1 ap q1 pos pos' a1 a2 a3 a4) (ksEnv q (scope1 f) s.heap.objs.size fI (.ref cda) cc)) _ _ _
  obtain ⟨pl, hev'⟩ := hev s.heap.objs.size cda cc
  refine ks_wpAt_execs_cons (super_stmt T ho hcode hvs hfile hcell (a0 := { arg := "self", annotation := none, pos := u1 }) rfl rfl (us := [v]) X1 (hg.keeps k) (hb.keeps k) hbb hn mself hx1 hnx lk lc ls rfl (by rw [sizeLine_eq]; exact (by decide : 1 ≤ 16777216)) (fun s1 Q1 hn1 hq1 => ?_) rfl rfl hxL (fun h2 t1 tk k2 e2 hn2 sz2 => ?_) (pl := pl) hev' (hsw1 ..))
  · show wpAny _ _ (spliced ((false, eval (.Name f q1) _) :: [])) _ _ _
    exact Calls.spliced_cons (ESX.ldL (env := ksEnv q (scope1 f) s.heap.objs.size fI (.ref cda) cc) hn1 mf (Calls.spliced_nil hq1) rfl lf hd)
  have X2 : K.In h2 := fun b o e => k2 b o (fun z => by rw [z] at e; rw [hnx] at e; cases e) (X1 b o e)
  refine ks_wpAt_execs_cons (ks_wpAt_Assign_Attr ?_ (hsw2 ..))
  refine wpAt_of_wpAny (ESX.ldL (env := ksEnv q (scope1 f) s.heap.objs.size fI (.ref cda) cc) hn2 mf ?_ rfl lf hd)
  refine ESX.ldL (env := ksEnv q (scope1 f) s.heap.objs.size fI (.ref cda) cc) hn2 mself ?_ rfl ls (by decide)
  refine set_plain X2 (ox := excO C t1) (od := none) (ex_ref e2) T.sa ?_
  refine exc_osa X2 e2 hcl (show refsVE (.ref C :: bm) = true from hbm) rfl (T.no f hf) (fun h3 tk3 dx k3 dn dne hx3 hn3 => ?_)
  refine wpAt_of_wpAny (wpAny_execs_nil ?_)
  have z : s.heap.objs.size < h1.objs.size := hn.lt
  refine hq h3 tk3 dx ⟨fun b o nb e => k3 b o nb (k2 b o nb (k b o e)), ⟨t1, hx3⟩, ?_, dne, hn3⟩
  have sz2' : h1.objs.size ≤ h2.objs.size := sz2
  have dn2 : h2.objs.size ≤ dx := dn
  omega
theorem held_init2 (T : Cl prog K mg c C fI fs) {f g q : Str} {p0 p1 ap q1 q2 pos pos' a1 a2 a3 a4 b1 b2 b3 b4 u1 u2 u3 : Pos} (N : Fn prog K fI C q (args2 f g u1 u2 u3) (body2 f g p0 p1 ap q1 q2 pos pos' a1 a2 a3 a4 b1 b2 b3 b4) (scope2 f g)) (hf : f ∈ fs) (hg1 : g ∈ fs) (hne2 : (("self" : Str) == g) = false) (hfg : (f == g) = false) (hgd : (g == ("__debug__" : Str)) = false) (lg : (scope2 f g).names.lookup g = some .local) (hne : (("self" : Str) == f) = false) (hd : (f == ("__debug__" : Str)) = false)
    (lf : (scope2 f g).names.lookup f = some .local) (lk : (scope2 f g).names.lookup ("super" : Str) = some .globalImplicit) (lc : (scope2 f g).names.lookup ("__class__" : Str) = some .free)
    (hbd : ∀ (doc pm ct : Value) (an : Option Addr) (cda cc : Addr) (y z z2 : Value), bindArgs (ksFn "__init__" q (args2 f g u1 u2 u3) (body2 f g p0 p1 ap q1 q2 pos pos' a1 a2 a3 a4 b1 b2 b3 b4) (scope2 f g) .none .none doc pm an (.ref cda) ct cc) ⟨[y, z, z2], []⟩ = pure [(("self" : Str), y), (f, z), (g, z2)])
    (hev : ∀ (L cda cc : Addr), ∃ pl, eval (.Call (.Attribute (.Call (.Name "super" p0) [] [] p1) "__init__" ap) [.Name f q1, .Name g q2] [] pos) (ksEnv q (scope2 f g) L fI (.ref cda) cc) = (do
      let ov ← attributeBase (.Call (.Name "super" p0) [] [] p1) "__init__" (ksEnv q (scope2 f g) L fI (.ref cda) cc) (eval (.Call (.Name "super" p0) [] [] p1) (ksEnv q (scope2 f g) L fI (.ref cda) cc))
      standAt ap.atName
      let (k, first) ← holding [ov] (getMethod ov "__init__" pl)
      callWith pos k first (backTo pos (starEach [.Name f q1, .Name g q2] (ksEnv q (scope2 f g) L fI (.ref cda) cc))) []))
    (hsw1 : ∀ (L cda cc : Addr), swapsWith (.Call (.Attribute (.Call (.Name "super" p0) [] [] p1) "__init__" ap) [.Name f q1, .Name g q2] [] pos) none pos'.line (ksEnv q (scope2 f g) L fI (.ref cda) cc) = pure false)
    (hsw3 : ∀ (L cda cc : Addr), swapsWith (.Name g b3) (some (.Attribute (.Name "self" b1) g b2)) b4.line (ksEnv q (scope2 f g) L fI (.ref cda) cc) = pure false)
    (hsw2 : ∀ (L cda cc : Addr), swapsWith (.Name f a3) (some (.Attribute (.Name "self" a1) f a2)) a4.line (ksEnv q (scope2 f g) L fI (.ref cda) cc) = pure false)
    {s : Shared} {mb : Str → Option Value} {x t0 : Addr} {v v2 : Value} (X : K.In s.heap) (hlim : s.heap.NoLimit) (hg : s.heap.Ns mainGlobals mg) (hb : s.heap.Ns builtinsNs mb) (hbb : ∀ y : Str, y ≠ "__name__" → mb y = bootBuiltins y)
    (hx : s.heap.get? x = some (excO C t0)) (hnx : K.lookup x = none) (hroom : A.depth < recursionLimit)
    (hq : ∀ h' tk dx, End s.heap h' x C dx (fun y => if y = g then some v2 else if y = f then some v else none) → R (.ok (.ret .none)) { s with heap := h', toks := tk }) :
    codeAny (model prog w) A (.call (.ref fI) ⟨[.ref x, v, v2], []⟩) R s := by
  obtain ⟨oc, od, doc, pm, an, cda, ct, osl, cc, ccl, cl, cdd, cld, vs, ccs, csl, file, tf, ho, hcd, hcode, hvs, hfile, hcell⟩ := N.ex
  obtain ⟨nm, qn, NN, bs, bm, sn, sub, ab, col, dd, k0, k1, k2, k3, k5, hC, hbm⟩ := T.cls
  have hcl : clsIn K C = some { name := nm, bases := bs, mro := .ref C :: bm, ns := NN, qualname := qn, hasDict := true, slotNames := sn, subclasses := sub, abstract := ab, collection := col, hasDel := false } := by
    unfold clsIn
    rw [hC] <;> rfl
  have ls : (scope2 f g).names.lookup ("self" : Str) = some .local := by simp [scope2, List.lookup]
  have mself : ([((g : Str), v2), ((f : Str), v), (("self" : Str), Value.ref x)] : List (Str × Value)).lookup ("self" : Str) = some (.ref x) := by simp [List.lookup, hne, hne2]
  have mf : ([((g : Str), v2), ((f : Str), v), (("self" : Str), Value.ref x)] : List (Str × Value)).lookup f = some v := by simp [List.lookup, hfg]
  have mg2 : ([((g : Str), v2), ((f : Str), v), (("self" : Str), Value.ref x)] : List (Str × Value)).lookup g = some v2 := by simp [List.lookup]
  refine ks_codeAny_call_defAt (binds := [("self", .ref x), (f, v), (g, v2)]) hroom (X _ _ ho) rfl hlim (codeRec_of X hcd) rfl (BindsTo.of_eq (hbd ..)) (fun y hy => ?_) (fun y hy => ?_) (fun h1 hn k => ?_) rfl rfl rfl
  · simp [scope2] at hy; rcases hy with rfl | rfl | rfl | rfl | rfl <;> simp
  · simp at hy; rcases hy with rfl | rfl | rfl
    · exact ls
    · exact lf
    · exact lg
  have X1 := X.keeps k
  have hx1 := k _ _ hx
  have hxL : x ≠ s.heap.objs.size := Nat.ne_of_lt (Heap.lt_size hx)
  show _root_.PySem.wpAt (model prog w) (A.deeper (ksEnv q (scope2 f g) s.heap.objs.size fI (.ref cda) cc)) (.func (body2 f g p0 p1 ap q1 q2 pos pos' a1 a2 a3 a4 b1 b2 b3 b4) (ksEnv q (scope2 f g) s.heap.objs.size fI (.ref cda) cc)) (execs (body2 f g p0 p1 ap q1 q2 pos pos' a1 a2 a3 a4 b1 b2 b3 b4) (ksEnv q (scope2 f g) s.heap.objs.size fI (.ref cda) cc)) _ _ _
  obtain ⟨pl, hev'⟩ := hev s.heap.objs.size cda cc
  refine ks_wpAt_execs_cons (super_stmt T ho hcode hvs hfile hcell (a0 := { arg := "self", annotation := none, pos := u1 }) rfl rfl (us := [v, v2]) X1 (hg.keeps k) (hb.keeps k) hbb hn mself hx1 hnx lk lc ls rfl (by rw [sizeLine_eq]; exact (by decide : 2 ≤ 16777216)) (fun s1 Q1 hn1 hq1 => ?_) rfl rfl hxL (fun h2 t1 tk k2 e2 hn2 sz2 => ?_) (pl := pl) hev' (hsw1 ..))
  · show wpAny _ _ (spliced ((false, eval (.Name f q1) _) :: (false, eval (.Name g q2) _) :: [])) _ _ _
    exact Calls.spliced_cons (ESX.ldL (env := ksEnv q (scope2 f g) s.heap.objs.size fI (.ref cda) cc) hn1 mf (Calls.spliced_cons (ESX.ldL (env := ksEnv q (scope2 f g) s.heap.objs.size fI (.ref cda) cc) hn1 mg2 (Calls.spliced_nil hq1) rfl lg hgd)) rfl lf hd)
  have X2 : K.In h2 := fun b o e => k2 b o (fun z => by rw [z] at e; rw [hnx] at e; cases e) (X1 b o e)
  refine ks_wpAt_execs_cons (ks_wpAt_Assign_Attr ?_ (hsw2 ..))
  refine wpAt_of_wpAny (ESX.ldL (env := ksEnv q (scope2 f g) s.heap.objs.size fI (.ref cda) cc) hn2 mf ?_ rfl lf hd)
  refine ESX.ldL (env := ksEnv q (scope2 f g) s.heap.objs.size fI (.ref cda) cc) hn2 mself ?_ rfl ls (by decide)
  refine set_plain X2 (ox := excO C t1) (od := none) (ex_ref e2) T.sa ?_
  refine exc_osa X2 e2 hcl (show refsVE (.ref C :: bm) = true from hbm) rfl (T.no f hf) (fun h3 tk3 dx k3 dn dne hx3 hn3 => ?_)
  have X3 : K.In h3 := fun b o e => k3 b o (fun z => by rw [z] at e; rw [hnx] at e; cases e) (X2 b o e)
  have hn3' : h3.Ns s.heap.objs.size (fun y => ([((g : Str), v2), ((f : Str), v), (("self" : Str), Value.ref x)] : List (Str × Value)).lookup y) := by
    obtain ⟨oL, es', ep, hL, r⟩ := hn2
    exact ⟨oL, es', ep, k3 _ _ (Ne.symm hxL) hL, r⟩
  refine ks_wpAt_execs_cons (ks_wpAt_Assign_Attr ?_ (hsw3 ..))
  refine wpAt_of_wpAny (ESX.ldL (env := ksEnv q (scope2 f g) s.heap.objs.size fI (.ref cda) cc) hn3' mg2 ?_ rfl lg hgd)
  refine ESX.ldL (env := ksEnv q (scope2 f g) s.heap.objs.size fI (.ref cda) cc) hn3' mself ?_ rfl ls (by decide)
  obtain ⟨od1, es1, ep1, hod1, _⟩ := id hn3
  refine set_plain X3 (ox := { cls := .ref C, dict := some dx, data := .fields #[.ref t1, .none, .none, .none, .bool false, .none] }) (od := some od1) ⟨hx3, rfl, rfl, hod1⟩ T.sa ?_
  refine PySem.OEX.osa_old X3 hx3 hn3 (nl := [f]) (fun y hy => ?_) (by show 1 ≤ 1000; decide) hcl (show refsVE (.ref C :: bm) = true from hbm) rfl (T.no g hg1) (fun h4 tk4 k4 hn4 => ?_)
  · by_cases e : y = f
    · subst e; exact List.mem_singleton_self _
    · rw [if_neg e] at hy; exact absurd rfl hy
  refine wpAt_of_wpAny (wpAny_execs_nil ?_)
  have z : s.heap.objs.size < h1.objs.size := hn.lt
  have sz2' : h1.objs.size ≤ h2.objs.size := sz2
  have dn2 : h2.objs.size ≤ dx := dn
  have dn' : s.heap.objs.size ≤ dx := by omega
  refine hq h4 tk4 dx ⟨fun b o nb e => k4 b o (fun eb => ?_) (k3 b o nb (k2 b o nb (k b o e))), ⟨t1, k4 _ _ (Ne.symm dne) hx3⟩, dn', dne, hn4⟩
  subst eb
  exact absurd (Heap.lt_size e) (Nat.not_lt_of_le dn')
end
end DLX

set_option Elab.async false
set_option linter.all false
set_option maxRecDepth 100000
set_option maxHeartbeats 4000000
namespace DLX
open PySem PySem.W PySem.Calls PyProof.Rows PySem.HandSPX
/-- __init__ of such a class does its work -/
def InitOk (prog : Program) (w : World) (K : Frag) (mg : Str → Option Value) (C fI : Addr) (n : Nat) (mA : List Value → Str → Option Value) : Prop :=
  ∀ (A : Around) (R : Result → Shared → Prop) (s : Shared) (mb : Str → Option Value) (x t0 : Addr) (us : List Value), us.length = n → K.In s.heap → s.heap.NoLimit → s.heap.Ns mainGlobals mg → s.heap.Ns builtinsNs mb → (∀ y : Str, y ≠ "__name__" → mb y = bootBuiltins y) →
    s.heap.get? x = some (excO C t0) → K.lookup x = none → A.depth < recursionLimit → (∀ h' tk dx, End s.heap h' x C dx (mA us) → R (.ok (.ret .none)) { s with heap := h', toks := tk }) → codeAny (model prog w) A (.call (.ref fI) ⟨.ref x :: us, []⟩) R s
/-- a made exception of the class -/
structure Made (h h' : Heap) (e C d : Addr) (mA : Str → Option Value) : Prop where
  keep : ∀ b o, h.get? b = some o → h'.get? b = some o
  new : h.objs.size ≤ e
  obj : ∃ oe vs, h'.get? e = some oe ∧ oe.cls = .ref C ∧ oe.dict = some d ∧ oe.data = .fields vs ∧ vs[1]? = some .none
  dbig : h.objs.size ≤ d
  dne : d ≠ e
  ns : h'.Ns1 d mA
section
variable {prog : Program} {w : World} {A : Around} {E : Value → Shared → Prop} {R : Result → Shared → Prop} {K : Frag} {mg : Str → Option Value} {c : Str} {C fI : Addr} {fs : List Str} {n : Nat} {mA : List Value → Str → Option Value}
theorem held_made (T : Cl prog K mg c C fI fs) (In : InitOk prog w K mg C fI n mA) {s : Shared} {mb : Str → Option Value} {us : List Value} (hn : us.length = n) (hz : us.length ≤ sizeLine) (X : K.In s.heap) (hlim : s.heap.NoLimit) (hg : s.heap.Ns mainGlobals mg) (hb : s.heap.Ns builtinsNs mb) (hbb : ∀ y : Str, y ≠ "__name__" → mb y = bootBuiltins y) (hroom : A.depth + 1 < recursionLimit)
    (hq : ∀ h' tk e d, Made s.heap h' e C d (mA us) → R (.ok (.ret (.ref e))) { s with heap := h', toks := tk }) : codeAny (model prog w) A (.call (.ref C) ⟨us, []⟩) R s := by
  obtain ⟨nm, q, N, bs, bm, sn, sub, ab, col, dd, k0, k1, k2, k3, k5, hC, hbm⟩ := T.cls
  obtain ⟨hp, g, dr, tk, os⟩ := s
  have k : ∀ b o, hp.get? b = some o → ((hp.push (kdv_tup us)).push (excO C hp.objs.size)).get? b = some o := fun b o e => Heap.get?_push_of_some _ (Heap.get?_push_of_some _ e)
  have hget : ((hp.push (kdv_tup us)).push (excO C hp.objs.size)).get? (hp.objs.size + 1) = some (excO C hp.objs.size) := by heap_get
  have hnx : K.lookup (hp.objs.size + 1) = none := by
    cases e : K.lookup (hp.objs.size + 1) with
    | none => rfl
    | some o =>
      have z := Heap.lt_size (show hp.get? (hp.objs.size + 1) = some o from X _ _ e)
      exact absurd (Nat.lt_of_succ_lt z) (Nat.lt_irrefl _)
  refine call_own F.excBase_ValueError (fun X => refsVE_contains X bm hbm) (X _ _ hC) (looks_findIn X T.iC) (fun self => bind_fn X self T.tC) hz ?_
  refine In _ _ ⟨(hp.push (kdv_tup us)).push (excO C hp.objs.size), g, dr, tk, os⟩ mb _ _ us hn (X.keeps k) (hlim.keeps k) (hg.keeps k) (hb.keeps k) hbb hget hnx hroom fun h' tk' dx ⟨k', ⟨t, hx⟩, dn, dne, hns⟩ => ?_
  have old : ∀ b o, hp.get? b = some o → h'.get? b = some o := fun b o e => k' b o (Nat.ne_of_lt (Nat.lt_succ_of_lt (Heap.lt_size e))) (k b o e)
  have z : hp.objs.size + 1 + 1 ≤ dx := by
    have q := dn
    rw [Heap.size_push, Heap.size_push] at q
    exact q
  exact ⟨rfl, hq h' tk' (hp.objs.size + 1) dx ⟨old, Nat.le_succ _, ⟨_, _, hx, rfl, rfl, rfl, rfl⟩, Nat.le_trans (Nat.le_trans (Nat.le_succ _) (Nat.le_succ _)) z, dne, hns⟩⟩
end
end DLX
namespace DL
open PySem L2 PySem.W
section
variable {X : Cx} {c : Str} {C fI : Addr} {fs : List Str} {mA : List Value → Str → Option Value}
/-- C(e, ..), an exception of ours with the fields fs -/
def tMkH (C : Addr) (fs : List Str) (ta : TA) : St → Hp → XK → Prop := fun σ H Q => ta σ H fun vs H1 => vs.length = fs.length ∧ ∀ d, H1 d = none → Q (.ref C) (some d) (upd H1 d (.xd (fs.zip vs)))
theorem pmk_held {e : Expr} {es : List Expr} {ta : TA} {p pos : Pos} (T : DLX.Cl X.prog X.K X.mg c C fI fs) (In : DLX.InitOk X.prog X.w X.K X.mg C fI fs.length mA) (hrel : ∀ (vs : List V) (us : List Value), vs.length = fs.length → Vals vs us → ∀ f, RelO ((fs.zip vs).lookup f) (mA us f)) (hfs : fs.length ≤ 10)
    (hr : X.A.depth + 2 < recursionLimit) (ha : PA X (e :: es) ta) (hg : Gl X c) (hdb : (c == ("__debug__" : Str)) = false := by decide)
    (he : starEach (e :: es) X.env = (false, eval e X.env) :: starEach es X.env := by rfl) (hpl : (backTo pos (starEach es X.env)).any (·.1) = false := by rfl) : PMk X (.Call (.Name c p) (e :: es) [] pos) (tMkH C fs ta) := by
  intro pins s σ H Q I h
  refine wpAny_Call_Name_kw (ld_glob I hg T.gC ?_ hdb)
  refine PySem.W.callWith_K (h₀ := X.base) I.ok.mod.kin T.kC (thn (ha.run pos pins s σ H _ I h) fun us s1 ⟨vs, H1, I1, r1, hl, q1⟩ => ⟨I1.kIn, ?_⟩) he hpl
  have hlim := I1.nolimit
  have M1 := I1.mod
  obtain ⟨mb, hb1, hb2⟩ := M1.blt
  have kp : ∀ b o, X.base.get? b = some o → s1.heap.get? b = some o := I1.bk
  have hgN := M1.glob.keeps kp
  have hbN := hb1.keeps kp
  obtain ⟨hp, g, dr, tk, os⟩ := s1
  have hul : us.length = fs.length := r1.length.symm.trans hl
  refine wpAny_call (DLX.held_made T In hul (by show us.length ≤ sizeLine; rw [hul, sizeLine_eq]; omega) I1.kIn hlim hgN hbN hb2 (by omega) fun h' tk' e d Md => ?_)
  show MkP X pins σ Q (.ref e) ⟨h', g, dr, tk', os⟩
  obtain ⟨oe, fv, hoe, hc, hd, hdat, h1⟩ := Md.obj
  have hns := Md.ns
  obtain ⟨G', g1, g2⟩ := restrict h' fun b => decide (b ≠ e)
  have gk : ∀ b, b ≠ e → G'.get? b = h'.get? b := fun b hb => g1 b (decide_eq_true hb)
  have ge : G'.get? e = none := g2 e (by simp)
  have old : ∀ b o, hp.get? b = some o → G'.get? b = some o := fun b o q => (gk b (Nat.ne_of_lt (Nat.lt_of_lt_of_le (Heap.lt_size q) Md.new))).trans (Md.keep b o q)
  have ob : ObjOk X.prog X.w (upd H1 d (.xd (fs.zip vs))) G' d (.xd (fs.zip vs)) := ⟨_, hns.at (fun o q => (gk d Md.dne).trans q), fun f => hrel vs us hl r1 f⟩
  have J : Inv X pins σ (upd H1 d (.xd (fs.zip vs))) ⟨G', g, dr, tk', os⟩ := I1.laid (t' := tk') old Md.dbig ob
  refine ⟨e, oe, fv, ⟨G', g, dr, tk', os⟩, _, .ref C, some d, rfl, J, fun b o q => ?_, ge, hoe, ⟨hc, hd⟩, hdat, h1, ?_, rfl, I1.bare, raises_own T.exC T.tyC, q1 d (I1.hok.fresh Md.dbig)⟩
  · by_cases hb : b = e
    · have q' : G'.get? b = some o := q
      rw [hb, ge] at q'; cases q'
    · exact (gk b hb).symm.trans q
  · rw [upd_ne (Ne.symm Md.dne)]
    exact I1.hok.fresh Md.new
/-- raise C(e, ..) -/
def sraise (c : Str) (fs : List Str) (f : List Sl → RE (List D)) : List Sl → RS := fun r => (f r).s fun ds r1 => if ds.length = fs.length then .exn ⟨c, fs, ds⟩ r1 else .bad
variable {J : Jx}
theorem s_raise {e : Expr} {es : List Expr} {f : List Sl → RE (List D)} {p pos pos2 : Pos} (hmg : X.mg = J.G.mg) (hc : X.calm = true) (tk : Takes X J.W) (T : DLX.Cl X.prog X.K X.mg c C fI fs) (In : DLX.InitOk X.prog X.w X.K X.mg C fI fs.length mA)
    (hrel : ∀ (vs : List V) (us : List Value), vs.length = fs.length → Vals vs us → ∀ f, RelO ((fs.zip vs).lookup f) (mA us f)) (hfs : fs.length ≤ 10) (hr : X.A.depth + 2 < recursionLimit) (ha : PA X (e :: es) (tA J f)) (hg : Gl X c) (hdb : (c == ("__debug__" : Str)) = false := by decide)
    (he : starEach (e :: es) X.env = (false, eval e X.env) :: starEach es X.env := by rfl) (hpl : (backTo pos (starEach es X.env)).any (·.1) = false := by rfl) : PS X (.Raise (some (.Call (.Name c p) (e :: es) [] pos)) none pos2) (tS J (sraise c fs f)) :=
  PSi (ps_raise hc tk (pmk_held T In hrel hfs hr ha hg hdb he hpl)) fun E σ H ⟨M, r, I, h⟩ => ⟨M, r, I, Out.s h fun ds r1 vs M1 H1 st1 I1 rd1 h1 => by
    split at h1
    · rename_i hl
      refine ⟨by rw [← rd1.length]; exact hl, fun d hd => ?_⟩
      have ex := ext_new (H := H1) (o := .xd (fs.zip vs)) hd
      refine h1 (.ref C) (some d) M1 σ _ (Step.ext ex) (I1.ext ex) ⟨C, by rw [← hmg]; exact T.gC, rfl, vs, by rw [← rd1.length]; exact hl.symm, RepL.step (Step.ext ex) I1.md _ _ rd1, .inr ⟨d, rfl, upd_same⟩⟩
    · exact h1.elim⟩
end
end DL

set_option Elab.async false
set_option linter.all false
set_option maxRecDepth 100000
set_option maxHeartbeats 4000000
namespace DL
open PySem L2
open PyProof.Rows

/-- a def's promise, called where no guard is up (repr of an object asks it) -/
structure FnG (P : Program) (w : World) (K : PySem.W.Frag) (mg : Str → Option Value) (base : Heap) (k : Nat) (f : Addr) (fd : FuncData) (ps : List Str) (sp : Sp) : Prop where
  len : ∀ vs H Q E, sp vs H Q E → vs.length = ps.length
  run : ∀ (A : Around) (outer : List Env) (s : Shared) (H : Hp) (args : Args) (us : List Value) (vs : List V) (Q : VK) (E : XK), Room k A → A.guards = some [] → Env0 P w K mg base A outer s H → BindsTo s fd args (ps.zip us) →
    Vals vs us → sp vs H Q E → codeAny (model P w) A (.call (.ref f) args) (CR (L2.CX P w) outer P w H s Q E) s
section
variable {P : Program} {w : World} {K : PySem.W.Frag} {mg : Str → Option Value} {base : Heap}
theorem fnG_of {k : Nat} {f : Addr} {x qual : Str} {st : Stmt} {fd : FuncData} {N ps : List Str} {sp : Sp} (F : Fun K x qual st f fd) (S : FnScope N ps (defScope st)) (len : ∀ vs H Q E, sp vs H Q E → vs.length = ps.length)
    (hbody : ∀ (cdv : Value) (A : Around) (outer : List Env) (s : Shared) (H : Hp) (vs : List V) (Q : VK) (E : XK), Room k (A.deeper (envOfC qual (defScope st) s.heap.objs.size f cdv)) → A.guards = some [] → sp vs H Q E →
      ∃ t, PSs (cxOf (L2.CX P w) P w K mg base N qual (defScope st) f cdv A outer s H E) (defBody st) t ∧ t { nx := fun _ H' => Q .non H', rt := Q } (L2.start N vs) H) : FnG P w K mg base (k + 1) f fd ps sp := by
  obtain ⟨oc, od, kV, doc, pm, an, cdv, ct, osl, rfl, lk, hcd⟩ := F.ex
  constructor
  · exact len
  intro A outer s H args us vs Q E hr hgd e0 hb r hsp
  have kp : ∀ b o, base.get? b = some o → s.heap.get? b = some o := fun b o e => (e0.bs b o e).1
  have KX : K.In s.heap := e0.mod.kin.keeps kp
  have hkind : ∀ y ∈ ps.zip us, (defScope st).names.lookup y.1 = some .local ∨ ((defScope st).names.lookup y.1 = some .cell ∧
      ((cellsFrom (s.heap.objs.size + 1) (defScope st).names []).lookup y.1).isSome = true) := by
    rintro ⟨n, v⟩ hy
    exact (S.par n (List.of_mem_zip hy).1).elim .inl fun q => .inr ⟨q, PySem.W.cellsFrom_some _ _ _ (.inl q)⟩
  refine codeAny_call_function hr.depth (KX _ _ lk) rfl S.co S.gen rfl (PySem.W.codeRec_of KX hcd) (hb _ _ _ _ (wpAny_newFunctionEnv_cells S.kind hkind fun env he s1 y => ?_))
  subst he
  obtain ⟨t, ht, hq⟩ := hbody cdv A outer s H vs Q E (hr.deeper _) hgd hsp
  have I := inv_start (CX := L2.CX P w) (E := E) S hr.hd e0 (len _ _ _ _ hsp) r y
  refine ⟨(e0.mod.nolimit.keeps kp).keeps y.toInCall.keep, codeAny_func (wpAny_mono (ht.run [] s1 (L2.start N vs) H _ I hq) (fun fl s' hs => ?_) fun e s' hs => hs)⟩
  match fl, hs with
  | .ret u, ⟨v, σ', H', J, rv, q⟩ => exact ⟨v, H', J.os, J.bare, J.base, J.hok, rv, q⟩
  | .next, ⟨σ', H', J, q⟩ => exact ⟨.non, H', J.os, J.bare, J.base, J.hok, rfl, q⟩
  | .brk, ⟨_, _, _, q⟩ => exact q.elim
  | .cont, ⟨_, _, _, q⟩ => exact q.elim
theorem FnG.mono {j k : Nat} {f : Addr} {fd : FuncData} {ps : List Str} {sp : Sp} (F : FnG P w K mg base j f fd ps sp) (h : j ≤ k) : FnG P w K mg base k f fd ps sp :=
  ⟨F.len, fun A outer s H args us vs Q E hr => F.run A outer s H args us vs Q E (hr.mono h)⟩
end
section
variable {X : Cx} {k : Nat} {f C : Addr} {fd : FuncData} {ps : List Str} {sp : Sp} {W : WX} {x m : Str} {p pos apos : Pos} {e o : Expr} {es : List Expr} {ta : TE} {t : TA} {ds : List Value} {dvs : List V}
/-- the callee runs; what it lets out is wished for at the slots -/
theorem run_fnG {pins : List (Addr × Obj)} {σ : L2.St} {H : Hp} {s : Shared} {Q : VK} {us : List Value} {vs : List V} (F : FnG X.prog X.w X.K X.mg X.base k f fd ps sp) (hr : Room k X.A) (hgd : X.A.guards = some []) (hb : Binds X.K fd ps ds) (hd : Vals dvs ds) (tk : Takes X W)
    (I : L2.Inv X pins σ H s) (r : Vals vs us) (h : sp (vs ++ dvs) H Q (WE W σ)) : wpAny (model X.prog X.w) X.A (PySem.call (.ref f) us) (EP X pins σ Q) X.xe s := by
  have r2 := r.append hd
  have hl : (us ++ ds).length = ps.length := r2.length.symm.trans (F.len _ _ _ _ h)
  refine wpAny_call (codeAny_mono (F.run X.A X.stack s H _ _ _ Q _ hr hgd I.env0 (hb s us I.kIn hl) r2 h) fun q s' hq => ?_)
  match q, hq with
  | .error e, hq => exact passAt tk σ pins H s e s' I hq
  | .ok (.ret u), hq => exact I.after hq
  | .ok .next, hq => exact hq.elim
  | .ok .brk, hq => exact hq.elim
  | .ok .cont, hq => exact hq.elim
def tCallG (sp : Sp) (dvs : List V) (W : WX) (t : TA) : TE := fun σ H Q => t σ H fun vs H1 => sp (vs ++ dvs) H1 Q (WE W σ)
theorem pe_callG (F : FnG X.prog X.w X.K X.mg X.base k f fd ps sp) (hr : Room k X.A) (hgd : X.A.guards = some []) (hg : Gl X x) (hm : X.mg x = some (.ref f)) (hk : PySem.W.keepIn X.K (.ref f) = true) (hb : Binds X.K fd ps ds) (hd : Vals dvs ds) (tk : Takes X W)
    (ha : PA X (e :: es) t) (hdb : (x == ("__debug__" : Str)) = false := by decide) (he : starEach (e :: es) X.env = (false, eval e X.env) :: starEach es X.env := by rfl) (hpl : (backTo pos (starEach es X.env)).any (·.1) = false := by rfl) :
    PE X (.Call (.Name x p) (e :: es) [] pos) (tCallG sp dvs W t) :=
  ⟨fun pins s σ H Q I h => wpAny_Call_Name_kw (ld_glob I hg hm (PySem.W.callWith_K (h₀ := X.base) I.ok.mod.kin hk
    (thn (ha.run pos pins s σ H _ I h) fun us s1 ⟨vs, H1, I1, r, q⟩ => ⟨I1.kIn, run_fnG F hr hgd hb hd tk I1 r q⟩) he hpl) hdb)⟩
theorem pe_call0G (F : FnG X.prog X.w X.K X.mg X.base k f fd ps sp) (hr : Room k X.A) (hgd : X.A.guards = some []) (hg : Gl X x) (hm : X.mg x = some (.ref f)) (hk : PySem.W.keepIn X.K (.ref f) = true) (hb : Binds X.K fd ps ds) (hd : Vals dvs ds) (tk : Takes X W) (hdb : (x == ("__debug__" : Str)) = false := by decide) :
    PE X (.Call (.Name x p) [] [] pos) (tCallG sp dvs W tNil) :=
  ⟨fun pins s σ H Q I h => wpAny_Call_Name_kw (ld_glob I hg hm (PySem.W.callWith_K0 I.kIn hk (run_fnG (us := []) (vs := []) F hr hgd hb hd tk I .nil h)) hdb)⟩
/-- o.m(e, ..) -/
def tMethG (C : Addr) (m : Str) (sp : Sp) (dvs : List V) (W : WX) (ta : TE) (t : TA) : TE := fun σ H Q => ta σ H fun x H1 => ∃ a dx fs, x = .ref a ∧ H1 a = some (.ins C dx fs) ∧ fs.lookup m = none ∧ t σ H1 fun vs H2 => sp (x :: (vs ++ dvs)) H2 Q (WE W σ)
theorem pe_methG {pl : Sem Bool} (he : PE X o ta) (c : Cls X.K C) (hm : Meth X.K C m f) (F : FnG X.prog X.w X.K X.mg X.base k f fd ps sp) (hr : Room k X.A) (hgd : X.A.guards = some []) (hb : Binds X.K fd ps ds) (hd : Vals dvs ds) (tk : Takes X W) (ha : PA X (e :: es) t)
    (hst : starEach (e :: es) X.env = (false, eval e X.env) :: starEach es X.env := by rfl) (hpl : (backTo pos (starEach es X.env)).any (·.1) = false := by rfl)
    (ht : eval (.Call (.Attribute o m apos) (e :: es) [] pos) X.env = (do let ov ← eval o X.env; standAt apos.atName; let (f, first) ← holding [ov] (getMethod ov m pl); callWith pos f first (backTo pos (starEach (e :: es) X.env)) (backToKw pos (keywordEach [] X.env))) := by rfl) :
    PE X (.Call (.Attribute o m apos) (e :: es) [] pos) (tMethG C m sp dvs W ta t) := by
  constructor
  intro pins s σ H Q I h
  refine PySem.W.methodCall_KW (pl := pl) (thn (he.run pins s σ H _ I h) fun u s1 hh => ?_) ht
  obtain ⟨x, H1, I1, rx, a, dx, fs, ex, ea, l, q⟩ := hh
  subst ex
  obtain rfl : u = Value.ref a := rx
  exact getmeth_ok I1 ea c hm l (PySem.W.callWith_K (first := [.ref a]) (h₀ := X.base) I.ok.mod.kin hm.kp (thn (ha.run pos pins s1 σ H1 _ I1 q) fun us s2 ⟨vs, H2, I2, r, q2⟩ =>
    ⟨I2.kIn, run_fnG (us := .ref a :: us) (vs := .ref a :: vs) F hr hgd hb hd tk I2 (.cons rfl r) q2⟩) hst hpl)
theorem pe_meth0G {pl : Sem Bool} (he : PE X o ta) (c : Cls X.K C) (hm : Meth X.K C m f) (F : FnG X.prog X.w X.K X.mg X.base k f fd ps sp) (hr : Room k X.A) (hgd : X.A.guards = some []) (hb : Binds X.K fd ps ds) (hd : Vals dvs ds) (tk : Takes X W)
    (ht : eval (.Call (.Attribute o m apos) [] [] pos) X.env = (do let ov ← eval o X.env; standAt apos.atName; let (f, first) ← holding [ov] (getMethod ov m pl); callWith pos f first (backTo pos (starEach [] X.env)) (backToKw pos (keywordEach [] X.env))) := by rfl) :
    PE X (.Call (.Attribute o m apos) [] [] pos) (tMethG C m sp dvs W ta tNil) := by
  constructor
  intro pins s σ H Q I h
  refine PySem.W.methodCall_KW (pl := pl) (thn (he.run pins s σ H _ I h) fun u s1 hh => ?_) ht
  obtain ⟨x, H1, I1, rx, a, dx, fs, ex, ea, l, q⟩ := hh
  subst ex
  obtain rfl : u = Value.ref a := rx
  exact getmeth_ok I1 ea c hm l (PySem.W.callWith_K0 (first := [.ref a]) I1.kIn hm.kp (run_fnG (us := [.ref a]) (vs := [.ref a]) F hr hgd hb hd tk I1 (.cons rfl .nil) q))
/-- C(e, ..): a new instance, then __init__ -/
def tMakeG (C : Addr) (sp : Sp) (dvs : List V) (W : WX) (t : TA) : TE := fun σ H Q => t σ H fun vs H1 => ∀ x dx, H1 x = none → H1 dx = none → dx ≠ x → sp (.ref x :: (vs ++ dvs)) (upd (upd H1 dx (.own x)) x (.ins C dx [])) (fun v H2 => v = .non ∧ Q (.ref x) H2) (WE W σ)
theorem run_makeG {pins : List (Addr × Obj)} {σ : L2.St} {H : Hp} {s : Shared} {Q : VK} {us : List Value} {vs : List V} (M : Mk X.K C f) (F : FnG X.prog X.w X.K X.mg X.base k f fd ps sp) (hr : Room (k + 1) X.A) (hgd : X.A.guards = some []) (hb : Binds X.K fd ps ds) (hd : Vals dvs ds) (tk : Takes X W) (I : L2.Inv X pins σ H s) (r : Vals vs us)
    (h : ∀ x dx, H x = none → H dx = none → dx ≠ x → sp (.ref x :: (vs ++ dvs)) (upd (upd H dx (.own x)) x (.ins C dx [])) (fun v H2 => v = .non ∧ Q (.ref x) H2) (WE W σ)) : wpAny (model X.prog X.w) X.A (PySem.call (.ref C) us) (EP X pins σ Q) X.xe s := by
  have hq := h (s.heap.objs.size + 1) s.heap.objs.size (I.hok.fresh (Nat.le_succ _)) (I.hok.fresh (Nat.le_refl _)) (Nat.ne_of_lt (Nat.lt_succ_self _))
  have I2 := Inv.made (C := C) I
  have r2 : Vals (V.ref (s.heap.objs.size + 1) :: (vs ++ dvs)) (Value.ref (s.heap.objs.size + 1) :: (us ++ ds)) := .cons rfl (r.append hd)
  have hl : (Value.ref (s.heap.objs.size + 1) :: us ++ ds).length = ps.length := r2.length.symm.trans (F.len _ _ _ _ hq)
  have hg2 : (X.A.under (.builtin "type.__call__" ⟨.ref C :: us, []⟩)).guards = some [] := by unfold Around.under; simp only [hgd]; rfl
  have run := F.run (X.A.under (.builtin "type.__call__" ⟨.ref C :: us, []⟩)) X.stack _ _ ⟨Value.ref (s.heap.objs.size + 1) :: us, []⟩ _ _ _ _ (hr.make C us []) hg2 (I2.env0.make C us []) (hb _ (Value.ref (s.heap.objs.size + 1) :: us) I2.kIn hl) r2 hq
  refine wpAny_call (make_map (f := f) I.kIn M.makes M.init (beq_iff_eq.mp M.fn) (codeAny_mono run fun q s' hq' => ?_))
  match q, hq' with
  | .error e, hq' => exact passAt tk σ pins _ _ e s' I2 hq'
  | .ok (.ret u), hq' =>
    obtain ⟨v, H', I3, rv, ev, q3⟩ := I2.after hq'
    subst ev
    exact ⟨rv, ⟨V.ref (s.heap.objs.size + 1), H', I3, rfl, q3⟩⟩
  | .ok .next, hq' => exact hq'.elim
  | .ok .brk, hq' => exact hq'.elim
  | .ok .cont, hq' => exact hq'.elim
theorem pe_makeG (M : Mk X.K C f) (F : FnG X.prog X.w X.K X.mg X.base k f fd ps sp) (hr : Room (k + 1) X.A) (hgd : X.A.guards = some []) (hg : Gl X x) (hm : X.mg x = some (.ref C)) (hb : Binds X.K fd ps ds) (hd : Vals dvs ds) (tk : Takes X W)
    (ha : PA X (e :: es) t) (hdb : (x == ("__debug__" : Str)) = false := by decide) (he : starEach (e :: es) X.env = (false, eval e X.env) :: starEach es X.env := by rfl) (hpl : (backTo pos (starEach es X.env)).any (·.1) = false := by rfl) :
    PE X (.Call (.Name x p) (e :: es) [] pos) (tMakeG C sp dvs W t) :=
  ⟨fun pins s σ H Q I h => wpAny_Call_Name_kw (ld_glob I hg hm (PySem.W.callWith_K (h₀ := X.base) I.ok.mod.kin M.kp
    (thn (ha.run pos pins s σ H _ I h) fun us s1 ⟨vs, H1, I1, r, q⟩ => ⟨I1.kIn, run_makeG M F hr hgd hb hd tk I1 r q⟩) he hpl) hdb)⟩
theorem pe_make0G (M : Mk X.K C f) (F : FnG X.prog X.w X.K X.mg X.base k f fd ps sp) (hr : Room (k + 1) X.A) (hgd : X.A.guards = some []) (hg : Gl X x) (hm : X.mg x = some (.ref C)) (hb : Binds X.K fd ps ds) (hd : Vals dvs ds) (tk : Takes X W) (hdb : (x == ("__debug__" : Str)) = false := by decide) :
    PE X (.Call (.Name x p) [] [] pos) (tMakeG C sp dvs W tNil) :=
  ⟨fun pins s σ H Q I h => wpAny_Call_Name_kw (ld_glob I hg hm (PySem.W.callWith_K0 I.kIn M.kp (run_makeG (us := []) (vs := []) M F hr hgd hb hd tk I .nil h)) hdb)⟩
end
end DL

set_option Elab.async false
set_option linter.all false
set_option maxRecDepth 100000
set_option maxHeartbeats 4000000
namespace DL
open PySem L2
open PyProof.Rows (envOfC)

/-! ### the promise of a def -/
def okF (r : RF) (A : D → D → Prop) (B : Xn → D → Prop) : Prop := match r with
  | .ok d io => A d io
  | .exn x io => B x io
  | .bad => False
theorem okF_ne {r : RF} {A : D → D → Prop} {B : Xn → D → Prop} (h : okF r A B) : r ≠ .bad := fun e => by subst e; exact h
def spP (G : Gm) (F : List D → RF) : Sp := fun vs H Q E => ∃ M ds, MD M H ∧ RepL G M H ds vs ∧
  okF (F ds) (fun d _ => ∀ v H', Extn H H' → Rep G M H' d v → Q v H') (fun x _ => ∀ cls dd H', Extn H H' → RepX G M H' x cls dd → E cls dd H')
/-- .. whose first parameter is changed in place -/
def spI (G : Gm) (F : List D → RF) : Sp := fun vs H Q E => ∃ M a o ws ds, vs = .ref a :: ws ∧ MD M H ∧ M a ∧ OwnAt G M H a o ∧ RepL G M H ds ws ∧
  okF (F (o :: ds)) (fun d io => ∀ v H', (∀ b u, H b = some u → b ≠ a → H' b = some u) → MD M H' → OwnAt G M H' a io → Rep G M H' d v → Q v H')
    (fun x io => ∀ cls dd H', (∀ b u, H b = some u → b ≠ a → H' b = some u) → MD M H' → OwnAt G M H' a io → RepX G M H' x cls dd → E cls dd H')
def runP (n np : Nat) (f : List Sl → RS) : List D → RF := fun ds => if ds.length = np then (match f (ds.map .val ++ List.replicate (n - np) .un) with
  | .nx _ => .ok .non .non
  | .rt d _ => .ok d .non
  | .exn x _ => .exn x .non
  | _ => .bad) else .bad
def ioOf (r : List Sl) (k : D → RF) : RF := match r with
  | .io d :: _ => k d
  | _ => .bad
def runI (n np : Nat) (f : List Sl → RS) : List D → RF := fun ds => if ds.length = np then (match ds with
  | o :: ds => (match f (.io o :: ds.map .val ++ List.replicate (n - np) .un) with
    | .nx r => ioOf r fun io => .ok .non io
    | .rt d r => ioOf r fun io => .ok d io
    | .exn x r => ioOf r fun io => .exn x io
    | _ => .bad)
  | _ => .bad) else .bad
/-! less owned is less wanted -/
section
variable {G : Gm} {M M' : Addr → Prop} {H : Hp}
mutual
theorem Rep.anti (h : ∀ b, M b → M' b) : ∀ (d : D) (v : V), Rep G M' H d v → Rep G M H d v
  | .non, _, q => q
  | .bl _, _, q => q
  | .int _, _, q => q
  | .str _, _, q => q
  | .tup xs, _, ⟨a, vs, e, q, r⟩ => ⟨a, vs, e, q, RepL.anti h xs vs r⟩
  | .lst xs, _, ⟨a, vs, e, n, q, r⟩ => ⟨a, vs, e, fun m => n (h _ m), q, RepL.anti h xs vs r⟩
  | .dct ks ds, _, ⟨a, vs, e, n, q, r⟩ => ⟨a, vs, e, fun m => n (h _ m), q, RepL.anti h ds vs r⟩
  | .ob c ns ds, _, ⟨a, C, dx, vs, e, n, hc, q, l, r⟩ => ⟨a, C, dx, vs, e, fun m => n (h _ m), hc, q, l, RepL.anti h ds vs r⟩
  | .fn c, _, q => q
  | .scr ns, _, ⟨a, e, q⟩ => ⟨a, e, q.elim (fun z => .inl ⟨fun m => z.1 (h _ m), z.2⟩) .inr⟩
theorem RepL.anti (h : ∀ b, M b → M' b) : ∀ (ds : List D) (vs : List V), RepL G M' H ds vs → RepL G M H ds vs
  | [], _, q => q
  | d :: ds, _, ⟨v, ws, e, q, r⟩ => ⟨v, ws, e, Rep.anti h d v q, RepL.anti h ds ws r⟩
end
theorem OwnAt.anti (h : ∀ b, M b → M' b) {a : Addr} : ∀ {d : D}, OwnAt G M' H a d → OwnAt G M H a d
  | .lst xs, ⟨vs, q, r⟩ => ⟨vs, q, RepL.anti h xs vs r⟩
  | .dct ks ds, ⟨vs, q, r⟩ => ⟨vs, q, RepL.anti h ds vs r⟩
  | .ob c ns ds, ⟨C, dx, vs, hc, q, l, r⟩ => ⟨C, dx, vs, hc, q, l, RepL.anti h ds vs r⟩
theorem RepX.anti (h : ∀ b, M b → M' b) {x : Xn} {cls : Value} {dd : Option Addr} (q : RepX G M' H x cls dd) : RepX G M H x cls dd := by
  obtain ⟨C, h1, h2, vs, h3, h4, h5⟩ := q
  exact ⟨C, h1, h2, vs, h3, RepL.anti h _ _ h4, h5⟩
theorem MD.anti (h : ∀ b, M b → M' b) (md : MD M' H) : MD M H := fun b m => md b (h b m)
end

/-- the context of a def's body -/
abbrev cxB (P : Program) (w : World) (K : PySem.W.Frag) (mg : Str → Option Value) (base : Heap) (N : List Str) (qual : Str) (st : Stmt) (f : Addr) (cdv : Value) (A : Around) (outer : List Env) (s : Shared) (H : Hp) (E : XK) : Cx :=
  cxOf (L2.CX P w) P w K mg base N qual (defScope st) f cdv A outer s H E
/-- what a body's derivation is given -/
structure BX (X : Cx) (J : Jx) (P : Program) (w : World) (base : Heap) (k : Nat) : Prop where
  prog : X.prog = P
  w : X.w = w
  base : X.base = base
  K : X.K = J.G.K
  mg : X.mg = J.G.mg
  tk : Takes X J.W
  po : PassesOwn (model X.prog X.w) X.A X.env X.xe
  room : Room k X.A
  calm : X.calm = true
  nd : X.N.Nodup
  stk : X.stack = X.env :: X.outer
  fr : X.env.frame = some X.env.locals
  gd : X.A.guards = some []
theorem BX.hu {X : Cx} {J : Jx} {P : Program} {w : World} {base : Heap} {k : Nat} (B : BX X J P w base k) : X.A.units + 64 < cLine := by have := B.room.un; omega
theorem BX.dp {X : Cx} {J : Jx} {P : Program} {w : World} {base : Heap} {k : Nat} (B : BX X J P w base k) : X.A.depth + 2 < recursionLimit := by have := B.room.dp; omega
/-- the body of the def st, read as fb -/
def BodyOk (P : Program) (w : World) (K : PySem.W.Frag) (mg : Str → Option Value) (base : Heap) (N : List Str) (qual : Str) (st : Stmt) (f : Addr) (k : Nat) (fb : List Sl → RS) : Prop :=
  ∀ (cdv : Value) (A : Around) (outer : List Env) (s : Shared) (H : Hp) (E : XK) (J : Jx), J.G = ⟨K, mg⟩ → J.hx = none → BX (cxB P w K mg base N qual st f cdv A outer s H E) J P w base k → PSs (cxB P w K mg base N qual st f cdv A outer s H E) (defBody st) (tS J fb)
section
variable {P : Program} {w : World} {K : PySem.W.Frag} {mg : Str → Option Value} {base : Heap} {x qual : Str} {st : Stmt} {f : Addr} {fd : FuncData} {N ps : List Str} {k : Nat} {fb : List Sl → RS}
theorem bx_of {cdv : Value} {A : Around} {outer : List Env} {s : Shared} {H : Hp} {E : XK} (nd : N.Nodup) (hr : Room k (A.deeper (envOfC qual (defScope st) s.heap.objs.size f cdv))) (hgd : A.guards = some []) (J : Jx) (hJ : J.G = ⟨K, mg⟩) (hW : J.W = fun cls d _ H => E cls d H) : BX (cxB P w K mg base N qual st f cdv A outer s H E) J P w base k where
  prog := rfl
  w := rfl
  base := rfl
  K := by rw [hJ]; rfl
  mg := by rw [hJ]; rfl
  tk := by rw [hW]; exact takes_of rfl rfl rfl rfl
  po := passes_of rfl
  room := hr
  calm := rfl
  nd := nd
  stk := rfl
  fr := rfl
  gd := hgd
theorem start_slot {G : Gm} {M : Addr → Prop} {H : Hp} {ds : List D} {vs : List V} {n : Nat} (r : RepL G M H ds vs) (j : Nat) (s : Sl) (h : (ds.map Sl.val ++ List.replicate n Sl.un)[j]? = some s) : s = .un ∨ ∃ d v, s = .val d ∧ (vs.map some ++ List.replicate n none)[j]? = some (some v) ∧ Rep G M H d v := by
  have hl := r.length
  by_cases hj : j < ds.length
  · rw [List.getElem?_append_left (by simpa using hj), List.getElem?_map, Option.map_eq_some_iff] at h
    obtain ⟨d, hd, rfl⟩ := h
    obtain ⟨v, hv, rv⟩ := r.get hd
    exact .inr ⟨d, v, rfl, by rw [List.getElem?_append_left (by simpa using (by omega)), List.getElem?_map, hv]; rfl, rv⟩
  · rw [List.getElem?_append_right (by simpa using (by omega))] at h
    obtain ⟨hx, e⟩ := List.getElem?_eq_some_iff.mp h
    rw [List.getElem_replicate] at e
    exact .inl e.symm
theorem runP_len {n np : Nat} {f : List Sl → RS} {ds : List D} (h : runP n np f ds ≠ .bad) : ds.length = np := by
  unfold runP at h
  split at h
  · rename_i e; exact e
  · exact absurd rfl h
theorem runI_len {n np : Nat} {f : List Sl → RS} {ds : List D} (h : runI n np f ds ≠ .bad) : ds.length = np := by
  unfold runI at h
  split at h
  · rename_i e; exact e
  · exact absurd rfl h
theorem start_len {n : Nat} {vs : List V} (h : vs.length ≤ n) : ∀ {N : List Str}, N.length = n → (L2.start N vs).length = n := fun {N} e => by
  unfold L2.start
  rw [List.length_append, List.length_map, List.length_replicate, e]
  omega
theorem fnP (F : Fun K x qual st f fd) (S : FnScope N ps (defScope st)) (hps : ps.length ≤ N.length) (B : BodyOk P w K mg base N qual st f k fb) : FnG P w K mg base (k + 1) f fd ps (spP ⟨K, mg⟩ (runP N.length ps.length fb)) := by
  refine fnG_of F S (fun vs H Q E h => ?_) (fun cdv A outer s H vs Q E hr hgd h => ?_)
  · obtain ⟨M, ds, md, r, h⟩ := h
    rw [← r.length]
    exact runP_len (okF_ne h)
  · obtain ⟨M, ds, md, r, h⟩ := h
    have hl := runP_len (okF_ne h)
    have hv : vs.length = ps.length := by rw [← r.length]; exact hl
    let J : Jx := { G := ⟨K, mg⟩, M0 := M, H0 := H, io := none, W := fun cls d _ H => E cls d H, hx := none }
    refine ⟨tS J fb, B cdv A outer s H E J rfl rfl (bx_of S.nd hr hgd J rfl rfl), M, ds.map .val ++ List.replicate (N.length - ps.length) .un, ⟨md, fun _ h => h, fun a h => (by cases h), fun _ _ h _ => h, ?_, fun j s h => ?_, fun j i s t a h1 h2 h3 h4 => ?_⟩, ?_⟩
    · rw [start_len (by omega) rfl, List.length_append, List.length_map, List.length_replicate]
      omega
    · have hst : L2.start N vs = vs.map some ++ List.replicate (N.length - ps.length) none := by unfold L2.start; rw [hv]
      rcases start_slot (G := ⟨K, mg⟩) r j s h with e | ⟨d, v, e, q, rv⟩
      · subst e; trivial
      · subst e; rw [hst]; exact ⟨v, q, rv⟩
    · rcases start_slot (G := ⟨K, mg⟩) r j s h1 with e | ⟨d, v, e, q, rv⟩ <;> subst e <;> cases h3
    · unfold runP at h
      rw [if_pos hl] at h
      have ex : ∀ {M' : Addr → Prop} {r' : List Sl} {σ' : St} {H' : Hp}, SI J M' r' σ' H' → Extn H H' := fun I b o e => I.keep b o e (by intro z; cases z)
      cases e : fb (ds.map .val ++ List.replicate (N.length - ps.length) .un) with
      | nx r' => rw [e] at h; exact fun M' σ' H' st I => h .non H' (ex I) rfl
      | rt d r' => rw [e] at h; exact fun v M' σ' H' st I rv => h v H' (ex I) (rv.anti I.m0)
      | exn x r' => rw [e] at h; exact fun cls dd M' σ' H' st I rx => h cls dd H' (ex I) (rx.anti I.m0)
      | bk r' => rw [e] at h; exact h.elim
      | ct r' => rw [e] at h; exact h.elim
      | bad => rw [e] at h; exact h.elim
theorem fnI (F : Fun K x qual st f fd) (S : FnScope N ps (defScope st)) (hps : ps.length ≤ N.length) (B : BodyOk P w K mg base N qual st f k fb) : FnG P w K mg base (k + 1) f fd ps (spI ⟨K, mg⟩ (runI N.length ps.length fb)) := by
  refine fnG_of F S (fun vs H Q E h => ?_) (fun cdv A outer s H vs Q E hr hgd h => ?_)
  · obtain ⟨M, a, o, ws, ds, e, md, m, own, r, h⟩ := h
    subst e
    have hl := runI_len (okF_ne h)
    rw [List.length_cons] at hl ⊢
    rw [← r.length]
    exact hl
  · obtain ⟨M, a, o, ws, ds, e, md, m, own, r, h⟩ := h
    subst e
    have hl := runI_len (okF_ne h)
    rw [List.length_cons] at hl
    have hv : (V.ref a :: ws).length = ps.length := by rw [List.length_cons, ← r.length]; exact hl
    let J : Jx := { G := ⟨K, mg⟩, M0 := M, H0 := H, io := some a, W := fun cls d _ H => E cls d H, hx := none }
    have hst : L2.start N (V.ref a :: ws) = some (V.ref a) :: (ws.map some ++ List.replicate (N.length - ps.length) none) := by unfold L2.start; rw [hv]; rfl
    refine ⟨tS J fb, B cdv A outer s H E J rfl rfl (bx_of S.nd hr hgd J rfl rfl), M, .io o :: (ds.map .val ++ List.replicate (N.length - ps.length) .un), ⟨md, fun _ h => h, fun b h => (by cases h; exact m), fun _ _ h _ => h, ?_, fun j s h => ?_, fun j i s t b h1 h2 h3 h4 h5 h6 => ?_⟩, ?_⟩
    · rw [start_len (by omega) rfl, List.length_cons, List.length_append, List.length_map, List.length_replicate]
      omega
    · rw [hst]
      cases j with
      | zero => cases h; exact ⟨a, rfl, m, own, rfl⟩
      | succ j =>
        rcases start_slot (G := ⟨K, mg⟩) r j s h with e | ⟨d, v, e, q, rv⟩
        · subst e; trivial
        · subst e; exact ⟨v, q, rv⟩
    · cases j with
      | zero =>
        cases i with
        | zero => rfl
        | succ i => rcases start_slot (G := ⟨K, mg⟩) r i t h2 with e | ⟨d, v, e, q, rv⟩ <;> subst e <;> cases h4
      | succ j => rcases start_slot (G := ⟨K, mg⟩) r j s h1 with e | ⟨d, v, e, q, rv⟩ <;> subst e <;> cases h3
    · have hl' : (o :: ds).length = ps.length := hl
      unfold runI at h
      rw [if_pos hl'] at h
      dsimp only at h
      have kp : ∀ {M' : Addr → Prop} {r' : List Sl} {σ' : St} {H' : Hp}, SI J M' r' σ' H' → ∀ b u, H b = some u → b ≠ a → H' b = some u := fun I b u e n => I.keep b u e (by intro z; cases z; exact n rfl)
      have io : ∀ {M' : Addr → Prop} {r' : List Sl} {σ' : St} {H' : Hp} {d : D}, SI J M' (.io d :: r') σ' H' → OwnAt J.G M H' a d := fun I => by
        obtain ⟨b, _, m', own', e⟩ := I.slot 0 _ rfl
        cases e
        exact own'.anti I.m0
      cases e : fb (.io o :: (ds.map .val ++ List.replicate (N.length - ps.length) .un)) with
      | nx r' =>
        rw [List.cons_append, e] at h
        cases r' with
        | nil => exact h.elim
        | cons s0 r' =>
          cases s0 with
          | io d => exact fun M' σ' H' st I => h .non H' (kp I) (I.md.anti I.m0) (io I) rfl
          | _ => exact h.elim
      | rt d0 r' =>
        rw [List.cons_append, e] at h
        cases r' with
        | nil => exact h.elim
        | cons s0 r' =>
          cases s0 with
          | io d => exact fun v M' σ' H' st I rv => h v H' (kp I) (I.md.anti I.m0) (io I) (rv.anti I.m0)
          | _ => exact h.elim
      | exn x r' =>
        rw [List.cons_append, e] at h
        cases r' with
        | nil => exact h.elim
        | cons s0 r' =>
          cases s0 with
          | io d => exact fun cls dd M' σ' H' st I rx => h cls dd H' (kp I) (I.md.anti I.m0) (io I) (rx.anti I.m0)
          | _ => exact h.elim
      | bk r' => rw [List.cons_append, e] at h; exact h.elim
      | ct r' => rw [List.cons_append, e] at h; exact h.elim
      | bad => rw [List.cons_append, e] at h; exact h.elim
end

/-! ### calls -/
def doF (m : RF) (r : List Sl) : RE D := match m with
  | .ok d _ => .ok d r
  | .exn x _ => .exn x r
  | .bad => .bad
def call (F : List D → RF) (fs : List Sl → RE (List D)) : List Sl → RE D := fun r => (fs r).bind fun ds r1 => doF (F ds) r1
/-- the first argument a name whose object is changed -/
def doI (i : Nat) (F : List D → RF) (ds : List D) (r : List Sl) : RE D := match r[i]? with
  | some (.own o) => (match F (o :: ds) with
    | .ok d o' => .ok d (r.set i (.own o'))
    | .exn x o' => .exn x (r.set i (.own o'))
    | .bad => .bad)
  | some (.io o) => (match F (o :: ds) with
    | .ok d o' => .ok d (r.set i (.io o'))
    | .exn x o' => .exn x (r.set i (.io o'))
    | .bad => .bad)
  | _ => .bad
def callI (i : Nat) (F : List D → RF) (fs : List Sl → RE (List D)) : List Sl → RE D := fun r => if isOwn i r = true then (fs r).bind fun ds r1 => doI i F ds r1 else .bad
section
variable {X : Cx} {J : Jx} {k : Nat} {f : Addr} {fd : FuncData} {ps : List Str} {F : List D → RF} {x : Str} {p pos : Pos} {e : Expr} {es : List Expr} {fs : List Sl → RE (List D)}
theorem doF_core {M : Addr → Prop} {H : Hp} {σ : St} {r : List Sl} {ds : List D} {vs : List V} {Q : VK} (I : SI J M r σ H) (rd : RepL J.G M H ds vs) (h : Out J (RV J) M H σ (doF (F ds) r) Q) : spP J.G F vs H Q (WE J.W σ) := by
  refine ⟨M, ds, I.md, rd, ?_⟩
  unfold doF at h
  cases e : F ds with
  | ok d o => rw [e] at h; exact fun v H' ex rv => h v M H' (Step.ext ex) (I.ext ex) rv
  | exn x o => rw [e] at h; exact fun cls dd H' ex rx => h cls dd M H' (Step.ext ex) (I.ext ex) rx
  | bad => rw [e] at h; exact h.elim
theorem e_call (Fk : FnG X.prog X.w X.K X.mg X.base k f fd ps (spP J.G F)) (hr : Room k X.A) (hgd : X.A.guards = some []) (tk : Takes X J.W) (hg : Gl X x) (hm : X.mg x = some (.ref f)) (hk : PySem.W.keepIn X.K (.ref f) = true) (hb : Binds X.K fd ps [])
    (ha : PA X (e :: es) (tA J fs)) (hdb : (x == ("__debug__" : Str)) = false := by decide) (he : starEach (e :: es) X.env = (false, eval e X.env) :: starEach es X.env := by rfl) (hpl : (backTo pos (starEach es X.env)).any (·.1) = false := by rfl) :
    PE X (.Call (.Name x p) (e :: es) [] pos) (tE J (call F fs)) :=
  PEi (pe_callG Fk hr hgd hg hm hk hb .nil tk ha hdb he hpl) fun σ H Q ⟨M, r, I, h⟩ => ⟨M, r, I, Out.bind h fun ds r1 vs M1 H1 st1 I1 rd1 h1 => by show spP J.G F (vs ++ []) H1 Q (WE J.W σ); rw [List.append_nil]; exact doF_core I1 rd1 h1⟩
theorem doI_core {i : Nat} {M : Addr → Prop} {H : Hp} {σ : St} {r : List Sl} {ds : List D} {vs : List V} {a : Addr} {Q : VK} (I : SI J M r σ H) (ea : σ[i]? = some (some (.ref a))) (rd : RepL J.G M H ds vs) (h : Out J (RV J) M H σ (doI i F ds r) Q) : spI J.G F (.ref a :: vs) H Q (WE J.W σ) := by
  have fin : ∀ (s : Sl) (o : D) (mk : D → Sl), r[i]? = some s → s.owned = true → (∀ d, (mk d).owned = true) → OwnAt J.G M H a o → M a → (∀ H' o', OwnAt J.G M H' a o' → SlotOk J M H' (mk o') (some (some (.ref a)))) →
      Out J (RV J) M H σ (match F (o :: ds) with
        | .ok d o' => .ok d (r.set i (mk o'))
        | .exn x o' => .exn x (r.set i (mk o'))
        | .bad => .bad) Q → spI J.G F (.ref a :: vs) H Q (WE J.W σ) := fun s o mk es ow ow' own m new h => by
    refine ⟨M, a, o, vs, ds, rfl, I.md, m, own, rd, ?_⟩
    cases e : F (o :: ds) with
    | ok d o' => rw [e] at h; exact fun v H' kp md own' rv => h v M H' ⟨fun b u hb n => kp b u hb (by rintro rfl; exact n m), fun b h => .inl h⟩ (I.write es ow ea (ow' o') kp md (new H' o' own')) rv
    | exn x o' => rw [e] at h; exact fun cls dd H' kp md own' rx => h cls dd M H' ⟨fun b u hb n => kp b u hb (by rintro rfl; exact n m), fun b h => .inl h⟩ (I.write es ow ea (ow' o') kp md (new H' o' own')) rx
    | bad => rw [e] at h; exact h.elim
  unfold doI at h
  split at h
  · rename_i o es
    obtain ⟨a', ea', m, q, n0, h0⟩ := I.slot i _ es
    rw [ea] at ea'; cases ea'
    exact fin (.own o) o .own es rfl (fun _ => rfl) q m (fun H' o' own' => ⟨a, rfl, m, own', n0, h0⟩) h
  · rename_i o es
    obtain ⟨a', ea', m, q, hio⟩ := I.slot i _ es
    rw [ea] at ea'; cases ea'
    exact fin (.io o) o .io es rfl (fun _ => rfl) q m (fun H' o' own' => ⟨a, rfl, m, own', hio⟩) h
  · exact h.elim
theorem e_callI (i : Nat) {y : Str} {py : Pos} (Fk : FnG X.prog X.w X.K X.mg X.base k f fd ps (spI J.G F)) (hr : Room k X.A) (hgd : X.A.guards = some []) (tk : Takes X J.W) (hg : Gl X x) (hm : X.mg x = some (.ref f)) (hk : PySem.W.keepIn X.K (.ref f) = true) (hb : Binds X.K fd ps [])
    (ha : PA X es (tA J fs)) (hN : X.N[i]? = some y := by rfl) (hv : Vis X.env.scope y := by first | exact Or.inl rfl | exact Or.inr (Or.inl rfl) | exact Or.inr (Or.inr rfl)) (hd : (y == ("__debug__" : Str)) = false := by decide) (hcd : (y == ("__classdict__" : Str)) = false := by decide)
    (hdb : (x == ("__debug__" : Str)) = false := by decide) (he : starEach (.Name y py :: es) X.env = (false, eval (.Name y py) X.env) :: starEach es X.env := by rfl) (hpl : (backTo pos (starEach es X.env)).any (·.1) = false := by rfl) :
    PE X (.Call (.Name x p) (.Name y py :: es) [] pos) (tE J (callI i F fs)) :=
  PEi (pe_callG Fk hr hgd hg hm hk hb .nil tk (pa_cons (pe_var hN hv hd hcd) ha he) hdb he hpl) fun σ H Q ⟨M, r, I, h⟩ => by
    unfold callI at h
    split at h
    · rename_i ho
      obtain ⟨a, s0, d0, es0, ow0, ea, m0, q0, hs0⟩ := own_at I ho
      exact ⟨_, ea, M, r, I, Out.bind h fun ds r1 vs M1 H1 st1 I1 rd1 h1 => by show spI J.G F ((V.ref a :: vs) ++ []) H1 Q (WE J.W σ); rw [List.append_nil]; exact doI_core I1 ea rd1 h1⟩
    · exact h.elim
end
end DL

set_option Elab.async false
set_option linter.all false
set_option maxRecDepth 100000
set_option maxHeartbeats 4000000
namespace DL
open PySem L2

/-! ### list comprehensions -/
def wipeR : List Sl → List Nat → List Sl
  | r, [] => r
  | r, v :: vs => (wipeR r vs).set v .un
/-- the block's own names as they were ahead -/
def back (r0 : List Sl) : List Sl → List Nat → List Sl
  | r, [] => r
  | r, v :: vs => (back r0 r vs).set v (r0.getD v .un)
def noOwn (r : List Sl) (vs : List Nat) : Bool := vs.all fun v => match r[v]? with
  | some s => !s.owned
  | none => false
def lcL (g : D → List Sl → RS) (t : List Sl → RE Bool) (e : List Sl → RE D) (vs : List Nat) : List D → List D → List Sl → RE (List D)
  | [], acc, r => .ok acc r
  | d :: ds, acc, r => match g d r with
    | .nx r1 => (t r1).bind fun b r2 => if b = true then (e r2).bind fun y r3 => if acc.length < LIM then lcL g t e vs ds (acc ++ [y]) (wipeR r3 vs) else .bad else lcL g t e vs ds acc (wipeR r2 vs)
    | _ => .bad
def lcomp (fi : List Sl → RE (List D)) (g : D → List Sl → RS) (t : List Sl → RE Bool) (e : List Sl → RE D) (vs : List Nat) : List Sl → RE D := fun r => (fi r).bind fun ds r1 => if noOwn r1 vs = true then (match lcL g t e vs ds [] (wipeR r1 vs) with
  | .ok ys r2 => .ok (.lst ys) (back r1 r2 vs)
  | _ => .bad) else .bad
/-- inside a block nothing is let out, and the list D that grows is not of the frame -/
def Jx.blk (J : Jx) (D : Addr) (o : HO) : Jx := { J with W := fun _ _ _ _ => False, M0 := fun b => J.M0 b ∨ b = D, H0 := fun b => if b = D then some o else J.H0 b }
section
variable {J : Jx} {M : Addr → Prop} {r : List Sl} {σ : St} {H : Hp}
theorem SlotOk.drop {J : Jx} {s : Sl} {o : Option (Option V)} (h : SlotOk J M H s o) : SlotOk J M H .un none := trivial
theorem SI.wipe (I : SI J M r σ H) : ∀ vs : List Nat, SI J M (wipeR r vs) (L2.wipe σ vs) H
  | [] => I
  | v :: vs => (SI.wipe I vs).drop
/-- into the block's turn -/
theorem SI.toBlk {p : Addr} {o : HO} (I : SI J M r σ H) (m : M p) (h : H p = some o) (h0 : J.H0 p = none) (hio : J.io ≠ some p) (fl : ∀ (j : Nat) s, r[j]? = some s → s.owned = true → σ[j]? ≠ some (some (.ref p))) : SI (J.blk p o) M r σ H where
  md := I.md
  m0 := fun b hb => hb.elim (I.m0 b) fun e => e ▸ m
  io0 := fun a ha => .inl (I.io0 a ha)
  keep := fun b u hb n => by
    have hb' : (if b = p then some o else J.H0 b) = some u := hb
    by_cases e : b = p
    · subst e; rw [if_pos rfl] at hb'; cases hb'; exact h
    · rw [if_neg e] at hb'; exact I.keep b u hb' n
  len := I.len
  slot := fun i s hs => by
    have z := I.slot i s hs
    cases s with
    | own d =>
      obtain ⟨a, ea, ma, oa, n0, h0'⟩ := z
      have ne : a ≠ p := fun e => fl i _ hs rfl (e ▸ ea)
      exact ⟨a, ea, ma, oa, fun h => h.elim n0 ne, by show (if a = p then _ else J.H0 a) = none; rw [if_neg ne]; exact h0'⟩
    | un => trivial
    | val d => exact z
    | io d => exact z
    | xc x => exact z
  dist := I.dist
/-- .. and out of it -/
theorem SI.ofBlk {p : Addr} {o : HO} (I : SI (J.blk p o) M r σ H) (h0 : J.H0 p = none) (hio : ∀ a, J.io = some a → J.M0 a) : SI J M r σ H where
  md := I.md
  m0 := fun b hb => I.m0 b (.inl hb)
  io0 := hio
  keep := fun b u hb n => I.keep b u (by
    show (if b = p then _ else J.H0 b) = some u
    by_cases e : b = p
    · subst e; rw [h0] at hb; cases hb
    · rw [if_neg e]; exact hb) n
  len := I.len
  slot := fun i s hs => by
    have z := I.slot i s hs
    cases s with
    | own d =>
      obtain ⟨a, ea, ma, oa, n0, h0'⟩ := z
      have ne : a ≠ p := fun e => n0 (.inr e)
      have h0'' : (if a = p then some o else J.H0 a) = none := h0'
      rw [if_neg ne] at h0''
      exact ⟨a, ea, ma, oa, fun h => n0 (.inl h), h0''⟩
    | un => trivial
    | val d => exact z
    | io d => exact z
    | xc x => exact z
  dist := I.dist
theorem SI.flBlk {p : Addr} {o : HO} (I : SI (J.blk p o) M r σ H) (hio : J.io ≠ some p) : ∀ (j : Nat) s, r[j]? = some s → s.owned = true → σ[j]? ≠ some (some (.ref p)) := fun j s hs ho e => by
  have z := I.slot j s hs
  cases s with
  | own d => obtain ⟨a, ea, ma, oa, n0, h0'⟩ := z; rw [e] at ea; cases ea; exact n0 (.inr rfl)
  | io d => obtain ⟨a, ea, ma, oa, h⟩ := z; rw [e] at ea; cases ea; exact hio h
  | un => cases ho
  | val d => cases ho
  | xc x => cases ho
/-- a floating owned object is written -/
theorem SI.writeFl {p : Addr} {H' : Hp} (I : SI J M r σ H) (m : M p) (h0 : J.H0 p = none) (fl : ∀ (j : Nat) s, r[j]? = some s → s.owned = true → σ[j]? ≠ some (some (.ref p))) (kp : ∀ b u, H b = some u → b ≠ p → H' b = some u) (md : MD M H') : SI J M r σ H' :=
  I.step ⟨fun b u hb n => kp b u hb (fun e => n (e ▸ m)), fun b h => .inl h⟩ md I.m0 (fun b u hb n => kp b u (I.keep b u hb n) (fun e => by subst e; rw [h0] at hb; cases hb)) fun i s a hs ho ea => by
    have ma := (I.slot i s hs).ownM ho ea
    obtain ⟨u, hu⟩ := I.md.some ma
    exact ⟨ma, (kp a u hu (fun e => fl i s hs ho (e ▸ ea))).trans hu.symm⟩
theorem wipe_get {σ : St} {i : Nat} : ∀ {vs : List Nat}, i ∉ vs → (L2.wipe σ vs)[i]? = σ[i]?
  | [], _ => rfl
  | v :: vs, h => by
    show ((L2.wipe σ vs).set v none)[i]? = _
    rw [List.getElem?_set, if_neg (show ¬ v = i from fun e => h (by rw [e]; exact List.mem_cons_self)), wipe_get fun z => h (List.mem_cons_of_mem _ z)]
theorem back_get (r0 r : List Sl) {i : Nat} : ∀ {vs : List Nat}, i ∉ vs → (back r0 r vs)[i]? = r[i]?
  | [], _ => rfl
  | v :: vs, h => by
    show ((back r0 r vs).set v _)[i]? = _
    rw [List.getElem?_set, if_neg (show ¬ v = i from fun e => h (by rw [e]; exact List.mem_cons_self)), back_get r0 r fun z => h (List.mem_cons_of_mem _ z)]
theorem back_in (r0 r : List Sl) {i : Nat} (hl : i < r.length) : ∀ {vs : List Nat}, i ∈ vs → (back r0 r vs)[i]? = some (r0.getD i .un)
  | v :: vs, h => by
    have len : ∀ ws : List Nat, (back r0 r ws).length = r.length := fun ws => by
      induction ws with
      | nil => rfl
      | cons w ws ih => show ((back r0 r ws).set w _).length = _; rw [List.length_set, ih]
    show ((back r0 r vs).set v _)[i]? = _
    rw [List.getElem?_set]
    by_cases e : v = i
    · subst e
      rw [if_pos rfl, if_pos (by rw [len]; exact hl)]
    · rw [if_neg e]
      exact back_in r0 r hl (by rcases List.mem_cons.mp h with z | z
                                · exact absurd z.symm e
                                · exact z)
theorem back_len (r0 r : List Sl) : ∀ ws : List Nat, (back r0 r ws).length = r.length
  | [] => rfl
  | w :: ws => by show ((back r0 r ws).set w _).length = _; rw [List.length_set, back_len r0 r ws]
/-- behind the block: the own names as they were ahead -/
theorem SI.backTo {r0 : List Sl} {M0 : Addr → Prop} {H0 : Hp} {vs : List Nat} (I0 : SI J M0 r0 σ H0) (I : SI J M r (L2.wipe σ vs) H) (st : Step M0 H0 M H) (no : noOwn r0 vs = true) : SI J M (back r0 r vs) σ H := by
  have hw : (L2.wipe σ vs).length = σ.length := wipe_length σ vs
  have hr : r.length = σ.length := I.len.trans hw
  refine ⟨I.md, I.m0, I.io0, I.keep, (back_len r0 r vs).trans hr, fun j s e => ?_, fun j k s t a e1 e2 h1 h2 h3 h4 => ?_⟩
  · by_cases hj : j ∈ vs
    · have hlt : j < r.length := by
        have := (List.getElem?_eq_some_iff.mp e).1
        rwa [back_len] at this
      rw [back_in r0 r hlt hj] at e
      cases e
      have hx : ∃ s0, r0[j]? = some s0 := ⟨r0[j]'(by rw [I0.len, ← hr]; exact hlt), List.getElem?_eq_getElem _⟩
      obtain ⟨s0, h0⟩ := hx
      rw [List.getD_eq_getElem?_getD, h0]
      have z := I0.slot j s0 h0
      have no' := List.all_eq_true.mp no j hj
      rw [h0] at no'
      exact z.step st I0.md fun a ho => by
        show _
        dsimp only at no'
        simp only [Option.getD_some] at ho
        rw [ho] at no'
        cases no'
    · rw [back_get r0 r hj] at e
      have z := I.slot j s e
      rw [wipe_get hj] at z
      exact z
  · have ow : ∀ (j : Nat) s, (back r0 r vs)[j]? = some s → s.owned = true → j ∉ vs ∧ r[j]? = some s := fun j s e h => by
      by_cases hj : j ∈ vs
      · exfalso
        have hlt : j < r.length := by
          have := (List.getElem?_eq_some_iff.mp e).1
          rwa [back_len] at this
        rw [back_in r0 r hlt hj] at e
        cases e
        have hx : ∃ s0, r0[j]? = some s0 := ⟨r0[j]'(by rw [I0.len, ← hr]; exact hlt), List.getElem?_eq_getElem _⟩
        obtain ⟨s0, h0⟩ := hx
        rw [List.getD_eq_getElem?_getD, h0] at h
        have no' := List.all_eq_true.mp no j hj
        rw [h0] at no'
        simp only [Option.getD_some] at h
        dsimp only at no'
        rw [h] at no'
        cases no'
      · exact ⟨hj, by rw [back_get r0 r hj] at e; exact e⟩
    obtain ⟨nj, ej⟩ := ow j s e1 h1
    obtain ⟨nk, ek⟩ := ow k t e2 h2
    exact I.dist j k s t a ej ek h1 h2 (by rw [wipe_get nj]; exact h3) (by rw [wipe_get nk]; exact h4)
end
/-- tests of a clause -/
def tyes : List Sl → RE Bool := fun r => .ok true r
section
variable {X : Cx} {J : Jx} {elt tg iter : Expr} {ifs : List Expr} {scope : Scope} {own : List (Str × Nat)} {pos : Pos} {fi : List Sl → RE (List D)} {g : D → List Sl → RS} {ft : List Sl → RE Bool} {fe : List Sl → RE D}
theorem pts_nil' : PTs X [] (tT J tyes) := ⟨fun pins s σ H Q I ⟨M, r, SI1, h⟩ => L2.pts_nil.run pins s σ H Q I (h true M H Step.refl SI1 rfl)⟩
theorem pts_one' {c : Expr} (h : PT X c (tT J ft)) : PTs X [c] (tT J ft) := pts_one h
/-- what a comprehension's parts may use: the block's wish -/
structure JB (J J' : Jx) : Prop where
  G : J'.G = J.G
  hx : J'.hx = J.hx
  W : J'.W = fun _ _ _ _ => False
theorem JB.blk {J : Jx} {p : Addr} {o : HO} : JB J (J.blk p o) := ⟨rfl, rfl, rfl⟩
def tGx (J : Jx) (vs : List Nat) (g : D → List Sl → RS) : TG := fun v σ H Q => ∃ J', JB J J' ∧ tG J' vs g v σ H Q
def tTx (J : Jx) (f : List Sl → RE Bool) : TT := fun σ H Q => ∃ J', JB J J' ∧ tT J' f σ H Q
def tEx (J : Jx) (f : List Sl → RE D) : TE := fun σ H Q => ∃ J', JB J J' ∧ tE J' f σ H Q
theorem gx_of {X : Cx} {vs : List Nat} (h : ∀ J', JB J J' → PG X tg (tG J' vs g)) : PG X tg (tGx J vs g) := ⟨fun pins s σ H v u Q I rv ⟨J', b, q⟩ => (h J' b).run pins s σ H v u Q I rv q⟩
theorem tx_of {X : Cx} (h : ∀ J', JB J J' → PTs X ifs (tT J' ft)) : PTs X ifs (tTx J ft) := ⟨fun pins s σ H Q I ⟨J', b, q⟩ => (h J' b).run pins s σ H Q I q⟩
theorem ex_of {X : Cx} (h : ∀ J', JB J J' → PE X elt (tE J' fe)) : PE X elt (tEx J fe) := ⟨fun pins s σ H Q I ⟨J', b, q⟩ => (h J' b).run pins s σ H Q I q⟩
theorem lc_read (ok : GOk g) {vs : List Nat} (σ : St) (H : Hp) (Q : VK) (h : tN J (lcomp fi g ft fe vs) σ H Q) : tLc (tI J fi) (tGx J vs g) (tTx J ft) (tEx J fe) vs σ H Q := by
  obtain ⟨M, r, I, h⟩ := h
  refine ⟨M, r, I, Out.bind h fun ds r1 T M1 H1 st1 I1 it h1 => ?_⟩
  intro p hp
  split at h1
  · rename_i no
    obtain ⟨In, stn, nm, n0, h0, fl⟩ := I1.newOwn (o := .lst []) hp trivial
    have hio : J.io ≠ some p := fun e => n0 (I1.io0 p e)
    have flw : ∀ (j : Nat) s, (wipeR r1 vs)[j]? = some s → s.owned = true → (L2.wipe σ vs)[j]? ≠ some (some (.ref p)) := fun j s hj ho e => by
      have z := ((SI.wipe In vs).slot j s hj).ownM ho e
      have I1w := SI.wipe I1 vs
      exact nm ((I1w.slot j s hj).ownM ho e)
    have hQ : ∀ ys r2, lcL g ft fe vs ds [] (wipeR r1 vs) = .ok ys r2 → Out J (RO J) M1 H1 σ (.ok (.lst ys) (back r1 r2 vs)) Q := fun ys r2 e => by rw [e] at h1; exact h1
    have hne : ∃ ys r2, lcL g ft fe vs ds [] (wipeR r1 vs) = .ok ys r2 := by
      cases e : lcL g ft fe vs ds [] (wipeR r1 vs) with
      | ok ys r2 => exact ⟨ys, r2, rfl⟩
      | exn x r2 => rw [e] at h1; exact h1.elim
      | bad => rw [e] at h1; exact h1.elim
    refine ⟨fun i m H' => m = ds.length - i ∧ i ≤ ds.length ∧ ∃ M' r' acc vacc, SI J M' r' (L2.wipe σ vs) H' ∧ Step M1 H1 M' H' ∧ M' p ∧ H' p = some (.lst vacc) ∧ RepL J.G M' H' acc vacc ∧
      (∀ (j : Nat) s, r'[j]? = some s → s.owned = true → (L2.wipe σ vs)[j]? ≠ some (some (.ref p))) ∧
      lcL g ft fe vs (ds.drop i) acc r' = lcL g ft fe vs ds [] (wipeR r1 vs), ⟨ds.length, by simp, Nat.zero_le _, _, wipeR r1 vs, [], [], SI.wipe In vs, stn, .inr rfl, upd_same, rfl, flw, rfl⟩, ?_⟩
    rintro i m H' ⟨rfl, hi, M', r', acc, vacc, I', st', mp, hpv, racc, fl', eqn⟩
    obtain ⟨it1, it2⟩ := it i M' H' st' I'.md
    by_cases hlt : i < ds.length
    · have hd : ds[i]? = some ds[i] := List.getElem?_eq_getElem hlt
      obtain ⟨go, yl⟩ := it1 _ hd
      refine .inr ⟨go, fun H2 => ∃ M2 r2 acc2 vacc2, SI J M2 r2 (L2.wipe σ vs) H2 ∧ Step M1 H1 M2 H2 ∧ M2 p ∧ H2 p = some (.lst vacc2) ∧ RepL J.G M2 H2 acc2 vacc2 ∧
        (∀ (j : Nat) s, r2[j]? = some s → s.owned = true → (L2.wipe σ vs)[j]? ≠ some (some (.ref p))) ∧ lcL g ft fe vs (ds.drop (i + 1)) acc2 r2 = lcL g ft fe vs ds [] (wipeR r1 vs),
        fun H2 ⟨M2, r2, acc2, vacc2, q⟩ => ⟨ds.length - (i + 1), by omega, rfl, by omega, M2, r2, acc2, vacc2, q⟩, fun x H2 y => ?_⟩
      obtain ⟨ex, rx⟩ := yl x H2 y
      rw [List.drop_eq_getElem_cons hlt] at eqn
      obtain ⟨ys0, rf0, hne⟩ := hne
      rw [hne] at eqn
      have I2 := I'.ext ex
      have hp2 := ex _ _ hpv
      have B2 : SI (J.blk p (.lst vacc)) M' r' (L2.wipe σ vs) H2 := I2.toBlk mp hp2 h0 hio fl'
      have eq : lcL g ft fe vs (ds[i] :: ds.drop (i + 1)) acc r' = (match g ds[i] r' with
        | .nx r1 => (ft r1).bind fun b r2 => if b = true then (fe r2).bind fun y r3 => if acc.length < LIM then lcL g ft fe vs (ds.drop (i + 1)) (acc ++ [y]) (wipeR r3 vs) else .bad else lcL g ft fe vs (ds.drop (i + 1)) acc (wipeR r2 vs)
        | _ => .bad) := rfl
      rw [eq] at eqn
      have st2 : Step M1 H1 M' H2 := st'.trans (Step.ext ex)
      refine ⟨J.blk p (.lst vacc), JB.blk, M', r', ds[i], B2, rx, ?_⟩
      rcases ok ds[i] r' with ⟨r3, e3⟩ | e3
      · rw [e3] at eqn ⊢
        have eqn : ((ft r3).bind fun b r2 => if b = true then (fe r2).bind fun y r3 => if acc.length < LIM then lcL g ft fe vs (ds.drop (i + 1)) (acc ++ [y]) (wipeR r3 vs) else .bad else lcL g ft fe vs (ds.drop (i + 1)) acc (wipeR r2 vs)) = RE.ok ys0 rf0 := eqn
        intro M3 σ3 H3 st3 B3 ew
        have ww : ∀ τ : St, L2.wipe (L2.wipe τ vs) vs = L2.wipe τ vs := fun τ => by
          apply List.ext_getElem?
          intro j
          by_cases hj : j ∈ vs
          · have inn : ∀ (ρ : St) (ws : List Nat), j ∈ ws → (L2.wipe ρ ws)[j]? = if j < ρ.length then some none else none := fun ρ ws => by
              induction ws with
              | nil => intro z; cases z
              | cons w ws ih =>
                intro z
                show ((L2.wipe ρ ws).set w none)[j]? = _
                rw [List.getElem?_set]
                by_cases e : w = j
                · subst e; rw [if_pos rfl, wipe_length]
                · rw [if_neg e]
                  exact ih (by rcases List.mem_cons.mp z with q | q
                               · exact absurd q.symm e
                               · exact q)
            rw [inn _ _ hj, inn _ _ hj, wipe_length]
          · rw [wipe_get hj]
        refine ⟨ew.trans (ww σ), J.blk p (.lst vacc), JB.blk, M3, r3, B3, ?_⟩
        have ew' : L2.wipe σ3 vs = L2.wipe σ vs := ew.trans (ww σ)
        -- the next turn's state, from a state of the block
        have nextT : ∀ {M4 : Addr → Prop} {r4 : List Sl} {H4 : Hp}, Step M3 H3 M4 H4 → SI (J.blk p (.lst vacc)) M4 r4 σ3 H4 → SI J M4 (wipeR r4 vs) (L2.wipe σ vs) H4 ∧ Step M1 H1 M4 H4 ∧ M4 p ∧ H4 p = some (.lst vacc) ∧ RepL J.G M4 H4 acc vacc ∧
            (∀ (j : Nat) s, (wipeR r4 vs)[j]? = some s → s.owned = true → (L2.wipe σ vs)[j]? ≠ some (some (.ref p))) := fun {M4 r4 H4} st4 B4 => by
          have W4 := SI.wipe B4 vs
          rw [ew'] at W4
          have hp4 : H4 p = some (.lst vacc) := B4.keep p _ (by show (if p = p then _ else _) = _; rw [if_pos rfl]) hio
          exact ⟨W4.ofBlk h0 I1.io0, st2.trans (st3.trans st4), B4.m0 p (.inr rfl), hp4, RepL.step ((Step.ext ex).trans (st3.trans st4)) I'.md _ _ racc, W4.flBlk hio⟩
        have hft : Out (J.blk p (.lst vacc)) RB M3 H3 σ3 (ft r3) (fun b H4 => if b = true then tEx J fe σ3 H4 fun y H5 => ∃ acc, H5 p = some (.lst acc) ∧ acc.length < sizeLine ∧ (∃ M2 r2 acc2 vacc2, SI J M2 r2 (L2.wipe σ vs) (upd H5 p (.lst (acc ++ [y]))) ∧ Step M1 H1 M2 (upd H5 p (.lst (acc ++ [y]))) ∧ M2 p ∧ (upd H5 p (.lst (acc ++ [y]))) p = some (.lst vacc2) ∧ RepL J.G M2 (upd H5 p (.lst (acc ++ [y]))) acc2 vacc2 ∧
            (∀ (j : Nat) s, r2[j]? = some s → s.owned = true → (L2.wipe σ vs)[j]? ≠ some (some (.ref p))) ∧ lcL g ft fe vs (ds.drop (i + 1)) acc2 r2 = lcL g ft fe vs ds [] (wipeR r1 vs))
          else (∃ M2 r2 acc2 vacc2, SI J M2 r2 (L2.wipe σ vs) H4 ∧ Step M1 H1 M2 H4 ∧ M2 p ∧ H4 p = some (.lst vacc2) ∧ RepL J.G M2 H4 acc2 vacc2 ∧
            (∀ (j : Nat) s, r2[j]? = some s → s.owned = true → (L2.wipe σ vs)[j]? ≠ some (some (.ref p))) ∧ lcL g ft fe vs (ds.drop (i + 1)) acc2 r2 = lcL g ft fe vs ds [] (wipeR r1 vs))) := by
          cases et : ft r3 with
          | exn x r4 => rw [et] at eqn; cases eqn
          | bad => rw [et] at eqn; cases eqn
          | ok b r4 =>
            rw [et] at eqn
            have eqn : (if b = true then (fe r4).bind fun y r3 => if acc.length < LIM then lcL g ft fe vs (ds.drop (i + 1)) (acc ++ [y]) (wipeR r3 vs) else .bad else lcL g ft fe vs (ds.drop (i + 1)) acc (wipeR r4 vs)) = RE.ok ys0 rf0 := eqn
            intro b' M4 H4 st4 B4 eb
            have eb : b' = b := eb
            subst eb
            by_cases hb : b' = true
            · rw [if_pos hb] at eqn ⊢
              refine ⟨J.blk p (.lst vacc), JB.blk, M4, r4, B4, ?_⟩
              cases ee : fe r4 with
              | exn x r5 => rw [ee] at eqn; cases eqn
              | bad => rw [ee] at eqn; cases eqn
              | ok y r5 =>
                rw [ee] at eqn
                have eqn : (if acc.length < LIM then lcL g ft fe vs (ds.drop (i + 1)) (acc ++ [y]) (wipeR r5 vs) else .bad) = RE.ok ys0 rf0 := eqn
                intro vy M5 H5 st5 B5 ry
                by_cases hz : acc.length < LIM
                · rw [if_pos hz] at eqn
                  obtain ⟨I5, s5, m5, h5, ra5, f5⟩ := nextT (st4.trans st5) B5
                  refine ⟨vacc, h5, by rw [← racc.length]; exact lt_size (Nat.le_of_lt hz), M5, wipeR r5 vs, acc ++ [y], vacc ++ [vy], ?_, ?_, m5, upd_same, ?_, f5, ?_⟩
                  · exact I5.writeFl m5 h0 f5 kept_upd (I5.md.upd trivial)
                  · exact s5.trans ⟨fun b u hb n => by rw [upd_ne (by rintro rfl; exact n m5)]; exact hb, fun b h => .inl h⟩
                  · have stw : Step M5 H5 M5 (upd H5 p (.lst (vacc ++ [vy]))) := ⟨fun b u hb n => by rw [upd_ne (by rintro rfl; exact n m5)]; exact hb, fun b h => .inl h⟩
                    exact (RepL.step stw I5.md _ _ ra5).append ⟨vy, [], rfl, Rep.step stw I5.md _ _ ry, rfl⟩
                  · rw [hne]; exact eqn
                · rw [if_neg hz] at eqn; cases eqn
            · rw [if_neg hb] at eqn ⊢
              obtain ⟨I5, s5, m5, h5, ra5, f5⟩ := nextT st4 B4
              exact ⟨M4, wipeR r4 vs, acc, vacc, I5, s5, m5, h5, ra5, f5, by rw [hne]; exact eqn⟩
        exact hft
      · rw [e3] at eqn; cases eqn
    · have e : i = ds.length := by omega
      subst e
      rw [List.drop_length] at eqn
      have eqn : RE.ok acc r' = lcL g ft fe vs ds [] (wipeR r1 vs) := eqn
      refine .inl ⟨it2 (Nat.le_refl _), ?_⟩
      have hq := hQ acc r' eqn.symm
      have Ib := SI.backTo I1 I' st' no
      refine hq (.ref p) M' H' st' Ib ⟨p, rfl, mp, ⟨vacc, hpv, racc⟩, n0, h0, fun j s hj ho e => ?_⟩
      by_cases hjv : j ∈ vs
      · have z := (Ib.slot j s hj).ownM ho e
        have hlt : j < r'.length := by
          have := (List.getElem?_eq_some_iff.mp hj).1
          rwa [back_len] at this
        rw [back_in r1 r' hlt hjv] at hj
        cases hj
        have hx : ∃ s0, r1[j]? = some s0 := ⟨r1[j]'(by rw [I1.len, ← wipe_length σ vs, ← I'.len]; exact hlt), List.getElem?_eq_getElem _⟩
        obtain ⟨s0, hs0⟩ := hx
        rw [List.getD_eq_getElem?_getD, hs0] at ho
        have no' := List.all_eq_true.mp no j hjv
        rw [hs0] at no'
        simp only [Option.getD_some] at ho
        dsimp only at no'
        rw [ho] at no'
        cases no'
      · rw [back_get r1 r' hjv] at hj
        exact fl' j s hj ho (by rw [wipe_get hjv]; exact e)
  · exact h1.elim
/-- a comprehension, as an owned list -/
theorem n_lc (vs : List Nat) (hc : X.calm = true) (hN : X.N.Nodup) (hi : PI X tg iter (tI J fi)) (ok : GOk g) (bk : BlkOk X.N X.env.scope scope own) (hvs : own.map (·.2) = vs)
    (hg : ∀ (s : Shared) (H : Hp) (C : Addr) (cl : List (Str × Addr)) (fp : List Addr) (J' : Jx), JB J J' → PG (X.blk s H scope (compEnvC scope cl C X.env) fp) tg (tG J' vs g))
    (ht : ∀ (s : Shared) (H : Hp) (C : Addr) (cl : List (Str × Addr)) (fp : List Addr) (J' : Jx), JB J J' → PTs (X.blk s H scope (compEnvC scope cl C X.env) fp) ifs (tT J' ft))
    (he : ∀ (s : Shared) (H : Hp) (C : Addr) (cl : List (Str × Addr)) (fp : List Addr) (J' : Jx), JB J J' → PE (X.blk s H scope (compEnvC scope cl C X.env) fp) elt (tE J' fe)) (hs : ∀ x, foldedSetIterable iter X.env x = pure x := by intro _; rfl) :
    PE X (.ListComp elt [⟨tg, iter, ifs, 0⟩] scope pos) (tN J (lcomp fi g ft fe vs)) := by
  subst hvs
  exact PEi (pe_lc hc hN hi bk (fun s H C cl fp => gx_of fun J' b => hg s H C cl fp J' b) (fun s H C cl fp => tx_of fun J' b => ht s H C cl fp J' b) (fun s H C cl fp => ex_of fun J' b => he s H C cl fp J' b) hs) fun σ H Q h => lc_read ok σ H Q h
/-- name = [..] on one line -/
theorem s_ownLc (i : Nat) (vs : List Nat) {y : Str} {py spos : Pos} (hc : X.calm = true) (hN : X.N.Nodup) (hsw : swapsWith (.ListComp elt [⟨tg, iter, ifs, 0⟩] scope pos) (some (.Name y py)) spos.line X.env = pure true) (hi : PI X tg iter (tI J fi)) (ok : GOk g) (bk : BlkOk X.N X.env.scope scope own) (hvs : own.map (·.2) = vs)
    (hg : ∀ (s : Shared) (H : Hp) (C : Addr) (cl : List (Str × Addr)) (fp : List Addr) (J' : Jx), JB J J' → PG (X.blk s H scope (compEnvC scope cl C X.env) fp) tg (tG J' vs g))
    (ht : ∀ (s : Shared) (H : Hp) (C : Addr) (cl : List (Str × Addr)) (fp : List Addr) (J' : Jx), JB J J' → PTs (X.blk s H scope (compEnvC scope cl C X.env) fp) ifs (tT J' ft))
    (he : ∀ (s : Shared) (H : Hp) (C : Addr) (cl : List (Str × Addr)) (fp : List Addr) (J' : Jx), JB J J' → PE (X.blk s H scope (compEnvC scope cl C X.env) fp) elt (tE J' fe)) (hs : ∀ x, foldedSetIterable iter X.env x = pure x := by intro _; rfl)
    (hy : X.N[i]? = some y := by rfl) (hyl : X.env.scope.names.lookup y = some .local := by rfl) : PS X (.Assign [.Name y py] (.ListComp elt [⟨tg, iter, ifs, 0⟩] scope pos) spos) (tS J (sown i (lcomp fi g ft fe vs))) := by
  subst hvs
  refine PSi (ps_setLc hc hN hy hyl hsw hi bk (fun s H C cl fp => gx_of fun J' b => hg s H C cl fp J' b) (fun s H C cl fp => tx_of fun J' b => ht s H C cl fp J' b) (fun s H C cl fp => ex_of fun J' b => he s H C cl fp J' b) hs) fun E σ H h => ?_
  obtain ⟨M, r, I, h⟩ := h
  refine lc_read ok σ H _ ⟨M, r, I, Out.s h fun d r1 v M1 H1 st1 I1 ⟨a, ev, m, ow, n0, h0, fl⟩ h1 => ?_⟩
  subst ev
  exact h1 M1 _ H1 Step.refl (I1.setOwn m ow n0 h0 fl)
/-- .. as data -/
theorem s_asgLc (i : Nat) (vs : List Nat) {y : Str} {py spos : Pos} (hc : X.calm = true) (hN : X.N.Nodup) (hsw : swapsWith (.ListComp elt [⟨tg, iter, ifs, 0⟩] scope pos) (some (.Name y py)) spos.line X.env = pure true) (hi : PI X tg iter (tI J fi)) (ok : GOk g) (bk : BlkOk X.N X.env.scope scope own) (hvs : own.map (·.2) = vs)
    (hg : ∀ (s : Shared) (H : Hp) (C : Addr) (cl : List (Str × Addr)) (fp : List Addr) (J' : Jx), JB J J' → PG (X.blk s H scope (compEnvC scope cl C X.env) fp) tg (tG J' vs g))
    (ht : ∀ (s : Shared) (H : Hp) (C : Addr) (cl : List (Str × Addr)) (fp : List Addr) (J' : Jx), JB J J' → PTs (X.blk s H scope (compEnvC scope cl C X.env) fp) ifs (tT J' ft))
    (he : ∀ (s : Shared) (H : Hp) (C : Addr) (cl : List (Str × Addr)) (fp : List Addr) (J' : Jx), JB J J' → PE (X.blk s H scope (compEnvC scope cl C X.env) fp) elt (tE J' fe)) (hs : ∀ x, foldedSetIterable iter X.env x = pure x := by intro _; rfl)
    (hy : X.N[i]? = some y := by rfl) (hyl : X.env.scope.names.lookup y = some .local := by rfl) : PS X (.Assign [.Name y py] (.ListComp elt [⟨tg, iter, ifs, 0⟩] scope pos) spos) (tS J (sasg i (lcomp fi g ft fe vs))) := by
  subst hvs
  refine PSi (ps_setLc hc hN hy hyl hsw hi bk (fun s H C cl fp => gx_of fun J' b => hg s H C cl fp J' b) (fun s H C cl fp => tx_of fun J' b => ht s H C cl fp J' b) (fun s H C cl fp => ex_of fun J' b => he s H C cl fp J' b) hs) fun E σ H h => ?_
  obtain ⟨M, r, I, h⟩ := h
  refine lc_read ok σ H _ ⟨M, r, I, Out.s h fun d r1 v M1 H1 st1 I1 ⟨a, ev, m, ow, n0, h0, fl⟩ h1 => ?_⟩
  subst ev
  have I2 := I1.freeze n0 fl
  exact h1 _ _ H1 (Step.freeze a) (I2.set ((ow.step (Step.freeze a) I1.md rfl).rep fun z => z.2 rfl))
end
end DL

set_option Elab.async false
set_option linter.all false
set_option maxRecDepth 100000
set_option maxHeartbeats 4000000
namespace DL
open PySem L2

/-! ### built-ins of one argument -/
def gAbs : D → Option D
  | .int i => some (.int (if i < 0 then -i else i))
  | _ => none
def gToInt : D → Option D
  | .int i => some (.int i)
  | .bl b => some (.int (if b then 1 else 0))
  | _ => none
theorem RepL.ints {G : Gm} {M : Addr → Prop} {H : Hp} : ∀ {ns : List Int}, RepL G M H (ns.map D.int) (ns.map V.int)
  | [] => rfl
  | n :: ns => ⟨_, _, rfl, rfl, RepL.ints⟩
def toInts : List D → Option (List Int)
  | [] => some []
  | .int i :: ds => (toInts ds).map (i :: ·)
  | _ => none
def toBls : List D → Option (List Bool)
  | [] => some []
  | .bl i :: ds => (toBls ds).map (i :: ·)
  | _ => none
theorem toInts_rep {G : Gm} {M : Addr → Prop} {H : Hp} : ∀ {ds : List D} {vs : List V} {ns : List Int}, toInts ds = some ns → RepL G M H ds vs → vs = ns.map V.int
  | [], _, _, e, h => by cases e; cases h; rfl
  | .int i :: ds, _, _, e, ⟨v, ws, ev, rv, r⟩ => by
    cases e1 : toInts ds with
    | none => simp [toInts, e1] at e
    | some ms =>
      simp only [toInts, e1, Option.map_some, Option.some.injEq] at e
      subst e; subst ev; cases rv
      rw [toInts_rep e1 r]; rfl
theorem toBls_rep {G : Gm} {M : Addr → Prop} {H : Hp} : ∀ {ds : List D} {vs : List V} {ns : List Bool}, toBls ds = some ns → RepL G M H ds vs → vs = ns.map V.bl
  | [], _, _, e, h => by cases e; cases h; rfl
  | .bl i :: ds, _, _, e, ⟨v, ws, ev, rv, r⟩ => by
    cases e1 : toBls ds with
    | none => simp [toBls, e1] at e
    | some ms =>
      simp only [toBls, e1, Option.map_some, Option.some.injEq] at e
      subst e; subst ev; cases rv
      rw [toBls_rep e1 r]; rfl
@[simp] theorem toInts_map : ∀ ns : List Int, toInts (ns.map D.int) = some ns
  | [] => rfl
  | n :: ns => by show (toInts (ns.map D.int)).map (n :: ·) = _; rw [toInts_map ns]; rfl
@[simp] theorem toBls_map : ∀ ns : List Bool, toBls (ns.map D.bl) = some ns
  | [] => rfl
  | n :: ns => by show (toBls (ns.map D.bl)).map (n :: ·) = _; rw [toBls_map ns]; rfl
/-- the greatest, the least of whole numbers -/
def maxL : List Int → Int
  | [] => 0
  | [n] => n
  | n :: ns => max n (maxL ns)
def minL : List Int → Int
  | [] => 0
  | [n] => n
  | n :: ns => min n (minL ns)
theorem maxL_spec : ∀ {ns : List Int} {m : Int}, m ∈ ns → (∀ y ∈ ns, y ≤ m) → maxL ns = m
  | [n], m, h, _ => by simp at h; subst h; rfl
  | n :: k :: ns, m, h, hm => by
    show max n (maxL (k :: ns)) = m
    by_cases e : m ∈ k :: ns
    · rw [maxL_spec e fun y hy => hm y (List.mem_cons_of_mem _ hy)]
      have := hm n List.mem_cons_self
      omega
    · have hn : m = n := by rcases List.mem_cons.mp h with z | z
                            · exact z
                            · exact absurd z e
      subst hn
      have le : ∀ (l : List Int), l ≠ [] → (∀ y ∈ l, y ≤ m) → maxL l ≤ m := by
        intro l
        induction l with
        | nil => intro z; exact absurd rfl z
        | cons a l ih =>
          intro _ hl
          cases l with
          | nil => exact hl a List.mem_cons_self
          | cons b l =>
            have h1 := hl a List.mem_cons_self
            have h2 := ih (by simp) fun y hy => hl y (List.mem_cons_of_mem _ hy)
            show max a (maxL (b :: l)) ≤ m
            omega
      have := le (k :: ns) (by simp) fun y hy => hm y (List.mem_cons_of_mem _ hy)
      omega
theorem minL_spec : ∀ {ns : List Int} {m : Int}, m ∈ ns → (∀ y ∈ ns, m ≤ y) → minL ns = m
  | [n], m, h, _ => by simp at h; subst h; rfl
  | n :: k :: ns, m, h, hm => by
    show min n (minL (k :: ns)) = m
    by_cases e : m ∈ k :: ns
    · rw [minL_spec e fun y hy => hm y (List.mem_cons_of_mem _ hy)]
      have := hm n List.mem_cons_self
      omega
    · have hn : m = n := by rcases List.mem_cons.mp h with z | z
                            · exact z
                            · exact absurd z e
      subst hn
      have le : ∀ (l : List Int), l ≠ [] → (∀ y ∈ l, m ≤ y) → m ≤ minL l := by
        intro l
        induction l with
        | nil => intro z; exact absurd rfl z
        | cons a l ih =>
          intro _ hl
          cases l with
          | nil => exact hl a List.mem_cons_self
          | cons b l =>
            have h1 := hl a List.mem_cons_self
            have h2 := ih (by simp) fun y hy => hl y (List.mem_cons_of_mem _ hy)
            show m ≤ min a (minL (b :: l))
            omega
      have := le (k :: ns) (by simp) fun y hy => hm y (List.mem_cons_of_mem _ hy)
      omega
def gSum : D → Option D
  | .lst xs => (toInts xs).map fun ns => .int ns.sum
  | _ => none
def gMax : D → Option D
  | .lst xs => (toInts xs).bind fun ns => if ns = [] then none else some (.int (maxL ns))
  | _ => none
def gMin : D → Option D
  | .lst xs => (toInts xs).bind fun ns => if ns = [] then none else some (.int (minL ns))
  | _ => none
def gAll : D → Option D
  | .lst xs => (toBls xs).map fun ns => .bl (ns.all id)
  | _ => none
def gAny : D → Option D
  | .lst xs => (toBls xs).map fun ns => .bl (ns.any id)
  | _ => none
/-- list(x) -/
def gList : D → Option (List D)
  | .lst xs => some xs
  | .tup xs => some xs
  | .scr ns => some (ns.map .int)
  | _ => none
def gTuple : D → Option D
  | .lst xs => some (.tup xs)
  | .tup xs => some (.tup xs)
  | .scr ns => some (.tup (ns.map .int))
  | _ => none
theorem od_abs {G : Gm} : C1D G (fun xs H Q => ∃ i, xs = [.int i] ∧ Q (.int (if i < 0 then -i else i)) H) gAbs := by
  intro M H x vx d Q md e rx q
  unfold gAbs at e
  split at e
  · cases e; cases rx.int; exact ⟨_, rfl, q _ H (fun _ _ h => h) rfl⟩
  · cases e
theorem od_toInt {G : Gm} : C1D G (fun xs H Q => (∃ i, xs = [.int i] ∧ Q (.int i) H) ∨ ∃ k, xs = [.bl k] ∧ Q (.int (if k then 1 else 0)) H) gToInt := by
  intro M H x vx d Q md e rx q
  unfold gToInt at e
  split at e
  · cases e; cases rx.int; exact .inl ⟨_, rfl, q _ H (fun _ _ h => h) rfl⟩
  · cases e; cases rx.bl; exact .inr ⟨_, rfl, q _ H (fun _ _ h => h) rfl⟩
  · cases e
theorem od_sum {G : Gm} : C1D G (rSum G.K) gSum := by
  intro M H x vx d Q md e rx q
  unfold gSum at e
  split at e
  · rw [Option.map_eq_some_iff] at e
    obtain ⟨ns, en, rfl⟩ := e
    obtain ⟨a, vs, rfl, ha, r⟩ := rx.lst
    have z := toInts_rep en r
    subst z
    exact ⟨a, ns, rfl, SqL.of ha, q _ H (fun _ _ h => h) rfl⟩
  · cases e
theorem od_max {G : Gm} : C1D G (rMax G.K) gMax := by
  intro M H x vx d Q md e rx q
  unfold gMax at e
  split at e
  · rw [Option.bind_eq_some_iff] at e
    obtain ⟨ns, en, e⟩ := e
    split at e
    · cases e
    · rename_i hne
      cases e
      obtain ⟨a, vs, rfl, ha, r⟩ := rx.lst
      have z := toInts_rep en r
      subst z
      exact ⟨a, ns, rfl, SqL.of ha, List.length_pos_iff.mpr hne, fun m hm hle => by rw [maxL_spec hm hle] at q; exact q _ H (fun _ _ h => h) rfl⟩
  · cases e
theorem od_min {G : Gm} : C1D G (rMin G.K) gMin := by
  intro M H x vx d Q md e rx q
  unfold gMin at e
  split at e
  · rw [Option.bind_eq_some_iff] at e
    obtain ⟨ns, en, e⟩ := e
    split at e
    · cases e
    · rename_i hne
      cases e
      obtain ⟨a, vs, rfl, ha, r⟩ := rx.lst
      have z := toInts_rep en r
      subst z
      exact ⟨a, ns, rfl, SqL.of ha, List.length_pos_iff.mpr hne, fun m hm hle => by rw [minL_spec hm hle] at q; exact q _ H (fun _ _ h => h) rfl⟩
  · cases e
theorem od_all {G : Gm} : C1D G (rAll G.K) gAll := by
  intro M H x vx d Q md e rx q
  unfold gAll at e
  split at e
  · rw [Option.map_eq_some_iff] at e
    obtain ⟨ns, en, rfl⟩ := e
    obtain ⟨a, vs, rfl, ha, r⟩ := rx.lst
    have z := toBls_rep en r
    subst z
    exact ⟨a, ns, rfl, SqL.of ha, q _ H (fun _ _ h => h) rfl⟩
  · cases e
theorem od_any {G : Gm} : C1D G (rAny G.K) gAny := by
  intro M H x vx d Q md e rx q
  unfold gAny at e
  split at e
  · rw [Option.map_eq_some_iff] at e
    obtain ⟨ns, en, rfl⟩ := e
    obtain ⟨a, vs, rfl, ha, r⟩ := rx.lst
    have z := toBls_rep en r
    subst z
    exact ⟨a, ns, rfl, SqL.of ha, q _ H (fun _ _ h => h) rfl⟩
  · cases e
theorem od_list {G : Gm} : C1N G (fun xs H Q => ∃ p ys, xs = [.ref p] ∧ (SqL G.K H p ys ∨ SqT G.K H p ys) ∧ ∀ l, H l = none → Q (.ref l) (upd H l (.lst ys))) gList := by
  intro M H x vx ds Q md e rx q
  unfold gList at e
  split at e
  · cases e
    obtain ⟨a, vs, rfl, ha, r⟩ := rx.lst
    exact ⟨a, vs, rfl, .inl (SqL.of ha), fun l hl => q l vs hl r⟩
  · cases e
    obtain ⟨a, vs, rfl, ha, r⟩ := rx.tup
    exact ⟨a, vs, rfl, .inr ha, fun l hl => q l vs hl r⟩
  · cases e
    obtain ⟨a, rfl, ha⟩ := rx.scr
    exact ⟨a, _, rfl, .inl ha, fun l hl => q l _ hl .ints⟩
  · cases e
theorem od_tuple {G : Gm} : C1D G (fun xs H Q => ∃ p ys, xs = [.ref p] ∧ ((SqL G.K H p ys ∧ ∀ l, H l = none → Q (.ref l) (upd H l (.tup ys))) ∨ (SqT G.K H p ys ∧ Q (.ref p) H))) gTuple := by
  intro M H x vx d Q md e rx q
  unfold gTuple at e
  split at e
  · cases e
    obtain ⟨a, vs, rfl, ha, r⟩ := rx.lst
    exact ⟨a, vs, rfl, .inl ⟨SqL.of ha, fun l hl => q _ _ (ext_new hl) (Rep.newTup hl md r)⟩⟩
  · cases e
    obtain ⟨a, vs, rfl, ha, r⟩ := rx.tup
    exact ⟨a, vs, rfl, .inr ⟨ha, q _ H (fun _ _ h => h) ⟨a, vs, rfl, ha, r⟩⟩⟩
  · cases e
    obtain ⟨a, rfl, ha⟩ := rx.scr
    exact ⟨a, _, rfl, .inl ⟨ha, fun l hl => q _ _ (ext_new hl) (Rep.newTup hl md .ints)⟩⟩
  · cases e
section
variable {X : Cx} {J : Jx} {e : Expr} {f : List Sl → RE D} {p pos : Pos}
theorem e_abs (hx : Gl X "abs") (hm : X.mg "abs" = none) (he : PE X e (tB J f)) (hs : starEach [e] X.env = (false, eval e X.env) :: starEach [] X.env := by rfl) (hpl : (backTo pos (starEach [] X.env)).any (·.1) = false := by rfl) : PE X (.Call (.Name "abs" p) [e] [] pos) (tE J (un gAbs f)) :=
  e_call1 call_abs od_abs hx hm (by decide +kernel) he hs (by decide) (by decide) hpl
theorem e_toInt (hx : Gl X "int") (hm : X.mg "int" = none) (he : PE X e (tB J f)) (hs : starEach [e] X.env = (false, eval e X.env) :: starEach [] X.env := by rfl) (hpl : (backTo pos (starEach [] X.env)).any (·.1) = false := by rfl) : PE X (.Call (.Name "int" p) [e] [] pos) (tE J (un gToInt f)) :=
  e_callT1 call_int1 od_toInt hx hm (by decide +kernel) he hs (by decide) (by decide) hpl
theorem e_sum (hK : X.K = J.G.K) (hc : X.calm = true) (hx : Gl X "sum") (hm : X.mg "sum" = none) (he : PE X e (tB J f)) (hs : starEach [e] X.env = (false, eval e X.env) :: starEach [] X.env := by rfl) (hpl : (backTo pos (starEach [] X.env)).any (·.1) = false := by rfl) : PE X (.Call (.Name "sum" p) [e] [] pos) (tE J (un gSum f)) :=
  e_call1 (cr_sum hc) (hK ▸ od_sum) hx hm (by decide +kernel) he hs (by decide) (by decide) hpl
theorem e_max (hK : X.K = J.G.K) (hc : X.calm = true) (hx : Gl X "max") (hm : X.mg "max" = none) (he : PE X e (tB J f)) (hs : starEach [e] X.env = (false, eval e X.env) :: starEach [] X.env := by rfl) (hpl : (backTo pos (starEach [] X.env)).any (·.1) = false := by rfl) : PE X (.Call (.Name "max" p) [e] [] pos) (tE J (un gMax f)) :=
  e_call1 (cr_max hc) (hK ▸ od_max) hx hm (by decide +kernel) he hs (by decide) (by decide) hpl
theorem e_min (hK : X.K = J.G.K) (hc : X.calm = true) (hx : Gl X "min") (hm : X.mg "min" = none) (he : PE X e (tB J f)) (hs : starEach [e] X.env = (false, eval e X.env) :: starEach [] X.env := by rfl) (hpl : (backTo pos (starEach [] X.env)).any (·.1) = false := by rfl) : PE X (.Call (.Name "min" p) [e] [] pos) (tE J (un gMin f)) :=
  e_call1 (cr_min hc) (hK ▸ od_min) hx hm (by decide +kernel) he hs (by decide) (by decide) hpl
theorem e_all (hK : X.K = J.G.K) (hc : X.calm = true) (hx : Gl X "all") (hm : X.mg "all" = none) (he : PE X e (tB J f)) (hs : starEach [e] X.env = (false, eval e X.env) :: starEach [] X.env := by rfl) (hpl : (backTo pos (starEach [] X.env)).any (·.1) = false := by rfl) : PE X (.Call (.Name "all" p) [e] [] pos) (tE J (un gAll f)) :=
  e_call1 (cr_all hc) (hK ▸ od_all) hx hm (by decide +kernel) he hs (by decide) (by decide) hpl
theorem e_any (hK : X.K = J.G.K) (hc : X.calm = true) (hx : Gl X "any") (hm : X.mg "any" = none) (he : PE X e (tB J f)) (hs : starEach [e] X.env = (false, eval e X.env) :: starEach [] X.env := by rfl) (hpl : (backTo pos (starEach [] X.env)).any (·.1) = false := by rfl) : PE X (.Call (.Name "any" p) [e] [] pos) (tE J (un gAny f)) :=
  e_call1 (cr_any hc) (hK ▸ od_any) hx hm (by decide +kernel) he hs (by decide) (by decide) hpl
theorem n_list (hK : X.K = J.G.K) (hx : Gl X "list") (hm : X.mg "list" = none) (he : PE X e (tB J f)) (hs : starEach [e] X.env = (false, eval e X.env) :: starEach [] X.env := by rfl) (hpl : (backTo pos (starEach [] X.env)).any (·.1) = false := by rfl) : PE X (.Call (.Name "list" p) [e] [] pos) (tN J (unN gList f)) :=
  n_callT1 call_list_of (hK ▸ od_list) hx hm (by decide +kernel) he hs (by decide) (by decide) hpl
theorem e_tuple (hK : X.K = J.G.K) (hx : Gl X "tuple") (hm : X.mg "tuple" = none) (he : PE X e (tB J f)) (hs : starEach [e] X.env = (false, eval e X.env) :: starEach [] X.env := by rfl) (hpl : (backTo pos (starEach [] X.env)).any (·.1) = false := by rfl) : PE X (.Call (.Name "tuple" p) [e] [] pos) (tE J (un gTuple f)) :=
  e_callT1 call_tuple_of (hK ▸ od_tuple) hx hm (by decide +kernel) he hs (by decide) (by decide) hpl
end

/-! ### isinstance -/
def tyD : D → Option String
  | .non => some "NoneType"
  | .bl _ => some "bool"
  | .int _ => some "int"
  | .str _ => some "str"
  | .tup _ => some "tuple"
  | .lst _ => some "list"
  | .dct _ _ => some "dict"
  | .scr _ => some "list"
  | _ => none
def isa (t T : String) : Bool := t == T || (t == "bool" && T == "int")
def gIsi (T : String) (d : D) : Option D := (tyD d).map fun t => .bl (isa t T)
def gIsi2 (T U : String) (d : D) : Option D := (tyD d).map fun t => .bl (isa t T || isa t U)
def tyAll : List String := ["NoneType", "bool", "int", "str", "tuple", "list", "dict"]
def KnowsTy (T : String) : Prop := ∀ t ∈ tyAll, kitB t T = some (isa t T)
theorem kt_int : KnowsTy "int" := by unfold KnowsTy tyAll isa; decide +kernel
theorem kt_bool : KnowsTy "bool" := by unfold KnowsTy tyAll isa; decide +kernel
theorem kt_str : KnowsTy "str" := by unfold KnowsTy tyAll isa; decide +kernel
theorem kt_tuple : KnowsTy "tuple" := by unfold KnowsTy tyAll isa; decide +kernel
theorem kt_list : KnowsTy "list" := by unfold KnowsTy tyAll isa; decide +kernel
theorem kt_dict : KnowsTy "dict" := by unfold KnowsTy tyAll isa; decide +kernel
theorem tyD_mem {d : D} {t : String} (h : tyD d = some t) : t ∈ tyAll := by
  cases d <;> simp [tyD] at h <;> subst h <;> decide
theorem SqL.tyx {K : PySem.W.Frag} {H : Hp} {a : Addr} {vs : List V} (h : SqL K H a vs) : TyX K H (.ref a) (.type "list") := by
  rcases h with (h | ⟨o, h⟩) | ⟨o, its, n, h, hc, _⟩
  · exact .base (.lst h)
  · exact .base (.frz h)
  · exact .kList h hc
theorem SqT.tyx {K : PySem.W.Frag} {H : Hp} {a : Addr} {vs : List V} (h : SqT K H a vs) : TyX K H (.ref a) (.type "tuple") := by
  rcases h with (h | ⟨o, h⟩) | ⟨o, its, n, h, hc, _⟩
  · exact .base (.tup h)
  · exact .fTuple h
  · exact .kTuple h hc
theorem DictIs.tyx {K : PySem.W.Frag} {H : Hp} {a : Addr} {ks : List D} {vs : List V} (h : DictIs H a ks vs) : TyX K H (.ref a) (.type "dict") := by
  rcases h with ⟨kvs, h, _⟩ | ⟨kvs, h, _⟩
  · exact .base (.dK h)
  · exact .base (.dT h)
theorem tyx_of {G : Gm} {M : Addr → Prop} {H : Hp} {d : D} {v : V} {t : String} (h : tyD d = some t) (r : RepB G M H d v) : TyX G.K H v (.type t) := by
  cases d with
  | non => cases h; cases r.non; exact .base .non
  | bl b => cases h; cases r.bl; exact .base (.bl b)
  | int i => cases h; cases r.int; exact .base (.int i)
  | str s => cases h; cases r.str; exact .base (.str s)
  | tup xs => cases h; obtain ⟨a, vs, rfl, ha, _⟩ := r.tup; exact SqT.tyx ha
  | lst xs => cases h; obtain ⟨a, vs, rfl, ha, _⟩ := r.lst; exact SqL.tyx (SqL.of ha)
  | dct ks ds => cases h; obtain ⟨a, vs, rfl, ha, _⟩ := r.dct; exact ha.tyx
  | scr ns => cases h; obtain ⟨a, rfl, ha⟩ := r.scr; exact SqL.tyx ha
  | ob _ _ _ => cases h
  | fn _ => cases h
theorem TyX.ext {K : PySem.W.Frag} {H H' : Hp} (ex : Extn H H') {v : V} {t : Value} (h : TyX K H v t) : TyX K H' v t := by
  cases h with
  | base b => exact .base (by
      cases b with
      | non => exact .non
      | bl x => exact .bl x
      | int i => exact .int i
      | str x => exact .str x
      | flt x => exact .flt x
      | lst e => exact .lst (ex _ _ e)
      | frz e => exact .frz (ex _ _ e)
      | tup e => exact .tup (ex _ _ e)
      | dK e => exact .dK (ex _ _ e)
      | dT e => exact .dT (ex _ _ e)
      | ins e c1 c2 c3 c4 c5 => exact .ins (ex _ _ e) c1 c2 c3 c4 c5)
  | byt b => exact .byt b
  | set e => exact .set (ex _ _ e)
  | kList e c => exact .kList e c
  | kTuple e c => exact .kTuple e c
  | kDict e c => exact .kDict e c
  | fTuple e => exact .fTuple (ex _ _ e)
  | fDict e => exact .fDict (ex _ _ e)
section
variable {X : Cx} {J : Jx} {e : Expr} {f : List Sl → RE D} {p q q2 tp pos : Pos} {T U : String} {x y : Str}
theorem pe_tyN (hg : Gl X x) (hm : X.mg x = none) (hv : bootBuiltins x = some (.type T)) (hn : x ≠ "__name__" := by decide) (hd : (x == ("__debug__" : Str)) = false := by decide) : PE X (.Name x q) (tC (.ty T)) :=
  ⟨fun pins s σ H Q I h => ld_blt I hg hm hv ⟨.ty T, H, I, rfl, h⟩ hn hd⟩
theorem e_isi (hK : X.K = J.G.K) (kt : KnowsTy T) (hx : Gl X "isinstance") (hm : X.mg "isinstance" = none) (he : PE X e (tB J f)) (hg : Gl X x) (hmx : X.mg x = none) (hv : bootBuiltins x = some (.type T))
    (hs : starEach [e, .Name x q] X.env = (false, eval e X.env) :: starEach [.Name x q] X.env := by rfl) (hs2 : starEach [.Name x q] X.env = (false, eval (.Name x q) X.env) :: starEach [] X.env := by rfl) (hpl : (backTo pos (starEach [.Name x q] X.env)).any (·.1) = false := by rfl)
    (hn : x ≠ "__name__" := by decide) (hd : (x == ("__debug__" : Str)) = false := by decide) :
    PE X (.Call (.Name "isinstance" p) [e, .Name x q] [] pos) (tE J (un (gIsi T) f)) :=
  PEi (pe_callB call_isi hx hm PyProof.Rows.boot_isinstance (pa_cons he (pa_cons (pe_tyN hg hmx hv hn hd) pa_nil hs2) hs) (by decide) (by decide) hs hpl) fun σ H Q ⟨M, r, I, h⟩ => ⟨M, r, I, Out.bind h fun d r1 v M1 H1 st1 I1 rd1 h1 => by
    show rIsi X.K [v, .ty T] H1 Q
    unfold gIsi at h1
    cases et : tyD d with
    | none => rw [et] at h1; exact h1.elim
    | some t =>
      rw [et] at h1
      exact ⟨v, .ty T, .type t, .type T, isa t T, rfl, .ty T, hK ▸ tyx_of et rd1, kit_ty (kt t (tyD_mem et)), h1 _ M1 H1 Step.refl I1 rfl⟩⟩
theorem e_isi2 {k : Nat} (hK : X.K = J.G.K) (kt : KnowsTy T) (ku : KnowsTy U) (hx : Gl X "isinstance") (hm : X.mg "isinstance" = none) (he : PE X e (tB J f)) (hg : Gl X x) (hmx : X.mg x = none) (hv : bootBuiltins x = some (.type T)) (hgy : Gl X y) (hmy : X.mg y = none) (hvy : bootBuiltins y = some (.type U))
    (hs : starEach [e, .Tuple [.Name x q, .Name y q2] k tp] X.env = (false, eval e X.env) :: starEach [.Tuple [.Name x q, .Name y q2] k tp] X.env := by rfl) (hs2 : starEach [.Tuple [.Name x q, .Name y q2] k tp] X.env = (false, eval (.Tuple [.Name x q, .Name y q2] k tp) X.env) :: starEach [] X.env := by rfl) (hpl : (backTo pos (starEach [.Tuple [.Name x q, .Name y q2] k tp] X.env)).any (·.1) = false := by rfl)
    (hs3 : starEach [.Name x q, .Name y q2] X.env = (false, eval (.Name x q) X.env) :: starEach [.Name y q2] X.env := by rfl) (hs4 : starEach [.Name y q2] X.env = (false, eval (.Name y q2) X.env) :: starEach [] X.env := by rfl)
    (hn : x ≠ "__name__" := by decide) (hd : (x == ("__debug__" : Str)) = false := by decide) (hny : y ≠ "__name__" := by decide) (hdy : (y == ("__debug__" : Str)) = false := by decide) :
    PE X (.Call (.Name "isinstance" p) [e, .Tuple [.Name x q, .Name y q2] k tp] [] pos) (tE J (un (gIsi2 T U) f)) :=
  PEi (pe_callB call_isiT hx hm PyProof.Rows.boot_isinstance (pa_cons he (pa_cons (pe_tup (pa_cons (pe_tyN hg hmx hv hn hd) (pa_cons (pe_tyN hgy hmy hvy hny hdy) pa_nil hs4) hs3)) pa_nil hs2) hs) (by decide) (by decide) hs hpl) fun σ H Q ⟨M, r, I, h⟩ => ⟨M, r, I, Out.bind h fun d r1 v M1 H1 st1 I1 rd1 h1 => by
    refine ⟨by show 2 ≤ sizeLine; rw [sizeLine_eq]; omega, fun a ha => ?_⟩
    show rIsiT X.K [v, .ref a] (upd H1 a (.tup [.ty T, .ty U])) Q
    unfold gIsi2 at h1
    cases et : tyD d with
    | none => rw [et] at h1; exact h1.elim
    | some t =>
      rw [et] at h1
      refine ⟨v, a, _, .type t, _, isa t T || isa t U, rfl, upd_same, .cons (.ty T) (.cons (.ty U) .nil), TyX.ext (ext_new ha) (hK ▸ tyx_of et rd1), ?_, h1 _ M1 _ (Step.ext (ext_new ha)) (I1.ext (ext_new ha)) rfl⟩
      refine kitAny_cons (kit_ty (kt t (tyD_mem et))) (fun e0 => ?_) (fun e0 => by rw [e0]; rfl)
      rw [e0, Bool.false_or]
      refine kitAny_cons (kit_ty (ku t (tyD_mem et))) (fun e1 => ?_) (fun e1 => e1)
      rw [e1]
      rfl⟩
end

/-! ### methods of an owned list -/
def isLst (i : Nat) (r : List Sl) : Bool := match r[i]? with
  | some (.own (.lst _)) => true
  | some (.io (.lst _)) => true
  | _ => false
def mutl (i : Nat) (g : D → List D → Option (D × D)) (fs : List Sl → RE (List D)) : List Sl → RE D := fun r => if isLst i r = true then mutm i g fs r else .bad
theorem mutl_core {K : PySem.W.Frag} {J : Jx} {r : V → List V → Hp → VK → Prop} {g : D → List D → Option (D × D)} {i : Nat} {fs : List Sl → RE (List D)} (hr : OwnM J.G r g) (σ : St) (H : Hp) (Q : VK) (h : tE J (mutl i g fs) σ H Q) : tBM K "list" r (tVar i) (tA J fs) σ H Q := by
  obtain ⟨M, r0, I, h⟩ := h
  unfold mutl at h
  split at h
  · rename_i hl
    obtain ⟨v, ev, _, q⟩ := mut_core hr σ H Q ⟨M, r0, I, h⟩
    refine ⟨v, ev, ?_, q⟩
    unfold isLst at hl
    split at hl
    · rename_i xs es
      obtain ⟨a, ea, _, ⟨vs, ha, _⟩, _⟩ := I.slot i _ es
      rw [ev] at ea; cases ea
      exact .inl ⟨rfl, vs, SqL.of ha⟩
    · rename_i xs es
      obtain ⟨a, ea, _, ⟨vs, ha, _⟩, _⟩ := I.slot i _ es
      rw [ev] at ea; cases ea
      exact .inl ⟨rfl, vs, SqL.of ha⟩
    · cases hl
  · exact h.elim
theorem kp_upd {H : Hp} {a : Addr} {o : HO} : ∀ b u, H b = some u → b ≠ a → upd H a o b = some u := fun b u h n => by rw [upd_ne n]; exact h
theorem Step.at {M : Addr → Prop} {H : Hp} {a : Addr} {o : HO} (m : M a) : Step M H M (upd H a o) := ⟨fun b u h n => by rw [upd_ne (by rintro rfl; exact n m)]; exact h, fun b h => .inl h⟩
def gAppend : D → List D → Option (D × D)
  | .lst xs, [d] => if xs.length < LIM then some (.non, .lst (xs ++ [d])) else none
  | _, _ => none
def gInsert : D → List D → Option (D × D)
  | .lst xs, [.int i, d] => if xs.length < LIM ∧ 0 ≤ i ∧ small i = true then some (.non, .lst (xs.take i.toNat ++ [d] ++ xs.drop i.toNat)) else none
  | _, _ => none
def gPop : D → List D → Option (D × D)
  | .lst xs, [] => xs.getLast?.map fun d => (d, .lst xs.dropLast)
  | _, _ => none
def gPopAt : D → List D → Option (D × D)
  | .lst xs, [.int i] => if small i = true then (seqIndex? i xs.length).bind fun k => (xs[k]?).map fun d => (d, .lst (xs.eraseIdx k)) else none
  | _, _ => none
def gExtend : D → List D → Option (D × D)
  | .lst xs, [.lst ys] => if xs.length + ys.length ≤ LIM then some (.non, .lst (xs ++ ys)) else none
  | _, _ => none
theorem RepL.one {G : Gm} {M : Addr → Prop} {H : Hp} {d : D} {v : V} (r : Rep G M H d v) : RepL G M H [d] [v] := ⟨v, [], rfl, r, rfl⟩
theorem om_append {G : Gm} : OwnM G rAppend gAppend := by
  intro M H a o ds vs res o' Q md m e own r q
  unfold gAppend at e
  split at e
  · split at e
    · rename_i hl
      cases e
      obtain ⟨ws, ha, rw1⟩ := own
      obtain ⟨v, _, rfl, rv, e2⟩ := r
      cases e2
      refine ⟨a, ws, v, rfl, rfl, ha, by rw [← rw1.length]; exact lt_size (Nat.le_of_lt hl), ?_⟩
      have st : Step M H M (upd H a (.lst (ws ++ [v]))) := Step.at m
      exact q _ _ kp_upd (md.upd trivial) ⟨_, upd_same, (RepL.step st md _ _ rw1).append ⟨v, [], rfl, Rep.step st md _ _ rv, rfl⟩⟩ rfl
    · cases e
  · cases e
theorem om_insert {G : Gm} : OwnM G (fun x vs H Q => ∃ (l : Addr) (xs : List V) (i : Int) (y : V), x = .ref l ∧ vs = [.int i, y] ∧ H l = some (.lst xs) ∧ xs.length < sizeLine ∧ 0 ≤ i ∧ i < 2 ^ 63 ∧
    Q .non (upd H l (.lst (xs.take i.toNat ++ [y] ++ xs.drop i.toNat)))) gInsert := by
  intro M H a o ds vs res o' Q md m e own r q
  unfold gInsert at e
  split at e
  · split at e
    · rename_i hl
      cases e
      obtain ⟨hl, h0, hs⟩ := hl
      have hz := small_ok hs
      obtain ⟨ws, ha, rw1⟩ := own
      obtain ⟨v0, _, rfl, rv0, v, _, rfl, rv, e2⟩ := r
      cases e2
      cases rv0
      refine ⟨a, ws, _, v, rfl, rfl, ha, by rw [← rw1.length]; exact lt_size (Nat.le_of_lt hl), h0, by omega, ?_⟩
      rename_i i _
      have st : Step M H M (upd H a (.lst (ws.take i.toNat ++ [v] ++ ws.drop i.toNat))) := Step.at m
      have rw2 := RepL.step st md _ _ rw1
      exact q _ _ kp_upd (md.upd trivial) ⟨_, upd_same, ((rw2.take _).append (RepL.one (Rep.step st md _ _ rv))).append (rw2.drop _)⟩ rfl
    · cases e
  · cases e
theorem RepL.dropLast {G : Gm} {M : Addr → Prop} {H : Hp} {ds : List D} {vs : List V} (h : RepL G M H ds vs) : RepL G M H ds.dropLast vs.dropLast := by
  rw [List.dropLast_eq_take, List.dropLast_eq_take, ← h.length]; exact h.take _
theorem RepL.eraseIdx {G : Gm} {M : Addr → Prop} {H : Hp} {ds : List D} {vs : List V} (k : Nat) (h : RepL G M H ds vs) : RepL G M H (ds.eraseIdx k) (vs.eraseIdx k) := by
  rw [List.eraseIdx_eq_take_drop_succ, List.eraseIdx_eq_take_drop_succ]; exact (h.take _).append (h.drop _)
theorem om_pop {G : Gm} : OwnM G rPop gPop := by
  intro M H a o ds vs res o' Q md m e own r q
  unfold gPop at e
  split at e
  · rw [Option.map_eq_some_iff] at e
    obtain ⟨d, ed, e⟩ := e
    cases e
    obtain ⟨ws, ha, rw1⟩ := own
    cases r
    rw [List.getLast?_eq_getElem?] at ed
    obtain ⟨v, hv, rv⟩ := rw1.get ed
    refine ⟨a, ws, v, rfl, rfl, ha, by rw [← rw1.length]; exact hv, ?_⟩
    have st : Step M H M (upd H a (.lst ws.dropLast)) := Step.at m
    exact q _ _ kp_upd (md.upd trivial) ⟨_, upd_same, (RepL.step st md _ _ rw1).dropLast⟩ (Rep.step st md _ _ rv)
  · cases e
theorem om_popAt {G : Gm} : OwnM G rPopAt gPopAt := by
  intro M H a o ds vs res o' Q md m e own r q
  unfold gPopAt at e
  split at e
  · split at e
    · rename_i hs
      rw [Option.bind_eq_some_iff] at e
      obtain ⟨k, ek, e⟩ := e
      rw [Option.map_eq_some_iff] at e
      obtain ⟨d, ed, e⟩ := e
      cases e
      have hz := small_ok hs
      obtain ⟨ws, ha, rw1⟩ := own
      obtain ⟨v0, _, rfl, rv0, e2⟩ := r
      cases e2
      cases rv0
      obtain ⟨v, hv, rv⟩ := rw1.get ed
      refine ⟨a, ws, _, k, v, rfl, rfl, ha, by omega, by omega, by rw [← rw1.length]; exact ek, hv, ?_⟩
      have st : Step M H M (upd H a (.lst (ws.eraseIdx k))) := Step.at m
      exact q _ _ kp_upd (md.upd trivial) ⟨_, upd_same, (RepL.step st md _ _ rw1).eraseIdx k⟩ (Rep.step st md _ _ rv)
    · cases e
  · cases e
theorem om_extend {G : Gm} : OwnM G rExtend gExtend := by
  intro M H a o ds vs res o' Q md m e own r q
  unfold gExtend at e
  split at e
  · split at e
    · rename_i hl
      cases e
      obtain ⟨ws, ha, rw1⟩ := own
      obtain ⟨v, _, rfl, ⟨b, us, rfl, nb, hb, ru⟩, e2⟩ := r
      cases e2
      refine ⟨a, b, ws, us, rfl, rfl, ha, hb, by rw [← rw1.length, ← ru.length]; exact le_size hl, ?_⟩
      have st : Step M H M (upd H a (.lst (ws ++ us))) := Step.at m
      exact q _ _ kp_upd (md.upd trivial) ⟨_, upd_same, (RepL.step st md _ _ rw1).append (RepL.step st md _ _ ru)⟩ rfl
    · cases e
  · cases e
section
variable {X : Cx} {J : Jx} {e : Expr} {es : List Expr} {f : List Sl → RE D} {fs : List Sl → RE (List D)} {p apos cpos : Pos} {x name : Str} {id : String}
theorem e_lm {r : V → List V → Hp → VK → Prop} {g : D → List D → Option (D × D)} (i : Nat) (slot : Slot "list" name id) (hty : typeOf (.builtin id) = pure (.type "method_descriptor")) (hm : MtR X id r) (hr : OwnM J.G r g) (ha : PA X (e :: es) (tA J fs))
    (hN : X.N[i]? = some x := by rfl) (hv : Vis X.env.scope x := by first | exact Or.inl rfl | exact Or.inr (Or.inl rfl) | exact Or.inr (Or.inr rfl)) (hd : (x == ("__debug__" : Str)) = false := by decide) (hcd : (x == ("__classdict__" : Str)) = false := by decide)
    (hbase : attributeBase (.Name x p) name X.env (eval (.Name x p) X.env) = eval (.Name x p) X.env := by rfl)
    (hfew : ((backTo cpos (starEach (e :: es) X.env)).all (fun x => !x.1) && (backToKw cpos (keywordEach [] X.env)).all (fun x => x.1.isSome)
      && decide ((e :: es).length + ([] : List Keyword).length + (if ([] : List Keyword).isEmpty then 0 else 1) < 30)) = true := by rfl)
    (hline : (apos.endLine == cpos.line) = true := by rfl) (hs : starEach (e :: es) X.env = (false, eval e X.env) :: starEach es X.env := by rfl) (hplain : (backTo cpos (starEach es X.env)).any (·.1) = false := by rfl) :
    PE X (.Call (.Attribute (.Name x p) name apos) (e :: es) [] cpos) (tE J (mutl i g fs)) :=
  PEi (pe_bm (PySem.F.plainAttrs_list) slot hty hm (pe_var hN hv hd hcd) ha hbase hfew hline hs hplain) fun σ H Q h => mutl_core hr σ H Q h
end
end DL

set_option Elab.async false
set_option linter.all false
set_option maxRecDepth 100000
set_option maxHeartbeats 4000000
namespace DL
open PySem L2

/-! ### slices -/
def RO1 : List Sl → St → (Addr → Prop) → Hp → Option Int → Option Int → Prop := fun _ _ _ _ a b => b = a
abbrev tO (J : Jx) (f : List Sl → RE (Option Int)) : TO := tX J RO1 f
def pno : List Sl → RE (Option Int) := fun r => .ok none r
def psome (f : List Sl → RE D) : List Sl → RE (Option Int) := fun r => (f r).bind fun d r1 => match d with
  | .int i => .ok (some i) r1
  | _ => .bad
theorem POi {X : Cx} {e : Option Expr} {t t' : TO} (h : PO X e t) (w : ∀ σ H Q, t' σ H Q → t σ H Q) : PO X e t' := ⟨fun pins s σ H Q I q => h.run pins s σ H Q I (w σ H Q q)⟩
def cut {α : Type} (xs : List α) (lo hi : Option Int) : List α := (xs.drop (HT.sIx xs.length 0 lo)).take (HT.sIx xs.length xs.length hi - HT.sIx xs.length 0 lo)
def gSl (lo hi : Option Int) : D → Option D
  | .lst xs => some (.lst (cut xs lo hi))
  | .tup xs => some (.tup (cut xs lo hi))
  | .str z => if z.length ≤ LIM then some (.str ⟨(cut z.cps.toList lo hi).toArray⟩) else none
  | _ => none
theorem RepL.cut {G : Gm} {M : Addr → Prop} {H : Hp} {ds : List D} {vs : List V} (r : RepL G M H ds vs) (lo hi : Option Int) : RepL G M H (DL.cut ds lo hi) (cutV vs lo hi) := by
  unfold DL.cut cutV
  rw [← r.length]
  exact (r.drop _).take _
theorem cut_all {α : Type} {xs : List α} {lo hi : Option Int} (h : HT.sIx xs.length 0 lo = 0 ∧ HT.sIx xs.length xs.length hi = xs.length) : cut xs lo hi = xs := by
  unfold cut
  rw [h.1, h.2]
  simp
def rSlD (K : PySem.W.Frag) : V → Option Int → Option Int → Hp → VK → Prop := fun x lo hi H Q => rSlL K x lo hi H Q ∨ (rSlA K x lo hi H Q ∨ rSlS x lo hi H Q)
theorem sl_D {X : Cx} : SlR X (rSlD X.K) := SlR.or sl_list (SlR.or sl_tupA sl_str)
theorem od_sl {G : Gm} {M : Addr → Prop} {H : Hp} {x d : D} {vx : V} {lo hi : Option Int} {Q : VK} (md : MD M H) (e : gSl lo hi x = some d) (rx : RepB G M H x vx) (q : ∀ v H', Extn H H' → Rep G M H' d v → Q v H') : rSlD G.K vx lo hi H Q := by
  unfold gSl at e
  split at e
  · cases e
    obtain ⟨a, vs, rfl, ha, r⟩ := rx.lst
    exact .inl ⟨a, vs, rfl, SqL.of ha, fun p hp => q _ _ (ext_new hp) (Rep.newLst hp md (r.cut lo hi))⟩
  · cases e
    obtain ⟨a, vs, rfl, ha, r⟩ := rx.tup
    refine .inr (.inl ⟨a, vs, rfl, ha, fun hw => ?_, fun hn p hp => q _ _ (ext_new hp) (Rep.newTup hp md (r.cut lo hi))⟩)
    rw [← r.length] at hw
    rw [cut_all hw] at q
    exact q _ H (fun _ _ h => h) ⟨a, vs, rfl, ha, r⟩
  · split at e
    · rename_i z hl
      cases e; cases rx.str
      refine .inr (.inr ⟨z, rfl, le_size hl, q _ H (fun _ _ h => h) ?_⟩)
      show V.str _ = V.str _
      congr 1
    · cases e
  · cases e
def slc (f : List Sl → RE D) (flo fhi : List Sl → RE (Option Int)) : List Sl → RE D := fun r => (f r).bind fun x r1 => (flo r1).bind fun lo r2 => (fhi r2).bind fun hi r3 => liftO (gSl lo hi x) r3
/-- the base a name, read where it stands -/
def slcL (i : Nat) (flo fhi : List Sl → RE (Option Int)) : List Sl → RE D := fun r => if has i r then (flo r).bind fun lo r2 => (fhi r2).bind fun hi r3 => (pk i r3).bind fun x r4 => liftO (gSl lo hi x) r4 else .bad
section
variable {X : Cx} {J : Jx} {e : Expr} {lo hi : Option Expr} {f : List Sl → RE D} {flo fhi : List Sl → RE (Option Int)} {p p2 pos : Pos} {x : Str}
theorem p_none : PO X none (tO J pno) := POi po_none fun σ H Q ⟨M, r, I, h⟩ => h none M H Step.refl I rfl
theorem p_some (h : PE X e (tE J f)) : PO X (some e) (tO J (psome f)) := POi (po_some h) fun σ H Q ⟨M, r, I, q⟩ => ⟨M, r, I, Out.bind q fun d r1 v M1 H1 st1 I1 rd1 h1 => by
  cases d with
  | int i => cases rd1; exact ⟨i, rfl, h1 _ M1 H1 Step.refl I1 rfl⟩
  | _ => exact h1.elim⟩
theorem e_sl (hK : X.K = J.G.K) (he : PE X e (tE J f)) (hl : PO X lo (tO J flo)) (hh : PO X hi (tO J fhi)) : PE X (.Subscript e (.Slice lo hi none p2) pos) (tE J (slc f flo fhi)) :=
  PEi (pe_slice (hK ▸ sl_D) he hl hh) fun σ H Q ⟨M, r, I, h⟩ => ⟨M, r, I, Out.bind h fun x r1 vx M1 H1 st1 I1 rx h1 => ⟨M1, r1, I1, Out.bind h1 fun l r2 l' M2 H2 st2 I2 el h2 => ⟨M2, r2, I2, Out.bind h2 fun u r3 u' M3 H3 st3 I3 eu h3 => by
    cases el; cases eu
    cases e1 : gSl l u x with
    | none => rw [e1] at h3; exact h3.elim
    | some d => rw [e1] at h3; exact od_sl I3.md e1 (.inl (Rep.step st3 I2.md _ _ (Rep.step st2 I1.md _ _ rx))) fun v H' ex q => h3 v M3 H' (Step.ext ex) (I3.ext ex) q⟩⟩⟩
theorem e_slL (i : Nat) (hK : X.K = J.G.K) (hl : PO X lo (tO J flo)) (hh : PO X hi (tO J fhi)) (hN : X.N[i]? = some x := by rfl) (hv : Vis X.env.scope x := by first | exact Or.inl rfl | exact Or.inr (Or.inl rfl) | exact Or.inr (Or.inr rfl)) (hd : (x == ("__debug__" : Str)) = false := by decide)
    (hcd : (x == ("__classdict__" : Str)) = false := by decide) : PE X (.Subscript (.Name x p) (.Slice lo hi none p2) pos) (tE J (slcL i flo fhi)) :=
  PEi (pe_slice (hK ▸ sl_D) (pe_var hN hv hd hcd) hl hh) fun σ H Q ⟨M, r, I, h⟩ => by
    unfold slcL at h
    split at h
    · rename_i hh
      obtain ⟨v, hv⟩ := has_core I hh
      refine ⟨v, hv, M, r, I, Out.bind h fun l r2 l' M2 H2 st2 I2 el h2 => ⟨M2, r2, I2, Out.bind h2 fun u r3 u' M3 H3 st3 I3 eu h3 => ?_⟩⟩
      cases el; cases eu
      cases e : pk i r3 with
      | ok d r4 =>
        rw [e] at h3
        obtain ⟨rfl, w, hw, q⟩ := pk_core I3 e
        rw [hv] at hw
        cases hw
        have h3 : Out J (RV J) M3 H3 σ (liftO (gSl l u d) r4) Q := h3
        cases e1 : gSl l u d with
        | none => rw [e1] at h3; exact h3.elim
        | some d' => rw [e1] at h3; exact od_sl I3.md e1 q fun v H' ex q => h3 v M3 H' (Step.ext ex) (I3.ext ex) q
      | exn x r1 => unfold pk at e; split at e <;> cases e
      | bad => rw [e] at h3; exact h3.elim
    · exact h.elim

/-! ### list(range(..)) -/
def lrng (f g : List Sl → RE D) : List Sl → RE D := fun r => (f r).bind fun d r1 => (g r1).bind fun d' r2 => match d, d' with
  | .int i, .int j => if (small i && small j && decide ((j - i).toNat ≤ LIM)) = true then .ok (.lst (rngL i j)) r2 else .bad
  | _, _ => .bad
theorem rngL_rep {G : Gm} {M : Addr → Prop} {H : Hp} {a b : Int} : RepL G M H (rngL a b) (rgV a b) := by
  have e1 : rngL a b = ((List.range (b - a).toNat).map fun (i : Nat) => a + (i : Int)).map D.int := by unfold rngL; rw [List.map_map]; rfl
  have e2 : rgV a b = ((List.range (b - a).toNat).map fun (i : Nat) => a + (i : Int)).map V.int := by unfold rgV; rw [List.map_map]; rfl
  rw [e1, e2]
  exact .ints
variable {a b : Expr} {fa fb : List Sl → RE D} {p3 pos3 : Pos}
theorem n_listRg (hc : X.calm = true) (hx : Gl X "list") (hm : X.mg "list" = none) (hxr : Gl X "range") (hmr : X.mg "range" = none) (ha : PE X a (tE J fa)) (hb : PE X b (tE J fb))
    (na : starEach [a, b] X.env = (false, eval a X.env) :: starEach [b] X.env := by rfl) (nb : starEach [b] X.env = (false, eval b X.env) :: starEach [] X.env := by rfl) (hp : (backTo pos3 (starEach [b] X.env)).any (·.1) = false := by rfl)
    (ne : starEach [.Call (.Name "range" p3) [a, b] [] pos3] X.env = (false, eval (.Call (.Name "range" p3) [a, b] [] pos3) X.env) :: starEach [] X.env := by rfl) :
    PE X (.Call (.Name "list" p) [.Call (.Name "range" p3) [a, b] [] pos3] [] pos) (tN J (lrng fa fb)) :=
  PEi (pe_listRg hc hx hm (prg_2 hxr hmr ha hb na nb hp) ne) fun σ H Q ⟨M, r, I, h⟩ => ⟨M, r, I, Out.bind h fun d r1 v M1 H1 st1 I1 rd1 h1 => ⟨M1, r1, I1, Out.bind h1 fun d' r2 v' M2 H2 st2 I2 rd2 h2 => by
    cases d with
    | int i =>
      cases rd1
      cases d' with
      | int j =>
        cases rd2
        dsimp only at h2
        split at h2
        · rename_i hs'
          rw [Bool.and_eq_true, Bool.and_eq_true] at hs'
          have hz := small_ok hs'.1.1
          have hy := small_ok hs'.1.2
          have hn := of_decide_eq_true hs'.2
          refine ⟨i, j, rfl, rfl, ⟨hz.1, hz.2, hy.1, hy.2, Nat.le_trans hn (by decide)⟩, fun q hq => new_lst I2 hq rngL_rep h2⟩
        · exact h2.elim
      | _ => exact h2.elim
    | _ => exact h2.elim⟩⟩
end

/-! ### calls to which owned objects are lent -/
mutual
def imm : D → Bool
  | .non => true
  | .bl _ => true
  | .int _ => true
  | .str _ => true
  | .tup xs => immL xs
  | .fn _ => true
  | _ => false
def immL : List D → Bool
  | [] => true
  | d :: ds => imm d && immL ds
end
mutual
theorem Rep.imm {G : Gm} {M M' : Addr → Prop} {H : Hp} : ∀ (d : D) (v : V), imm d = true → Rep G M H d v → Rep G M' H d v
  | .non, _, _, h => h
  | .bl _, _, _, h => h
  | .int _, _, _, h => h
  | .str _, _, _, h => h
  | .tup xs, _, e, ⟨a, vs, ev, q, r⟩ => ⟨a, vs, ev, q, RepL.imm xs vs e r⟩
  | .fn _, _, _, h => h
theorem RepL.imm {G : Gm} {M M' : Addr → Prop} {H : Hp} : ∀ (ds : List D) (vs : List V), immL ds = true → RepL G M H ds vs → RepL G M' H ds vs
  | [], _, _, h => h
  | d :: ds, _, e, ⟨v, ws, ev, q, r⟩ => by
    have e' : (DL.imm d && DL.immL ds) = true := e
    rw [Bool.and_eq_true] at e'
    exact ⟨v, ws, ev, Rep.imm d v e'.1 q, RepL.imm ds ws e'.2 r⟩
end
def RepLB (G : Gm) (M : Addr → Prop) (H : Hp) : List D → List V → Prop
  | [], vs => vs = []
  | d :: ds, vs => ∃ v ws, vs = v :: ws ∧ RepB G M H d v ∧ RepLB G M H ds ws
theorem RepB.lent {G : Gm} {M : Addr → Prop} {H : Hp} {d : D} {v : V} (h : RepB G M H d v) : Rep G (fun _ => False) H d v := by
  rcases h with h | ⟨a, rfl, h⟩
  · exact Rep.anti (fun _ z => z.elim) _ _ h
  · exact (OwnAt.anti (M := fun _ => False) (fun _ z => z.elim) h).rep fun z => z
theorem RepLB.lent {G : Gm} {M : Addr → Prop} {H : Hp} : ∀ {ds : List D} {vs : List V}, RepLB G M H ds vs → RepL G (fun _ => False) H ds vs
  | [], _, h => h
  | d :: ds, _, ⟨v, ws, e, q, r⟩ => ⟨v, ws, e, q.lent, RepLB.lent r⟩
def RVB (J : Jx) : List Sl → St → (Addr → Prop) → Hp → List D → List V → Prop := fun _ _ M H d v => RepLB J.G M H d v
abbrev tAB (J : Jx) (f : List Sl → RE (List D)) : TA := tX J (RVB J) f
/-- a name, read where it stands behind the other arguments -/
def apk (i : Nat) (fs : List Sl → RE (List D)) : List Sl → RE (List D) := fun r => if has i r then (fs r).bind fun ds r1 => (pk i r1).bind fun d r2 => .ok (d :: ds) r2 else .bad
def doFB (m : RF) (r : List Sl) : RE D := match m with
  | .ok d _ => if imm d = true then .ok d r else .bad
  | .exn x _ => if immL x.ds = true then .exn x r else .bad
  | .bad => .bad
def callB (F : List D → RF) (fs : List Sl → RE (List D)) : List Sl → RE D := fun r => (fs r).bind fun ds r1 => doFB (F ds) r1
section
variable {X : Cx} {J : Jx} {k : Nat} {f : Addr} {fd : FuncData} {ps : List Str} {F : List D → RF} {x y : Str} {p pos : Pos} {e : Expr} {es : List Expr} {fe : List Sl → RE D} {fs : List Sl → RE (List D)}
theorem ab_nil : PA X [] (tAB J anil) := PAi pa_nil fun σ H Q ⟨M, r, I, h⟩ => h [] M H Step.refl I rfl
theorem ab_cons (ha : PE X e (tE J fe)) (hr : PA X es (tAB J fs)) (hs : starEach (e :: es) X.env = (false, eval e X.env) :: starEach es X.env := by rfl) : PA X (e :: es) (tAB J (acons fe fs)) :=
  PAi (pa_cons ha hr hs) fun σ H Q ⟨M, r, I, h⟩ => ⟨M, r, I, Out.bind h fun d r1 v M1 H1 st1 I1 rd1 h1 =>
    ⟨M1, r1, I1, Out.bind h1 fun ds r2 vs M2 H2 st2 I2 rd2 h2 => h2 (v :: vs) M2 H2 Step.refl I2 ⟨v, vs, rfl, .inl (Rep.step st2 I1.md _ _ rd1), rd2⟩⟩⟩
theorem ab_pk (i : Nat) (hr : PA X es (tAB J fs)) (hN : X.N[i]? = some y := by rfl) (hv : Vis X.env.scope y := by first | exact Or.inl rfl | exact Or.inr (Or.inl rfl) | exact Or.inr (Or.inr rfl)) (hd : (y == ("__debug__" : Str)) = false := by decide) (hcd : (y == ("__classdict__" : Str)) = false := by decide)
    (hs : starEach (.Name y p :: es) X.env = (false, eval (.Name y p) X.env) :: starEach es X.env := by rfl) : PA X (.Name y p :: es) (tAB J (apk i fs)) :=
  PAi (pa_cons (pe_var hN hv hd hcd) hr hs) fun σ H Q ⟨M, r, I, h⟩ => by
    unfold apk at h
    split at h
    · rename_i hh
      obtain ⟨v, hv⟩ := has_core I hh
      refine ⟨v, hv, M, r, I, Out.bind h fun ds r1 vs M1 H1 st1 I1 rd1 h1 => ?_⟩
      cases e : pk i r1 with
      | ok d r4 =>
        rw [e] at h1
        obtain ⟨rfl, w, hw, q⟩ := pk_core I1 e
        rw [hv] at hw
        cases hw
        exact h1 (v :: vs) M1 H1 Step.refl I1 ⟨v, vs, rfl, q, rd1⟩
      | exn x r1 => unfold pk at e; split at e <;> cases e
      | bad => rw [e] at h1; exact h1.elim
    · exact h.elim
theorem doFB_core {M : Addr → Prop} {H : Hp} {σ : St} {r : List Sl} {ds : List D} {vs : List V} {Q : VK} (I : SI J M r σ H) (rd : RepLB J.G M H ds vs) (h : Out J (RV J) M H σ (doFB (F ds) r) Q) : spP J.G F vs H Q (WE J.W σ) := by
  refine ⟨fun _ => False, ds, fun _ z => z.elim, rd.lent, ?_⟩
  unfold doFB at h
  cases e : F ds with
  | ok d o =>
    rw [e] at h
    dsimp only at h
    split at h
    · rename_i hi
      exact fun v H' ex rv => h v M H' (Step.ext ex) (I.ext ex) (Rep.imm _ _ hi rv)
    · exact h.elim
  | exn x o =>
    rw [e] at h
    dsimp only at h
    split at h
    · rename_i hi
      intro cls dd H' ex ⟨C, h1, h2, vs', h3, h4, h5⟩
      exact h cls dd M H' (Step.ext ex) (I.ext ex) ⟨C, h1, h2, vs', h3, RepL.imm _ _ hi h4, h5⟩
    · exact h.elim
  | bad => rw [e] at h; exact h.elim
theorem e_callB (Fk : FnG X.prog X.w X.K X.mg X.base k f fd ps (spP J.G F)) (hr : Room k X.A) (hgd : X.A.guards = some []) (tk : Takes X J.W) (hg : Gl X x) (hm : X.mg x = some (.ref f)) (hk : PySem.W.keepIn X.K (.ref f) = true) (hb : Binds X.K fd ps [])
    (ha : PA X (e :: es) (tAB J fs)) (hdb : (x == ("__debug__" : Str)) = false := by decide) (he : starEach (e :: es) X.env = (false, eval e X.env) :: starEach es X.env := by rfl) (hpl : (backTo pos (starEach es X.env)).any (·.1) = false := by rfl) :
    PE X (.Call (.Name x p) (e :: es) [] pos) (tE J (callB F fs)) :=
  PEi (pe_callG Fk hr hgd hg hm hk hb .nil tk ha hdb he hpl) fun σ H Q ⟨M, r, I, h⟩ => ⟨M, r, I, Out.bind h fun ds r1 vs M1 H1 st1 I1 rd1 h1 => by show spP J.G F (vs ++ []) H1 Q (WE J.W σ); rw [List.append_nil]; exact doFB_core I1 rd1 h1⟩
end

/-! ### repr -/
def gRepr (d : D) : Option D := if okd 20 d && (toPy d).showable && decide ((toPy d).shown.length ≤ LIM) && !(toPy d).hasDict then (match d with
  | .non => some (.str "None")
  | .bl b => some (.str (if b then "True" else "False"))
  | .int i => if i.natAbs.log2 < 1000 then some (.str (toString i)) else none
  | .str s => if (PySem.reprText s).length ≤ LIM then some (.str (PySem.reprText s)) else none
  | .tup _ => some (.str (toPy d).shown)
  | .lst _ => some (.str (toPy d).shown)
  | _ => none) else none
def rRepr (K : PySem.W.Frag) : List V → Hp → VK → Prop := fun xs H Q => ∃ (x : V) (d : PyData), xs = [x] ∧ Dp K H x d ∧ d.showable = true ∧ d.shown.length ≤ sizeLine ∧ d.hasDict = false ∧ d.depth ≤ 40 ∧ (match x with
  | .non => Q (.str "None") H
  | .bl b => Q (.str (if b then "True" else "False")) H
  | .int i => i.natAbs.log2 < 1920 ∧ Q (.str (toString i)) H
  | .str s => (PySem.reprText s).length ≤ sizeLine ∧ Q (.str (PySem.reprText s)) H
  | .ref a => Q (.str d.shown) H
  | _ => False)
theorem call_repr {X : Cx} (hu : X.A.units + 64 < cLine) (hgd : X.A.guards = some []) : CallR X (.builtin "repr") (rRepr X.K) := by
  intro pins s σ H xs us Q I r h
  obtain ⟨x, d, rfl, hd, hs, hl, hn, hz, q⟩ := h
  obtain ⟨u, eu, rx⟩ := vals1 r
  subst eu
  obtain ⟨as, rs⟩ := Dp.reads I d x u hd rx
  cases x with
  | non => cases (show u = Value.none from rx); exact PySem.P.repr_of_none ⟨.str _, H, I.tok _, ⟨_, rfl⟩, q⟩
  | bl b => cases (show u = Value.bool b from rx); exact PySem.P.repr_of_bool ⟨.str _, H, I.tok _, ⟨_, rfl⟩, q⟩
  | int i => obtain ⟨t, q2⟩ := (show ∃ t, u = Value.int i t from rx); cases q2; exact PySem.P.repr_of_int q.1 ⟨.str _, H, I.tok _, ⟨_, rfl⟩, q.2⟩
  | str y => obtain ⟨t, q2⟩ := (show ∃ t, u = Value.str y t from rx); cases q2; exact PySem.P.repr_of_str ⟨.str _, H, I.tok _, ⟨_, rfl⟩, q.2⟩ q.1
  | ref a =>
    cases (show u = Value.ref a from rx)
    exact PySem.repr_of_reads' rs hs (fun z => by rw [hn] at z; cases z) hgd (by omega) (fun _ _ e => e) (fun h' v tk hk => ⟨.str _, H, I.kept hk, ⟨_, rfl⟩, q⟩) hl
  | _ => exact q.elim
theorem od_repr {G : Gm} : C1D G (rRepr G.K) gRepr := by
  intro M H x vx d Q md e rx q
  unfold gRepr at e
  split at e
  · rename_i h
    rw [Bool.and_eq_true, Bool.and_eq_true, Bool.and_eq_true] at h
    obtain ⟨⟨⟨h1, h2⟩, h3⟩, h4⟩ := h
    have p1 := plain_of x 20 h1
    refine ⟨vx, toPy x, rfl, dp_ofB h1 rx, h2, le_size (of_decide_eq_true h3), by simpa using h4, by omega, ?_⟩
    split at e
    · cases e; cases rx.non; exact q _ H (fun _ _ h => h) rfl
    · cases e; cases rx.bl; exact q _ H (fun _ _ h => h) rfl
    · split at e
      · cases e; cases rx.int; exact ⟨by omega, q _ H (fun _ _ h => h) rfl⟩
      · cases e
    · split at e
      · rename_i hl; cases e; cases rx.str; exact ⟨le_size hl, q _ H (fun _ _ h => h) rfl⟩
      · cases e
    · cases e; obtain ⟨a, vs, rfl, _⟩ := rx.tup; exact q _ H (fun _ _ h => h) rfl
    · cases e; obtain ⟨a, vs, rfl, _⟩ := rx.lst; exact q _ H (fun _ _ h => h) rfl
    · cases e
  · cases e
section
variable {X : Cx} {J : Jx} {e : Expr} {f : List Sl → RE D} {p pos : Pos}
theorem e_repr (hK : X.K = J.G.K) (hu : X.A.units + 64 < cLine) (hgd : X.A.guards = some []) (hx : Gl X "repr") (hm : X.mg "repr" = none) (he : PE X e (tB J f)) (hs : starEach [e] X.env = (false, eval e X.env) :: starEach [] X.env := by rfl) (hpl : (backTo pos (starEach [] X.env)).any (·.1) = false := by rfl) : PE X (.Call (.Name "repr" p) [e] [] pos) (tE J (un gRepr f)) :=
  e_call1 (call_repr hu hgd) (hK ▸ od_repr) hx hm (by decide +kernel) he hs (by decide) (by decide) hpl
end

/-! ### try, except -/
def noXc (r : List Sl) : Bool := r.all fun s => match s with
  | .xc _ => false
  | _ => true
def dropAt (i : Nat) : RS → RS
  | .nx r => if noXc (r.set i .un) = true then .nx (r.set i .un) else .bad
  | .bk r => if noXc (r.set i .un) = true then .bk (r.set i .un) else .bad
  | .ct r => if noXc (r.set i .un) = true then .ct (r.set i .un) else .bad
  | .rt d r => if noXc (r.set i .un) = true then .rt d (r.set i .un) else .bad
  | .exn _ _ => .bad
  | .bad => .bad
def keepAt : RS → RS
  | .nx r => if noXc r = true then .nx r else .bad
  | .bk r => if noXc r = true then .bk r else .bad
  | .ct r => if noXc r = true then .ct r else .bad
  | .rt d r => if noXc r = true then .rt d r else .bad
  | .exn _ _ => .bad
  | .bad => .bad
/-- except C as n (slot i): cat tells which classes are C's -/
def stry (i : Nat) (cat : Str → Option Bool) (fb fs : List Sl → RS) : List Sl → RS := fun r => match fb r with
  | .exn x r1 => (match cat x.c with
    | some true => if noXc r1 = true then dropAt i (fs (r1.set i (.xc x))) else .bad
    | some false => .exn x r1
    | none => .bad)
  | o => o
/-- except C, without a name -/
def stry0 (cat : Str → Option Bool) (fb fs : List Sl → RS) : List Sl → RS := fun r => match fb r with
  | .exn x r1 => (match cat x.c with
    | some true => if noXc r1 = true then keepAt (fs r1) else .bad
    | some false => .exn x r1
    | none => .bad)
  | o => o
def CatOk (G : Gm) (c : Value) (cat : Str → Option Bool) : Prop := ∀ nm C b, cat nm = some b → G.mg nm = some (.ref C) → PySem.W.exmOne G.K (.ref C) c = some b
/-- what a suite's derivation is given: the exception at a -/
def Jx.sui (J : Jx) (a : Addr) (cls : Value) (d : Option Addr) : Jx := { J with hx := some (a, cls, d), W := fun _ _ _ _ => False }
section
variable {J : Jx} {M : Addr → Prop} {r : List Sl} {σ : St} {H : Hp}
theorem SI.reJ {J' : Jx} (hG : J'.G = J.G) (h0 : J'.M0 = J.M0) (h1 : J'.H0 = J.H0) (hio : J'.io = J.io) (hx : J'.hx = J.hx ∨ noXc r = true) (I : SI J M r σ H) : SI J' M r σ H := by
  obtain ⟨G', M0', H0', io', W', hx'⟩ := J'
  dsimp only at hG h0 h1 hio
  subst hG h0 h1 hio
  refine ⟨I.md, I.m0, I.io0, I.keep, I.len, fun i s hs => ?_, I.dist⟩
  have z := I.slot i s hs
  cases s with
  | un => trivial
  | val d => exact z
  | own d => exact z
  | io d => exact z
  | xc x =>
    rcases hx with hx | hx
    · dsimp only at hx; subst hx; exact z
    · have := List.all_eq_true.mp hx _ (List.mem_of_getElem? hs)
      cases this
/-- a name is bound to the exception -/
theorem SI.setXc {i : Nat} {x : Xn} {a : Addr} {cls : Value} {dd : Option Addr} (I : SI J M r σ H) (hx : J.hx = some (a, cls, dd)) (h : RepX J.G M H x cls dd) : SI J M (r.set i (.xc x)) (σ.set i (some (.ref a))) H := by
  have hl := I.len
  refine ⟨I.md, I.m0, I.io0, I.keep, by rw [List.length_set, List.length_set]; exact I.len, fun j t e => ?_, fun j k t u c e1 e2 h1 h2 h3 h4 => ?_⟩
  · rw [List.getElem?_set] at e ⊢
    by_cases hj : i = j
    · subst hj
      rw [if_pos rfl] at e ⊢
      split at e
      · cases e
        rename_i hlt
        rw [if_pos (by omega)]
        exact ⟨a, cls, dd, rfl, hx, h⟩
      · cases e
    · rw [if_neg hj] at e ⊢
      exact I.slot j t e
  · rw [List.getElem?_set] at e1 e2 h3 h4
    by_cases hj : i = j
    · subst hj
      rw [if_pos rfl] at e1
      split at e1
      · cases e1; cases h1
      · cases e1
    · by_cases hk : i = k
      · subst hk
        rw [if_pos rfl] at e2
        split at e2
        · cases e2; cases h2
        · cases e2
      · rw [if_neg hj] at e1 h3
        rw [if_neg hk] at e2 h4
        exact I.dist j k t u c e1 e2 h1 h2 h3 h4
end
section
variable {X : Cx} {J : Jx} {x n : Str} {c : Value} {i : Nat} {body suite : List Stmt} {b₀ : Stmt} {np pos pos' : Pos} {fb fs : List Sl → RS} {cat : Str → Option Bool}
theorem SI.unSui {a : Addr} {cls : Value} {d : Option Addr} {M : Addr → Prop} {r : List Sl} {σ : St} {H : Hp} (I : SI (J.sui a cls d) M r σ H) (h : noXc r = true) : SI J M r σ H := SI.reJ (J := J.sui a cls d) (J' := J) rfl rfl rfl rfl (.inr h) I
theorem noXc_set {r : List Sl} (h : noXc r = true) (i : Nat) {s : Sl} (hs : (match s with | .xc _ => false | _ => true) = true) : noXc (r.set i s) = true := by
  unfold noXc at h ⊢
  rw [List.all_eq_true] at h ⊢
  intro t ht
  rcases List.mem_or_eq_of_mem_set ht with z | z
  · exact h t z
  · subst z; exact hs
theorem tS_reW {W' : WX} {M : Addr → Prop} {r : List Sl} {σ : St} {H : Hp} (I : SI J M r σ H) : SI { J with W := W' } M r σ H := SI.reJ (J := J) rfl rfl rfl rfl (.inl rfl) I
theorem tS_unW {W' : WX} {M : Addr → Prop} {r : List Sl} {σ : St} {H : Hp} (I : SI { J with W := W' } M r σ H) : SI J M r σ H := SI.reJ (J := { J with W := W' }) (J' := J) rfl rfl rfl rfl (.inl rfl) I
/-- the body of a try, from the whole's reading -/
theorem try_core {W' : WX} {D : Ends} {M : Addr → Prop} {H : Hp} {m : RS} {k : Xn → List Sl → RS} (h : OutS J M H (match m with
    | .exn x r1 => k x r1
    | o => o) D) (hx : ∀ x r1 cls dd M' σ' H', m = .exn x r1 → Step M H M' H' → SI J M' r1 σ' H' → RepX J.G M' H' x cls dd → OutS J M' H' (k x r1) D → W' cls dd σ' H') : OutS { J with W := W' } M H m D := by
  cases m with
  | nx r1 => exact fun M' σ' H' st I => h M' σ' H' st (tS_unW I)
  | bk r1 => exact fun M' σ' H' st I => h M' σ' H' st (tS_unW I)
  | ct r1 => exact fun M' σ' H' st I => h M' σ' H' st (tS_unW I)
  | rt d r1 => exact fun v M' σ' H' st I => h v M' σ' H' st (tS_unW I)
  | exn x r1 => exact fun cls dd M' σ' H' st I rx => hx x r1 cls dd M' σ' H' rfl st (tS_unW I) rx (OutS.step st h)
  | bad => exact h
theorem sui_core {a : Addr} {cls : Value} {dd : Option Addr} {D : Ends} {M : Addr → Prop} {H : Hp} {m : RS} (h : OutS J M H (dropAt i m) D) :
    OutS (J.sui a cls dd) M H m { nx := fun σ' H' => D.nx (σ'.set i none) H', rt := D.rt, bk := fun σ' H' => D.bk (σ'.set i none) H', ct := fun σ' H' => D.ct (σ'.set i none) H' } := by
  cases m with
  | nx r1 =>
    have h : OutS J M H (if noXc (r1.set i .un) = true then .nx (r1.set i .un) else .bad) D := h
    by_cases hn : noXc (r1.set i .un) = true
    · rw [if_pos hn] at h; exact fun M' σ' H' st I => h M' _ H' st (SI.unSui (SI.drop I) hn)
    · rw [if_neg hn] at h; exact h.elim
  | bk r1 =>
    have h : OutS J M H (if noXc (r1.set i .un) = true then .bk (r1.set i .un) else .bad) D := h
    by_cases hn : noXc (r1.set i .un) = true
    · rw [if_pos hn] at h; exact fun M' σ' H' st I => h M' _ H' st (SI.unSui (SI.drop I) hn)
    · rw [if_neg hn] at h; exact h.elim
  | ct r1 =>
    have h : OutS J M H (if noXc (r1.set i .un) = true then .ct (r1.set i .un) else .bad) D := h
    by_cases hn : noXc (r1.set i .un) = true
    · rw [if_pos hn] at h; exact fun M' σ' H' st I => h M' _ H' st (SI.unSui (SI.drop I) hn)
    · rw [if_neg hn] at h; exact h.elim
  | rt d r1 =>
    have h : OutS J M H (if noXc (r1.set i .un) = true then .rt d (r1.set i .un) else .bad) D := h
    by_cases hn : noXc (r1.set i .un) = true
    · rw [if_pos hn] at h; exact fun v M' σ' H' st I rv => h v M' _ H' st (SI.unSui (SI.drop I) hn) rv
    · rw [if_neg hn] at h; exact h.elim
  | exn x r1 => exact h.elim
  | bad => exact h.elim
theorem sui_core0 {a : Addr} {cls : Value} {dd : Option Addr} {D : Ends} {M : Addr → Prop} {H : Hp} {m : RS} (h : OutS J M H (keepAt m) D) : OutS (J.sui a cls dd) M H m D := by
  cases m with
  | nx r1 =>
    have h : OutS J M H (if noXc r1 = true then .nx r1 else .bad) D := h
    by_cases hn : noXc r1 = true
    · rw [if_pos hn] at h; exact fun M' σ' H' st I => h M' _ H' st (SI.unSui I hn)
    · rw [if_neg hn] at h; exact h.elim
  | bk r1 =>
    have h : OutS J M H (if noXc r1 = true then .bk r1 else .bad) D := h
    by_cases hn : noXc r1 = true
    · rw [if_pos hn] at h; exact fun M' σ' H' st I => h M' _ H' st (SI.unSui I hn)
    · rw [if_neg hn] at h; exact h.elim
  | ct r1 =>
    have h : OutS J M H (if noXc r1 = true then .ct r1 else .bad) D := h
    by_cases hn : noXc r1 = true
    · rw [if_pos hn] at h; exact fun M' σ' H' st I => h M' _ H' st (SI.unSui I hn)
    · rw [if_neg hn] at h; exact h.elim
  | rt d r1 =>
    have h : OutS J M H (if noXc r1 = true then .rt d r1 else .bad) D := h
    by_cases hn : noXc r1 = true
    · rw [if_pos hn] at h; exact fun v M' σ' H' st I rv => h v M' _ H' st (SI.unSui I hn) rv
    · rw [if_neg hn] at h; exact h.elim
  | exn x r1 => exact h.elim
  | bad => exact h.elim
theorem s_try (i : Nat) (hK : X.K = J.G.K) (hs : X.stack = X.env :: X.outer) (hf : X.env.frame = some X.env.locals) (hN : X.N.Nodup) (hc : Names X x c) (tk : Takes X J.W) (hcat : CatOk J.G c cat)
    (hb : ∀ (W : WX) (pn : List (Addr × Obj)) (xe : Value → Shared → Prop), Takes (X.tr pn xe) W → PassesOwn (model X.prog X.w) X.A X.env xe → PSs (X.tr pn xe) body (tS { J with W := W } fb))
    (hsu : ∀ (a : Addr) (oe : Obj) (cls : Value) (d : Option Addr) (pn : List (Addr × Obj)), Zc cls d oe → (∃ vs, oe.data = .fields vs) → PSs (X.suite a ((a, oe) :: pn)) (b₀ :: suite) (tS (J.sui a cls d) fs))
    (hi : X.N[i]? = some n := by rfl) (hln : X.env.kindOf n = some .local := by rfl) : PS X (.Try body [.ExceptHandler (some (.Name x np)) (some n) (b₀ :: suite) pos'] [] [] pos) (tS J (stry i cat fb fs)) :=
  PSi (ps_try_as (tb := fun W => tS { J with W := W } fb) (ts := fun a cls d => tS (J.sui a cls d) fs) hs hf hN hi hln hc tk hb hsu) fun D σ H ⟨M, r, I, h⟩ => ⟨M, r, tS_reW I, try_core h fun x0 r1 cls dd M' σ' H' em st I' rx hk => by
    cases ec : cat x0.c with
    | none => rw [ec] at hk; exact hk.elim
    | some b =>
      obtain ⟨C, hC, rfl, _⟩ := id rx
      have hm := hcat _ _ _ ec hC
      refine ⟨b, by rw [hK]; exact hm, fun eb a na => ?_, fun eb => ?_⟩
      · subst eb
        rw [ec] at hk
        dsimp only at hk
        split at hk
        · rename_i hn
          have I2 : SI (J.sui a (.ref C) dd) M' r1 σ' H' := SI.reJ (J := J) rfl rfl rfl rfl (.inr hn) I'
          exact ⟨M', _, I2.setXc rfl rx, sui_core hk⟩
        · exact hk.elim
      · subst eb
        rw [ec] at hk
        exact hk _ _ M' σ' H' Step.refl I' rx⟩
theorem s_try0 (hK : X.K = J.G.K) (hs : X.stack = X.env :: X.outer) (hf : X.env.frame = some X.env.locals) (hc : Names X x c) (tk : Takes X J.W) (hcat : CatOk J.G c cat)
    (hb : ∀ (W : WX) (pn : List (Addr × Obj)) (xe : Value → Shared → Prop), Takes (X.tr pn xe) W → PassesOwn (model X.prog X.w) X.A X.env xe → PSs (X.tr pn xe) body (tS { J with W := W } fb))
    (hsu : ∀ (a : Addr) (oe : Obj) (cls : Value) (d : Option Addr) (pn : List (Addr × Obj)), Zc cls d oe → (∃ vs, oe.data = .fields vs) → PSs (X.suite a ((a, oe) :: pn)) (b₀ :: suite) (tS (J.sui a cls d) fs)) :
    PS X (.Try body [.ExceptHandler (some (.Name x np)) none (b₀ :: suite) pos'] [] [] pos) (tS J (stry0 cat fb fs)) :=
  PSi (ps_try_only (tb := fun W => tS { J with W := W } fb) (ts := fun a cls d => tS (J.sui a cls d) fs) hs hf hc tk hb hsu) fun D σ H ⟨M, r, I, h⟩ => ⟨M, r, tS_reW I, try_core h fun x0 r1 cls dd M' σ' H' em st I' rx hk => by
    cases ec : cat x0.c with
    | none => rw [ec] at hk; exact hk.elim
    | some b =>
      obtain ⟨C, hC, rfl, _⟩ := id rx
      have hm := hcat _ _ _ ec hC
      refine ⟨b, by rw [hK]; exact hm, fun eb a na => ?_, fun eb => ?_⟩
      · subst eb
        rw [ec] at hk
        dsimp only at hk
        split at hk
        · rename_i hn
          have I2 : SI (J.sui a (.ref C) dd) M' r1 σ' H' := SI.reJ (J := J) rfl rfl rfl rfl (.inr hn) I'
          exact ⟨M', _, I2, sui_core0 hk⟩
        · exact hk.elim
      · subst eb
        rw [ec] at hk
        exact hk _ _ M' σ' H' Step.refl I' rx⟩
/-! a field of the exception in hand -/
def xfld (i : Nat) (kn : Str → Bool) (f : Str) : List Sl → RE D := fun r => match r[i]? with
  | some (.xc x) => if kn x.c = true then (match (x.ns.zip x.ds).lookup f with
    | some d => .ok d r
    | none => .bad) else .bad
  | _ => .bad
theorem lookup_rep {G : Gm} {M : Addr → Prop} {H : Hp} {f : Str} {d : D} : ∀ {ns : List Str} {ds : List D} {vs : List V}, RepL G M H ds vs → (ns.zip ds).lookup f = some d → ∃ v, (ns.zip vs).lookup f = some v ∧ Rep G M H d v
  | [], _, _, _, h => by simp at h
  | n :: ns, [], _, _, h => by simp at h
  | n :: ns, d0 :: ds, _, ⟨v, ws, e, q, r⟩, h => by
    subst e
    rw [List.zip_cons_cons, List.lookup_cons] at h ⊢
    cases hb : (f == n) with
    | true => rw [hb] at h; cases h; exact ⟨v, rfl, q⟩
    | false => rw [hb] at h; exact lookup_rep r h
theorem e_xfld (i : Nat) {y f : Str} {py : Pos} {a : Addr} {oe : Obj} {cls : Value} {d : Option Addr} {pn : List (Addr × Obj)} {kn : Str → Bool} (hmg : X.mg = J.G.mg) (hz : Zc cls d oe) (hf : ∃ vs, oe.data = .fields vs) (hJ : J.hx = some (a, cls, d))
    (hk : ∀ c, kn c = true → ∃ C fI fs, DLX.Cl X.prog X.K X.mg c C fI fs ∧ f ∈ fs)
    (hN : X.N[i]? = some y := by rfl) (hv : Vis X.env.scope y := by first | exact Or.inl rfl | exact Or.inr (Or.inl rfl) | exact Or.inr (Or.inr rfl)) (hd : (y == ("__debug__" : Str)) = false := by decide) (hcd : (y == ("__classdict__" : Str)) = false := by decide)
    (hb : attributeBase (.Name y py) f X.env (eval (.Name y py) X.env) = eval (.Name y py) X.env := by rfl) :
    PE (X.suite a ((a, oe) :: pn)) (.Attribute (.Name y py) f pos) (tE J (xfld i kn f)) := by
  refine ⟨fun pins s σ H Q I h => ?_⟩
  obtain ⟨M, r, S, h⟩ := h
  refine attr_of hb ?_
  have hr : ∃ x dv, r[i]? = some (.xc x) ∧ kn x.c = true ∧ (x.ns.zip x.ds).lookup f = some dv ∧ Out J (RV J) M H σ (.ok dv r) Q := by
    unfold xfld at h
    split at h
    · rename_i x e
      split at h
      · rename_i hkn
        split at h
        · rename_i dv el; exact ⟨x, dv, e, hkn, el, h⟩
        · exact h.elim
      · exact h.elim
    · exact h.elim
  obtain ⟨x, dv, er, hkn, el, h⟩ := hr
  obtain ⟨a', cls', dd', ea, hx', C, hC, rfl, vs, hl, rl, hdd⟩ := S.slot i _ er
  rw [hJ] at hx'
  cases hx'
  obtain ⟨C', fI, fs, T, hfs⟩ := hk _ hkn
  have eC : C' = C := by
    have z := T.gC
    rw [hmg, hC] at z
    cases z; rfl
  subst eC
  refine thn ((pe_var (X := X.suite a ((a, oe) :: pn)) (i := i) hN hv hd hcd).run pins s σ H (fun w H1 => w = .ref a ∧ H1 = H) I ⟨.ref a, ea, rfl, rfl⟩) fun u s1 hh => ?_
  obtain ⟨w, H1, I1, rx, e1, e2⟩ := hh
  subst e1 e2
  obtain rfl : u = Value.ref a := rx
  obtain ⟨v, hv2, rv⟩ := lookup_rep rl el
  have hne : x.ns ≠ [] := by
    intro z
    rw [z] at el
    simp at el
  obtain ⟨ddA, edd, hH⟩ := hdd.resolve_left hne
  obtain ⟨ha, _⟩ := I1.pin (a, oe) (List.mem_append_left _ List.mem_cons_self)
  obtain ⟨ovs, hod⟩ := hf
  have hx2 : ObjOk X.prog X.w H1 s1.heap ddA (.xd (x.ns.zip vs)) := I1.hok ddA _ hH
  obtain ⟨mA, hns, hr2⟩ := hx2
  obtain ⟨od, ho, hlk⟩ := lookIn_ns hns
  obtain ⟨u, hu, ru⟩ := RelO.some_of (v := v) (o := mA f) (by rw [← hv2]; exact hr2 f)
  have J2 : PySem.W.InstAt s1.heap a oe C' (some od) := ⟨ha, hz.1, by unfold PySem.W.notCls; rw [hod] <;> rfl, by rw [hz.2, edd]; exact ho⟩
  exact HandSPX.exc_get I1.kIn J2 T.ga T.gg T.exC (PySem.W.findObj_own T.hdC (T.no f hfs) rfl (by rw [hlk, hu])) (handed_of ru) ⟨v, H1, I1.tok _, ru, h v M H1 Step.refl S rv⟩
end
end DL

set_option Elab.async false
set_option linter.all false
set_option maxRecDepth 100000
set_option maxHeartbeats 4000000
namespace DL
open PySem L2

/-! ### list comprehensions over a name's list, read where it stands -/
open Classical in
/-- the list of name i is still the same -/
noncomputable def ck (i : Nat) (ds : List D) (r : List Sl) : Bool := decide (pk i r = .ok (.lst ds) r)
theorem ck_eq {i : Nat} {ds : List D} {r : List Sl} (h : ck i ds r = true) : pk i r = .ok (.lst ds) r := by classical exact of_decide_eq_true h
theorem ck_of {i : Nat} {ds : List D} {r : List Sl} (h : pk i r = .ok (.lst ds) r) : ck i ds r = true := by classical exact decide_eq_true h
def lcLB (ck : List Sl → Bool) (g : D → List Sl → RS) (t : List Sl → RE Bool) (e : List Sl → RE D) (vs : List Nat) : List D → List D → List Sl → RE (List D)
  | [], acc, r => if ck r = true then .ok acc r else .bad
  | d :: ds, acc, r => if ck r = true then (match g d r with
    | .nx r1 => (t r1).bind fun b r2 => if b = true then (e r2).bind fun y r3 => if acc.length < LIM then lcLB ck g t e vs ds (acc ++ [y]) (wipeR r3 vs) else .bad else lcLB ck g t e vs ds acc (wipeR r2 vs)
    | _ => .bad) else .bad
noncomputable def lcompB (i : Nat) (g : D → List Sl → RS) (t : List Sl → RE Bool) (e : List Sl → RE D) (vs : List Nat) : List Sl → RE D := fun r => match pk i r with
  | .ok (.lst ds) _ => if (noOwn r vs && !decide (i ∈ vs)) = true then (match lcLB (ck i ds) g t e vs ds [] (wipeR r vs) with
    | .ok ys r2 => .ok (.lst ys) (back r r2 vs)
    | _ => .bad) else .bad
  | _ => .bad
section
variable {X : Cx} {J : Jx} {elt tg : Expr} {ifs : List Expr} {scope : Scope} {own : List (Str × Nat)} {pos : Pos} {g : D → List Sl → RS} {ft : List Sl → RE Bool} {fe : List Sl → RE D}
theorem lc_readB {K : PySem.W.Frag} (ok : GOk g) {vs : List Nat} (i0 : Nat) (σ : St) (H1 : Hp) (Q : VK) (h : tN J (lcompB i0 g ft fe vs) σ H1 Q) : tLc (iAny K (tVar i0)) (tGx J vs g) (tTx J ft) (tEx J fe) vs σ H1 Q := by
  obtain ⟨M1, r1, I1, h1⟩ := h
  unfold lcompB at h1
  split at h1
  · rename_i ds _ hds
    obtain ⟨_, v0, hv0, rb⟩ := pk_core I1 hds
    obtain ⟨a0, vs0, rfl, ha0, r0⟩ := rb.lst
    refine ⟨_, hv0, .inl ⟨a0, rfl, ⟨vs0, SqL.of ha0⟩, ?_⟩⟩
    intro p hp
    split at h1
    · rename_i no0
      rw [Bool.and_eq_true] at no0
      obtain ⟨no, hi0'⟩ := no0
      have hi0 : i0 ∉ vs := by simpa using hi0'
      have it : ∀ (i : Nat) (M' : Addr → Prop) (H' : Hp) (r' : List Sl), ck i0 ds r' = true → SI J M' r' (L2.wipe σ vs) H' →
          (∀ d, ds[i]? = some d → (Itl K a0).go i H' ∧ ∀ x H2, (Itl K a0).yld i H' x H2 → Extn H' H2 ∧ Rep J.G M' H2 d x) ∧ (ds.length ≤ i → (Itl K a0).stop i H') := fun i M' H' r' hck I' => by
        have e := ck_eq hck
        obtain ⟨_, v1, hv1, rb1⟩ := pk_core I' e
        rw [wipe_get hi0, hv0] at hv1
        cases hv1
        obtain ⟨a1, vs1, e1, ha1, r1'⟩ := rb1.lst
        cases e1
        refine ⟨fun d hd => ?_, fun hl => ⟨vs1, SqL.of ha1, by rw [← r1'.length]; exact hl⟩⟩
        obtain ⟨v, hv, rv⟩ := r1'.get hd
        refine ⟨⟨vs1, v, SqL.of ha1, hv⟩, fun x H2 ⟨e, q⟩ => ?_⟩
        subst e
        have z := q vs1 (SqL.of ha1)
        rw [hv] at z; cases z
        exact ⟨fun _ _ h => h, rv⟩
      obtain ⟨In, stn, nm, n0, h0, fl⟩ := I1.newOwn (o := .lst []) hp trivial
      have hio : J.io ≠ some p := fun e => n0 (I1.io0 p e)
      have flw : ∀ (j : Nat) s, (wipeR r1 vs)[j]? = some s → s.owned = true → (L2.wipe σ vs)[j]? ≠ some (some (.ref p)) := fun j s hj ho e => by
        have z := ((SI.wipe In vs).slot j s hj).ownM ho e
        have I1w := SI.wipe I1 vs
        exact nm ((I1w.slot j s hj).ownM ho e)
      have hQ : ∀ ys r2, lcLB (ck i0 ds) g ft fe vs ds [] (wipeR r1 vs) = .ok ys r2 → Out J (RO J) M1 H1 σ (.ok (.lst ys) (back r1 r2 vs)) Q := fun ys r2 e => by rw [e] at h1; exact h1
      have hne : ∃ ys r2, lcLB (ck i0 ds) g ft fe vs ds [] (wipeR r1 vs) = .ok ys r2 := by
        cases e : lcLB (ck i0 ds) g ft fe vs ds [] (wipeR r1 vs) with
        | ok ys r2 => exact ⟨ys, r2, rfl⟩
        | exn x r2 => rw [e] at h1; exact h1.elim
        | bad => rw [e] at h1; exact h1.elim
      refine ⟨fun i m H' => m = ds.length - i ∧ i ≤ ds.length ∧ ∃ M' r' acc vacc, SI J M' r' (L2.wipe σ vs) H' ∧ Step M1 H1 M' H' ∧ M' p ∧ H' p = some (.lst vacc) ∧ RepL J.G M' H' acc vacc ∧
        (∀ (j : Nat) s, r'[j]? = some s → s.owned = true → (L2.wipe σ vs)[j]? ≠ some (some (.ref p))) ∧
        lcLB (ck i0 ds) g ft fe vs (ds.drop i) acc r' = lcLB (ck i0 ds) g ft fe vs ds [] (wipeR r1 vs), ⟨ds.length, by simp, Nat.zero_le _, _, wipeR r1 vs, [], [], SI.wipe In vs, stn, .inr rfl, upd_same, rfl, flw, rfl⟩, ?_⟩
      rintro i m H' ⟨rfl, hi, M', r', acc, vacc, I', st', mp, hpv, racc, fl', eqn⟩
      have hck : ck i0 ds r' = true := by
        cases ek : ck i0 ds r' with
        | true => rfl
        | false =>
          exfalso
          have z : lcLB (ck i0 ds) g ft fe vs (ds.drop i) acc r' = RE.bad := by cases ds.drop i <;> simp [lcLB, ek]
          rw [z] at eqn
          obtain ⟨ys, r2, hy⟩ := hne
          rw [hy] at eqn
          cases eqn
      obtain ⟨it1, it2⟩ := it i M' H' r' hck I'
      by_cases hlt : i < ds.length
      · have hd : ds[i]? = some ds[i] := List.getElem?_eq_getElem hlt
        obtain ⟨go, yl⟩ := it1 _ hd
        refine .inr ⟨go, fun H2 => ∃ M2 r2 acc2 vacc2, SI J M2 r2 (L2.wipe σ vs) H2 ∧ Step M1 H1 M2 H2 ∧ M2 p ∧ H2 p = some (.lst vacc2) ∧ RepL J.G M2 H2 acc2 vacc2 ∧
          (∀ (j : Nat) s, r2[j]? = some s → s.owned = true → (L2.wipe σ vs)[j]? ≠ some (some (.ref p))) ∧ lcLB (ck i0 ds) g ft fe vs (ds.drop (i + 1)) acc2 r2 = lcLB (ck i0 ds) g ft fe vs ds [] (wipeR r1 vs),
          fun H2 ⟨M2, r2, acc2, vacc2, q⟩ => ⟨ds.length - (i + 1), by omega, rfl, by omega, M2, r2, acc2, vacc2, q⟩, fun x H2 y => ?_⟩
        obtain ⟨ex, rx⟩ := yl x H2 y
        rw [List.drop_eq_getElem_cons hlt] at eqn
        obtain ⟨ys0, rf0, hne⟩ := hne
        rw [hne] at eqn
        have I2 := I'.ext ex
        have hp2 := ex _ _ hpv
        have B2 : SI (J.blk p (.lst vacc)) M' r' (L2.wipe σ vs) H2 := I2.toBlk mp hp2 h0 hio fl'
        have eq : lcLB (ck i0 ds) g ft fe vs (ds[i] :: ds.drop (i + 1)) acc r' = (match g ds[i] r' with
          | .nx r1 => (ft r1).bind fun b r2 => if b = true then (fe r2).bind fun y r3 => if acc.length < LIM then lcLB (ck i0 ds) g ft fe vs (ds.drop (i + 1)) (acc ++ [y]) (wipeR r3 vs) else .bad else lcLB (ck i0 ds) g ft fe vs (ds.drop (i + 1)) acc (wipeR r2 vs)
          | _ => .bad) := by
          show (if ck i0 ds r' = true then _ else _) = _
          rw [if_pos hck]
        rw [eq] at eqn
        have st2 : Step M1 H1 M' H2 := st'.trans (Step.ext ex)
        refine ⟨J.blk p (.lst vacc), JB.blk, M', r', ds[i], B2, rx, ?_⟩
        rcases ok ds[i] r' with ⟨r3, e3⟩ | e3
        · rw [e3] at eqn ⊢
          have eqn : ((ft r3).bind fun b r2 => if b = true then (fe r2).bind fun y r3 => if acc.length < LIM then lcLB (ck i0 ds) g ft fe vs (ds.drop (i + 1)) (acc ++ [y]) (wipeR r3 vs) else .bad else lcLB (ck i0 ds) g ft fe vs (ds.drop (i + 1)) acc (wipeR r2 vs)) = RE.ok ys0 rf0 := eqn
          intro M3 σ3 H3 st3 B3 ew
          have ww : ∀ τ : St, L2.wipe (L2.wipe τ vs) vs = L2.wipe τ vs := fun τ => by
            apply List.ext_getElem?
            intro j
            by_cases hj : j ∈ vs
            · have inn : ∀ (ρ : St) (ws : List Nat), j ∈ ws → (L2.wipe ρ ws)[j]? = if j < ρ.length then some none else none := fun ρ ws => by
                induction ws with
                | nil => intro z; cases z
                | cons w ws ih =>
                  intro z
                  show ((L2.wipe ρ ws).set w none)[j]? = _
                  rw [List.getElem?_set]
                  by_cases e : w = j
                  · subst e; rw [if_pos rfl, wipe_length]
                  · rw [if_neg e]
                    exact ih (by rcases List.mem_cons.mp z with q | q
                                 · exact absurd q.symm e
                                 · exact q)
              rw [inn _ _ hj, inn _ _ hj, wipe_length]
            · rw [wipe_get hj]
          refine ⟨ew.trans (ww σ), J.blk p (.lst vacc), JB.blk, M3, r3, B3, ?_⟩
          have ew' : L2.wipe σ3 vs = L2.wipe σ vs := ew.trans (ww σ)
          -- the next turn's state, from a state of the block
          have nextT : ∀ {M4 : Addr → Prop} {r4 : List Sl} {H4 : Hp}, Step M3 H3 M4 H4 → SI (J.blk p (.lst vacc)) M4 r4 σ3 H4 → SI J M4 (wipeR r4 vs) (L2.wipe σ vs) H4 ∧ Step M1 H1 M4 H4 ∧ M4 p ∧ H4 p = some (.lst vacc) ∧ RepL J.G M4 H4 acc vacc ∧
              (∀ (j : Nat) s, (wipeR r4 vs)[j]? = some s → s.owned = true → (L2.wipe σ vs)[j]? ≠ some (some (.ref p))) := fun {M4 r4 H4} st4 B4 => by
            have W4 := SI.wipe B4 vs
            rw [ew'] at W4
            have hp4 : H4 p = some (.lst vacc) := B4.keep p _ (by show (if p = p then _ else _) = _; rw [if_pos rfl]) hio
            exact ⟨W4.ofBlk h0 I1.io0, st2.trans (st3.trans st4), B4.m0 p (.inr rfl), hp4, RepL.step ((Step.ext ex).trans (st3.trans st4)) I'.md _ _ racc, W4.flBlk hio⟩
          have hft : Out (J.blk p (.lst vacc)) RB M3 H3 σ3 (ft r3) (fun b H4 => if b = true then tEx J fe σ3 H4 fun y H5 => ∃ acc, H5 p = some (.lst acc) ∧ acc.length < sizeLine ∧ (∃ M2 r2 acc2 vacc2, SI J M2 r2 (L2.wipe σ vs) (upd H5 p (.lst (acc ++ [y]))) ∧ Step M1 H1 M2 (upd H5 p (.lst (acc ++ [y]))) ∧ M2 p ∧ (upd H5 p (.lst (acc ++ [y]))) p = some (.lst vacc2) ∧ RepL J.G M2 (upd H5 p (.lst (acc ++ [y]))) acc2 vacc2 ∧
              (∀ (j : Nat) s, r2[j]? = some s → s.owned = true → (L2.wipe σ vs)[j]? ≠ some (some (.ref p))) ∧ lcLB (ck i0 ds) g ft fe vs (ds.drop (i + 1)) acc2 r2 = lcLB (ck i0 ds) g ft fe vs ds [] (wipeR r1 vs))
            else (∃ M2 r2 acc2 vacc2, SI J M2 r2 (L2.wipe σ vs) H4 ∧ Step M1 H1 M2 H4 ∧ M2 p ∧ H4 p = some (.lst vacc2) ∧ RepL J.G M2 H4 acc2 vacc2 ∧
              (∀ (j : Nat) s, r2[j]? = some s → s.owned = true → (L2.wipe σ vs)[j]? ≠ some (some (.ref p))) ∧ lcLB (ck i0 ds) g ft fe vs (ds.drop (i + 1)) acc2 r2 = lcLB (ck i0 ds) g ft fe vs ds [] (wipeR r1 vs))) := by
            cases et : ft r3 with
            | exn x r4 => rw [et] at eqn; cases eqn
            | bad => rw [et] at eqn; cases eqn
            | ok b r4 =>
              rw [et] at eqn
              have eqn : (if b = true then (fe r4).bind fun y r3 => if acc.length < LIM then lcLB (ck i0 ds) g ft fe vs (ds.drop (i + 1)) (acc ++ [y]) (wipeR r3 vs) else .bad else lcLB (ck i0 ds) g ft fe vs (ds.drop (i + 1)) acc (wipeR r4 vs)) = RE.ok ys0 rf0 := eqn
              intro b' M4 H4 st4 B4 eb
              have eb : b' = b := eb
              subst eb
              by_cases hb : b' = true
              · rw [if_pos hb] at eqn ⊢
                refine ⟨J.blk p (.lst vacc), JB.blk, M4, r4, B4, ?_⟩
                cases ee : fe r4 with
                | exn x r5 => rw [ee] at eqn; cases eqn
                | bad => rw [ee] at eqn; cases eqn
                | ok y r5 =>
                  rw [ee] at eqn
                  have eqn : (if acc.length < LIM then lcLB (ck i0 ds) g ft fe vs (ds.drop (i + 1)) (acc ++ [y]) (wipeR r5 vs) else .bad) = RE.ok ys0 rf0 := eqn
                  intro vy M5 H5 st5 B5 ry
                  by_cases hz : acc.length < LIM
                  · rw [if_pos hz] at eqn
                    obtain ⟨I5, s5, m5, h5, ra5, f5⟩ := nextT (st4.trans st5) B5
                    refine ⟨vacc, h5, by rw [← racc.length]; exact lt_size (Nat.le_of_lt hz), M5, wipeR r5 vs, acc ++ [y], vacc ++ [vy], ?_, ?_, m5, upd_same, ?_, f5, ?_⟩
                    · exact I5.writeFl m5 h0 f5 kept_upd (I5.md.upd trivial)
                    · exact s5.trans ⟨fun b u hb n => by rw [upd_ne (by rintro rfl; exact n m5)]; exact hb, fun b h => .inl h⟩
                    · have stw : Step M5 H5 M5 (upd H5 p (.lst (vacc ++ [vy]))) := ⟨fun b u hb n => by rw [upd_ne (by rintro rfl; exact n m5)]; exact hb, fun b h => .inl h⟩
                      exact (RepL.step stw I5.md _ _ ra5).append ⟨vy, [], rfl, Rep.step stw I5.md _ _ ry, rfl⟩
                    · rw [hne]; exact eqn
                  · rw [if_neg hz] at eqn; cases eqn
              · rw [if_neg hb] at eqn ⊢
                obtain ⟨I5, s5, m5, h5, ra5, f5⟩ := nextT st4 B4
                exact ⟨M4, wipeR r4 vs, acc, vacc, I5, s5, m5, h5, ra5, f5, by rw [hne]; exact eqn⟩
          exact hft
        · rw [e3] at eqn; cases eqn
      · have e : i = ds.length := by omega
        subst e
        rw [List.drop_length] at eqn
        have eqn : (if ck i0 ds r' = true then RE.ok acc r' else RE.bad) = lcLB (ck i0 ds) g ft fe vs ds [] (wipeR r1 vs) := eqn
        rw [if_pos hck] at eqn
        refine .inl ⟨it2 (Nat.le_refl _), ?_⟩
        have hq := hQ acc r' eqn.symm
        have Ib := SI.backTo I1 I' st' no
        refine hq (.ref p) M' H' st' Ib ⟨p, rfl, mp, ⟨vacc, hpv, racc⟩, n0, h0, fun j s hj ho e => ?_⟩
        by_cases hjv : j ∈ vs
        · have z := (Ib.slot j s hj).ownM ho e
          have hlt : j < r'.length := by
            have := (List.getElem?_eq_some_iff.mp hj).1
            rwa [back_len] at this
          rw [back_in r1 r' hlt hjv] at hj
          cases hj
          have hx : ∃ s0, r1[j]? = some s0 := ⟨r1[j]'(by rw [I1.len, ← wipe_length σ vs, ← I'.len]; exact hlt), List.getElem?_eq_getElem _⟩
          obtain ⟨s0, hs0⟩ := hx
          rw [List.getD_eq_getElem?_getD, hs0] at ho
          have no' := List.all_eq_true.mp no j hjv
          rw [hs0] at no'
          simp only [Option.getD_some] at ho
          dsimp only at no'
          rw [ho] at no'
          cases no'
        · rw [back_get r1 r' hjv] at hj
          exact fl' j s hj ho (by rw [wipe_get hjv]; exact e)
    · exact h1.elim
  · exact h1.elim
/-- a comprehension, as an owned list -/
theorem n_lcB (i0 : Nat) {x0 : Str} {p0 : Pos} (vs : List Nat) (hc : X.calm = true) (hN : X.N.Nodup) (ok : GOk g) (bk : BlkOk X.N X.env.scope scope own) (hvs : own.map (·.2) = vs)
    (hg : ∀ (s : Shared) (H : Hp) (C : Addr) (cl : List (Str × Addr)) (fp : List Addr) (J' : Jx), JB J J' → PG (X.blk s H scope (compEnvC scope cl C X.env) fp) tg (tG J' vs g))
    (ht : ∀ (s : Shared) (H : Hp) (C : Addr) (cl : List (Str × Addr)) (fp : List Addr) (J' : Jx), JB J J' → PTs (X.blk s H scope (compEnvC scope cl C X.env) fp) ifs (tT J' ft))
    (he : ∀ (s : Shared) (H : Hp) (C : Addr) (cl : List (Str × Addr)) (fp : List Addr) (J' : Jx), JB J J' → PE (X.blk s H scope (compEnvC scope cl C X.env) fp) elt (tE J' fe)) (hs : ∀ x, foldedSetIterable (.Name x0 p0) X.env x = pure x := by intro _; rfl)
    (hN0 : X.N[i0]? = some x0 := by rfl) (hv0 : Vis X.env.scope x0 := by first | exact Or.inl rfl | exact Or.inr (Or.inl rfl) | exact Or.inr (Or.inr rfl)) (hd0 : (x0 == ("__debug__" : Str)) = false := by decide) (hcd0 : (x0 == ("__classdict__" : Str)) = false := by decide) :
    PE X (.ListComp elt [⟨tg, .Name x0 p0, ifs, 0⟩] scope pos) (tN J (lcompB i0 g ft fe vs)) := by
  subst hvs
  exact PEi (pe_lc hc hN (pi_any (pe_var hN0 hv0 hd0 hcd0)) bk (fun s H C cl fp => gx_of fun J' b => hg s H C cl fp J' b) (fun s H C cl fp => tx_of fun J' b => ht s H C cl fp J' b) (fun s H C cl fp => ex_of fun J' b => he s H C cl fp J' b) hs) fun σ H Q h => lc_readB ok i0 σ H Q h
end
end DL

set_option Elab.async false
set_option linter.all false
set_option maxRecDepth 100000
set_option maxHeartbeats 4000000
namespace DL
open PySem L2 PySem.Spec
open PyProof.Rows

/-! ### the end: the law's promise, at the heap behind the top -/
section
variable {P : Program} {w : World} {K : PySem.W.Frag} {mg mb : Str → Option Value} {k : Nat} {fa p : Addr} {fd : FuncData} {x : Str} {sp : Sp} {t : Shared} {us : List Value} {ms : List Int}
/-- .. from an abstract heap that tracks the script alone, or nothing -/
theorem end_core (kx : K.In t.heap) (gn : t.heap.Ns mainGlobals mg) (bn : t.heap.Ns builtinsNs mb) (bb : ∀ y : Str, y ≠ "__name__" → mb y = bootBuiltins y) (lim : t.heap.NoLimit) (gz : t.gens = #[])
    (at0 : t.heap.get? p = some { cls := .type "list", data := .seq us.toArray }) (rm : Room k callerA) (F : ∀ b : Heap, K.In b → b.Ns mainGlobals mg → FnG P w K mg b k fa fd [x] sp) (bd : ∀ (s : Shared) (u : Value), BindsTo s fd ⟨[u], []⟩ [(x, u)])
    (Hq : Hp) (only : Only Hq) (hs : sp [.ref p] Hq (fun v _ => v = .bl true) fun _ _ _ => False) (ok : HOk P w Hq t.heap) (at1 : ∀ b, Hq b ≠ none → b = p) (at2 : Hq p ≠ none → K.lookup p = none) :
    codeAny (model P w) callerA (.call (.ref fa) ⟨[.ref p], []⟩) (fun r z => r = .ok (.ret (.bool true)) ∧ OldK t.heap z.heap ∧ z.os = t.os ∧ AllBare z.gens) t := by
  have dictless : ∀ {b : Addr} {o : Obj} {es : Array DictEntry} {n : Nat}, t.heap.get? b = some o → o.data = .dict es n → Hq b = none := fun {b o es n} e1 e2 => by
    rcases Option.eq_none_or_eq_some (Hq b) with q | ⟨u, q⟩
    · exact q
    · exfalso
      have eb : b = p := at1 b (by rw [q]; intro z; cases z)
      rw [eb, at0] at e1
      cases e1
      have e3 : Data.seq us.toArray _ = Data.dict es n := e2
      cases e3
  have keepNs : ∀ {b : Addr} {m : Str → Option Value}, t.heap.Ns b m → (hidT t.heap Hq).Ns b m := fun {b m} q => by
    obtain ⟨o, es, n, e1, e2, rest⟩ := q
    exact ⟨o, es, n, hidT_get e1 (dictless e1 e2), e2, rest⟩
  have kb : K.In (hidT t.heap Hq) := fun b o e => hidT_get (kx b o e) (by
    rcases Option.eq_none_or_eq_some (Hq b) with q | ⟨u, q⟩
    · exact q
    · exfalso
      have eb : b = p := at1 b (by rw [q]; intro z; cases z)
      rw [eb, at2 (by rw [← eb, q]; intro z; cases z)] at e
      cases e)
  have md : Mod K mg (hidT t.heap Hq) := by
    obtain ⟨mc, l1, l2⟩ := lim
    exact ⟨kb, keepNs gn, ⟨mb, keepNs bn, bb⟩, ⟨mc, keepNs l1, l2⟩⟩
  have none_in : ∀ b : Addr, b ∉ ([] : List Addr) := fun b z => by cases z
  have e0 : Env0 P w K mg (hidT t.heap Hq) callerA [] t Hq := ⟨rfl, md, fun b o e => of_hidT e, Nat.le_of_eq (hidT_size _ _), trivial, fun b z => absurd z (none_in b), ok, .of_eq gz⟩
  have go := (F _ kb (keepNs gn)).run callerA [] t Hq ⟨[.ref p], []⟩ [.ref p] [.ref p] _ _ rm rfl e0 (bd t (.ref p)) (.cons rfl .nil) hs
  refine codeAny_mono go fun r z q => ?_
  match r, q with
  | .error e, q =>
    obtain ⟨_, _, _, _, _, _, _, _, _, _, _, _, no⟩ := q
    exact no.elim
  | .ok .next, q => exact q.elim
  | .ok .brk, q => exact q.elim
  | .ok .cont, q => exact q.elim
  | .ok (.ret u), q =>
    obtain ⟨v, Hz, os, bare, un, okz, rv, ev⟩ := q
    cases ev
    obtain rfl : u = Value.bool true := rv
    refine ⟨rfl, OldK.of_keep fun b o e => ?_, os, bare⟩
    rcases only b with q | ⟨ob, xs, q⟩
    · exact un.keep b o e q (none_in b) (none_in b)
    · obtain ⟨e1, _⟩ := ok b _ q
      obtain ⟨e2, _⟩ := okz b _ (un.frzs b ob _ q)
      rw [e] at e1; cases e1
      exact e2
theorem end_call (kx : K.In t.heap) (gn : t.heap.Ns mainGlobals mg) (bn : t.heap.Ns builtinsNs mb) (bb : ∀ y : Str, y ≠ "__name__" → mb y = bootBuiltins y) (lim : t.heap.NoLimit) (gz : t.gens = #[])
    (at0 : t.heap.get? p = some { cls := .type "list", data := .seq us.toArray }) (ia : IntsAre us ms) (le : ms.length ≤ sizeLine) (rm : Room k callerA) (F : ∀ b : Heap, K.In b → b.Ns mainGlobals mg → FnG P w K mg b k fa fd [x] sp) (bd : ∀ (s : Shared) (u : Value), BindsTo s fd ⟨[u], []⟩ [(x, u)])
    (hs : ∀ H : Hp, SqL K H p (ms.map V.int) → sp [.ref p] H (fun v _ => v = .bl true) fun _ _ _ => False) :
    codeAny (model P w) callerA (.call (.ref fa) ⟨[.ref p], []⟩) (fun r z => r = .ok (.ret (.bool true)) ∧ OldK t.heap z.heap ∧ z.os = t.os ∧ AllBare z.gens) t := by
  have rv := vals_ints ia
  have el := ia.length
  rcases Option.eq_none_or_eq_some (K.lookup p) with q | ⟨o, q⟩
  · have own : (fun b => if b = p then some (HO.frz { cls := .type "list", data := .seq us.toArray } (.lst (ms.map V.int))) else none : Hp) p = some (.frz { cls := .type "list", data := .seq us.toArray } (.lst (ms.map V.int))) := if_pos rfl
    refine end_core kx gn bn bb lim gz at0 rm F bd (fun b => if b = p then some (.frz { cls := .type "list", data := .seq us.toArray } (.lst (ms.map V.int))) else none) (fun b => ?_) (hs _ (.inl (.inr ⟨_, own⟩))) (fun b u e => ?_) (fun b nz => ?_) fun _ => q
    · by_cases hb : b = p
      · exact .inr ⟨_, _, if_pos hb⟩
      · exact .inl (if_neg hb)
    · by_cases hb : b = p
      · have e2 := (if_pos hb).symm.trans e
        cases e2
        rw [hb]
        exact ⟨at0, by rw [List.length_map]; exact le, us, _, rv, at0⟩
      · have e2 := (if_neg hb).symm.trans e
        cases e2
    · exact Classical.byContradiction fun hb => nz (if_neg hb)
  · have e := kx p o q
    rw [at0] at e
    cases e
    refine end_core kx gn bn bb lim gz at0 rm F bd (fun _ => none) (fun _ => .inl rfl) (hs _ (.inr ⟨_, us.toArray, _, q, rfl, rfl, rfl, by rw [List.size_toArray, el]; exact le, by simpa using rv⟩)) (fun b u e => ?_) (fun b z => absurd rfl z) fun z => absurd rfl z
    have e2 : (none : Option HO) = some u := e
    cases e2
end
/-- what k_head leaves (case hc) -/
theorem walkG {l : PySem.W.OpenLaw} {k : Nat} {q : Program} {loose : List Str} {XP : (Str → Option Value) → Heap → Prop} {YP : World → Heap → Prop} {d : DefRec} {K : Params → PySem.W.Frag}
    (most : l.most = some 63) (plain : d.params.defaults = []) (rm : Room k callerA) (inY : ∀ (w : World) (h : Heap), YP w h → (K w.params).In h)
    (F : ∀ (w : World) (mg : Str → Option Value) (fa : Addr) (h : Heap), (K w.params).In h → h.Ns mainGlobals mg → mg d.name = some (.ref fa) →
      ∃ (fd : FuncData) (Fd : List D → RF), (∀ (s : Shared) (u : Value), BindsTo s fd ⟨[u], []⟩ [("script", u)]) ∧ (∀ ns : List Int, ns.length ≤ 63 → ∃ io, Fd [.scr ns] = .ok (.bl true) io) ∧
        ∀ b : Heap, (K w.params).In b → b.Ns mainGlobals mg → FnG l.prog w (K w.params) mg b k fa fd ["script"] (spP ⟨K w.params, mg⟩ Fd)) :
    PySem.W.WalkO q loose XP YP l.row.toRowW d [] (fun f vs => PySem.call f vs) := by
  refine Att.attach_call most plain fun w s0 t mg mb fa o pm cd doc p us ms gr y ho hd hcd hmg at0 ia len gz => ?_
  have kx := inY w _ y
  obtain ⟨fd, Fd, bd, law, G⟩ := F w mg fa _ kx gr.T.g hmg
  refine end_call kx gr.T.g gr.T.b gr.T.builtins gr.T.nolimit gz at0 ia (Nat.le_trans len (by decide)) rm G bd fun H sq => ?_
  obtain ⟨io, e⟩ := law ms len
  refine ⟨fun _ => False, [.scr ms], fun _ z => z.elim, ⟨_, [], rfl, ⟨p, rfl, ?_⟩, rfl⟩, ?_⟩
  · rcases sq with z | z
    · exact .inl ⟨fun z => z, z⟩
    · exact .inr z
  · rw [e]
    exact fun v H' _ rv => rv
end DL

set_option Elab.async false
set_option linter.all false
set_option maxRecDepth 100000
set_option maxHeartbeats 4000000
namespace DL
open PySem L2
open PyProof.Rows

/-! ### what the top has written, def by def -/
structure FnAt (K : PySem.W.Frag) (mg : Str → Option Value) (x qual : Str) (st : Stmt) (ps : List Str) : Prop where
  ex : ∃ f fd, Fun K x qual st f fd ∧ mg x = some (.ref f) ∧ PySem.W.keepIn K (.ref f) = true ∧ Binds K fd ps []
/-- .. and its promise -/
structure Has (P : Program) (w : World) (K : PySem.W.Frag) (mg : Str → Option Value) (base : Heap) (k : Nat) (x : Str) (ps : List Str) (sp : Sp) : Prop where
  ex : ∃ f fd, FnG P w K mg base k f fd ps sp ∧ mg x = some (.ref f) ∧ PySem.W.keepIn K (.ref f) = true ∧ Binds K fd ps []
section
variable {P : Program} {w : World} {K : PySem.W.Frag} {mg : Str → Option Value} {base : Heap} {x qual : Str} {st : Stmt} {N ps : List Str} {k : Nat} {fb : List Sl → RS}
theorem has_P (A : FnAt K mg x qual st ps) (S : FnScope N ps (defScope st)) (hl : ps.length ≤ N.length) (B : ∀ f, BodyOk P w K mg base N qual st f k fb) : Has P w K mg base (k + 1) x ps (spP ⟨K, mg⟩ (runP N.length ps.length fb)) := by
  obtain ⟨f, fd, F, h1, h2, h3⟩ := A.ex
  exact ⟨f, fd, fnP F S hl (B f), h1, h2, h3⟩
theorem has_I (A : FnAt K mg x qual st ps) (S : FnScope N ps (defScope st)) (hl : ps.length ≤ N.length) (B : ∀ f, BodyOk P w K mg base N qual st f k fb) : Has P w K mg base (k + 1) x ps (spI ⟨K, mg⟩ (runI N.length ps.length fb)) := by
  obtain ⟨f, fd, F, h1, h2, h3⟩ := A.ex
  exact ⟨f, fd, fnI F S hl (B f), h1, h2, h3⟩
theorem Has.mono {j : Nat} {sp : Sp} (h : Has P w K mg base j x ps sp) (e : j ≤ k) : Has P w K mg base k x ps sp := by
  obtain ⟨f, fd, F, r⟩ := h.ex
  exact ⟨f, fd, F.mono e, r⟩
/-- a promise that asks for nothing that comes about -/
theorem has_bad (A : FnAt K mg x qual st ps) : Has P w K mg base k x ps (spP ⟨K, mg⟩ fun _ => .bad) := by
  obtain ⟨f, fd, F, h1, h2, h3⟩ := A.ex
  exact ⟨f, fd, ⟨fun _ _ _ _ ⟨_, _, _, _, z⟩ => z.elim, fun _ _ _ _ _ _ _ _ _ _ _ _ _ _ ⟨_, _, _, _, z⟩ => z.elim⟩, h1, h2, h3⟩
theorem fnAt_mk {h : Heap} {f : Addr} {oc : Value} {od an : Option Addr} {osl : Array (Option Value)} {kV doc pm cdv ct : Value} (X : K.In h) (G : h.Ns mainGlobals mg) (a : PySem.W.nsIn K mainGlobals x = some (some (.ref f)))
    (l : K.lookup f = some ⟨oc, od, .func (PySem.W.fnOf x qual (defArgs st) (defBody st) (defScope st) .none kV doc pm an cdv ct), osl⟩) (c : PySem.W.codeIn K cdv qual = true) (kp : PySem.W.keepIn K (.ref f) = true)
    (hb : ∀ (kV doc pm : Value) (an : Option Addr) (cdv ct : Value) (us : List Value), us.length = ps.length → bindArgs (PySem.W.fnOf x qual (defArgs st) (defBody st) (defScope st) .none kV doc pm an cdv ct) ⟨us, []⟩ = pure (ps.zip us)) : FnAt K mg x qual st ps :=
  ⟨f, _, fun_mk l c kp, PySem.W.mg_of X G a, kp, (fun_mk (st := st) l c kp).binds hb⟩
end

/-! ### calls by these -/
section
variable {X : Cx} {J : Jx} {k : Nat} {ps : List Str} {F : List D → RF} {x y : Str} {p pos py : Pos} {e : Expr} {es : List Expr} {fs : List Sl → RE (List D)}
theorem hK_ (hG : J.G = ⟨X.K, X.mg⟩) : X.K = J.G.K := by rw [hG]
theorem hM_ (hG : J.G = ⟨X.K, X.mg⟩) : X.mg = J.G.mg := by rw [hG]
theorem c_P (hG : J.G = ⟨X.K, X.mg⟩) (T : Has X.prog X.w X.K X.mg X.base k x ps (spP ⟨X.K, X.mg⟩ F)) (hr : Room k X.A) (hgd : X.A.guards = some []) (tk : Takes X J.W) (ha : PA X (e :: es) (tA J fs)) (hg : Gl X x := by rfl) (hdb : (x == ("__debug__" : Str)) = false := by decide)
    (he : starEach (e :: es) X.env = (false, eval e X.env) :: starEach es X.env := by rfl) (hpl : (backTo pos (starEach es X.env)).any (·.1) = false := by rfl) : PE X (.Call (.Name x p) (e :: es) [] pos) (tE J (call F fs)) := by
  obtain ⟨f, fd, Fk, hm, hk, hb⟩ := T.ex
  exact e_call (by rw [hG]; exact Fk) hr hgd tk hg hm hk hb ha hdb he hpl
theorem c_B (hG : J.G = ⟨X.K, X.mg⟩) (T : Has X.prog X.w X.K X.mg X.base k x ps (spP ⟨X.K, X.mg⟩ F)) (hr : Room k X.A) (hgd : X.A.guards = some []) (tk : Takes X J.W) (ha : PA X (e :: es) (tAB J fs)) (hg : Gl X x := by rfl) (hdb : (x == ("__debug__" : Str)) = false := by decide)
    (he : starEach (e :: es) X.env = (false, eval e X.env) :: starEach es X.env := by rfl) (hpl : (backTo pos (starEach es X.env)).any (·.1) = false := by rfl) : PE X (.Call (.Name x p) (e :: es) [] pos) (tE J (callB F fs)) := by
  obtain ⟨f, fd, Fk, hm, hk, hb⟩ := T.ex
  exact e_callB (by rw [hG]; exact Fk) hr hgd tk hg hm hk hb ha hdb he hpl
theorem c_I (i : Nat) (hG : J.G = ⟨X.K, X.mg⟩) (T : Has X.prog X.w X.K X.mg X.base k x ps (spI ⟨X.K, X.mg⟩ F)) (hr : Room k X.A) (hgd : X.A.guards = some []) (tk : Takes X J.W) (ha : PA X es (tA J fs)) (hN : X.N[i]? = some y := by rfl)
    (hv : Vis X.env.scope y := by first | exact Or.inl rfl | exact Or.inr (Or.inl rfl) | exact Or.inr (Or.inr rfl)) (hg : Gl X x := by rfl) (hd : (y == ("__debug__" : Str)) = false := by decide) (hcd : (y == ("__classdict__" : Str)) = false := by decide)
    (hdb : (x == ("__debug__" : Str)) = false := by decide) (he : starEach (.Name y py :: es) X.env = (false, eval (.Name y py) X.env) :: starEach es X.env := by rfl) (hpl : (backTo pos (starEach es X.env)).any (·.1) = false := by rfl) :
    PE X (.Call (.Name x p) (.Name y py :: es) [] pos) (tE J (callI i F fs)) := by
  obtain ⟨f, fd, Fk, hm, hk, hb⟩ := T.ex
  exact e_callI i (by rw [hG]; exact Fk) hr hgd tk hg hm hk hb ha hN hv hd hcd hdb he hpl
theorem takes_none (Y : Cx) : Takes Y fun _ _ _ _ => False := fun u s' ⟨_, _, _, _, _, _, _, _, _, _, _, _, _, _, _, _, z⟩ => z.elim
theorem takes_blk {Y : Cx} {J J' : Jx} (b : JB J J') : Takes Y J'.W := by rw [b.W]; exact takes_none Y
theorem takes_sui {Y : Cx} {J : Jx} {a : Addr} {cls : Value} {d : Option Addr} : Takes Y (J.sui a cls d).W := takes_none Y
end

/-! ### comparisons as tests -/
section
variable {X : Cx} {J : Jx} {a b c : Expr} {fa fb fc : List Sl → RE D} {pos : Pos}
theorem tv_core {f : List Sl → RE D} {σ : L2.St} {H : Hp} {Q : Bool → Hp → Prop} (h : tT J (tv f) σ H Q) : tE J f σ H fun x H' => ∃ k, x = .bl k ∧ Q k H' := by
  obtain ⟨M, r, I, h⟩ := h
  exact ⟨M, r, I, Out.bind h fun d r1 v M1 H1 st1 I1 rd1 h1 => by
    cases d with
    | bl b => cases rd1; exact ⟨b, rfl, h1 _ M1 H1 Step.refl I1 rfl⟩
    | _ => exact h1.elim⟩
theorem t_cmp {op : CmpOp} {r2 : R2} {g : D → D → Option D} (ho : OpR X (compareOp op) r2) (hg : OpD J.G r2 g) (ha : PE X a (tE J fa)) (hb : PE X b (DL.tB J fb)) (hm : behindInMarks op b = false) : PT X (.Compare a [op] [b] pos) (tT J (tv (bin g fa fb))) :=
  PTi (pt_cmpR ho ha hb hm) fun σ H Q h => bin_core hg σ H _ (tv_core h)
theorem t_lt (ha : PE X a (tE J fa)) (hb : PE X b (DL.tB J fb)) : PT X (.Compare a [.Lt] [b] pos) (tT J (tv (bin gLt fa fb))) := t_cmp op_lt (od_int0 fun _ _ _ _ _ => rfl) ha hb (nomark _)
theorem t_le (ha : PE X a (tE J fa)) (hb : PE X b (DL.tB J fb)) : PT X (.Compare a [.LtE] [b] pos) (tT J (tv (bin gLe fa fb))) := t_cmp op_le (od_int0 fun _ _ _ _ _ => rfl) ha hb (nomark _)
theorem t_gt (ha : PE X a (tE J fa)) (hb : PE X b (DL.tB J fb)) : PT X (.Compare a [.Gt] [b] pos) (tT J (tv (bin gGt fa fb))) := t_cmp op_gt (od_int0 fun _ _ _ _ _ => rfl) ha hb (nomark _)
theorem t_ge (ha : PE X a (tE J fa)) (hb : PE X b (DL.tB J fb)) : PT X (.Compare a [.GtE] [b] pos) (tT J (tv (bin gGe fa fb))) := t_cmp op_ge (od_int0 fun _ _ _ _ _ => rfl) ha hb (nomark _)
theorem t_eq (hK : X.K = J.G.K) (hu : X.A.units + 64 < cLine) (ha : PE X a (tE J fa)) (hb : PE X b (DL.tB J fb)) : PT X (.Compare a [.Eq] [b] pos) (tT J (tv (bin (gEq false) fa fb))) := t_cmp (hK ▸ op_eqP hu) od_eq ha hb (nomark _)
theorem t_ne (hK : X.K = J.G.K) (hu : X.A.units + 64 < cLine) (ha : PE X a (tE J fa)) (hb : PE X b (DL.tB J fb)) : PT X (.Compare a [.NotEq] [b] pos) (tT J (tv (bin (gEq true) fa fb))) := t_cmp (hK ▸ op_neP hu) od_eq ha hb (nomark _)
theorem t_in (hK : X.K = J.G.K) (hu : X.A.units + 64 < cLine) (ha : PE X a (tE J fa)) (hb : PE X b (DL.tB J fb)) (hm : behindInMarks .In b = false := by rfl) : PT X (.Compare a [.In] [b] pos) (tT J (tv (bin (gIn false) fa fb))) := t_cmp (hK ▸ op_inP hu) od_in ha hb hm
theorem t_ni (hK : X.K = J.G.K) (hu : X.A.units + 64 < cLine) (ha : PE X a (tE J fa)) (hb : PE X b (DL.tB J fb)) (hm : behindInMarks .NotIn b = false := by rfl) : PT X (.Compare a [.NotIn] [b] pos) (tT J (tv (bin (gIn true) fa fb))) := t_cmp (hK ▸ op_niP hu) od_in ha hb hm
theorem t_isN {j : Nat} {p : Pos} (ha : PE X a (tE J fa)) : PT X (.Compare a [.Is] [.Constant .none j p] pos) (tT J (tv (un (gIsN false) fa))) :=
  PTi (pt_cmp (pc_isN ha) rfl) fun σ H Q h => by
    obtain ⟨M, r, I, h⟩ := tv_core h
    exact ⟨M, r, I, Out.bind h fun x r1 vx M1 H1 st1 I1 rx h1 => by
      rw [gIsN_eq false rx, Bool.xor_false] at h1
      exact h1 _ M1 H1 Step.refl I1 rfl⟩
theorem t_notN {j : Nat} {p : Pos} (ha : PE X a (tE J fa)) : PT X (.Compare a [.IsNot] [.Constant .none j p] pos) (tT J (tv (un (gIsN true) fa))) :=
  PTi (pt_cmp (pc_notN ha) rfl) fun σ H Q h => by
    obtain ⟨M, r, I, h⟩ := tv_core h
    exact ⟨M, r, I, Out.bind h fun x r1 vx M1 H1 st1 I1 rx h1 => by
      rw [gIsN_eq true rx, Bool.xor_true] at h1
      exact h1 _ M1 H1 Step.refl I1 rfl⟩
theorem t_chain {op op' : CmpOp} {r2 r2' : R2} {g g' : D → D → Option D} (ho : OpR X (compareOp op) r2) (ho' : OpR X (compareOp op') r2') (hg : OpD J.G r2 g) (hg' : OpD J.G r2' g') (ha : PE X a (tE J fa)) (hb : PE X b (tE J fb)) (hc : PE X c (DL.tB J fc))
    (hm : lastMarks [op, op'] [b, c] = false := by with_unfolding_all rfl) : PT X (.Compare a [op, op'] [b, c] pos) (tT J (tv (vchain g g' fa fb fc))) :=
  PTi (pt_chain ho ho' ha hb hc hm) fun σ H Q h => chain_core hg hg' σ H _ (tv_core h)
end

/-! ### the package's errors -/
structure HasEx (P : Program) (w : World) (K : PySem.W.Frag) (mg : Str → Option Value) (c : Str) (fs : List Str) : Prop where
  ex : ∃ C fI mA, DLX.Cl P K mg c C fI fs ∧ DLX.InitOk P w K mg C fI fs.length mA ∧ ∀ (vs : List V) (us : List Value), vs.length = fs.length → Vals vs us → ∀ f, RelO ((fs.zip vs).lookup f) (mA us f)
section
variable {X : Cx} {J : Jx} {c : Str} {fs : List Str} {e : Expr} {es : List Expr} {f : List Sl → RE (List D)} {p pos pos2 : Pos}
theorem r_ex (hG : J.G = ⟨X.K, X.mg⟩) (T : HasEx X.prog X.w X.K X.mg c fs) (hc : X.calm = true) (tk : Takes X J.W) (hr : X.A.depth + 2 < recursionLimit) (ha : PA X (e :: es) (tA J f)) (hfs : fs.length ≤ 10 := by decide) (hg : Gl X c := by rfl) (hdb : (c == ("__debug__" : Str)) = false := by decide)
    (he : starEach (e :: es) X.env = (false, eval e X.env) :: starEach es X.env := by rfl) (hpl : (backTo pos (starEach es X.env)).any (·.1) = false := by rfl) : PS X (.Raise (some (.Call (.Name c p) (e :: es) [] pos)) none pos2) (tS J (sraise c fs f)) := by
  obtain ⟨C, fI, mA, T1, T2, T3⟩ := T.ex
  exact s_raise (hM_ hG) hc tk T1 T2 T3 hfs hr ha hg hdb he hpl
end
theorem hasEx1 {P : Program} {w : World} {K : PySem.W.Frag} {mg : Str → Option Value} {c f q : Str} {C fI : Addr} {p0 p1 ap q1 pos pos' a1 a2 a3 a4 u1 u2 : Pos} (T : DLX.Cl P K mg c C fI [f])
    (N : DLX.Fn P K fI C q (DLX.args1 f u1 u2) (DLX.body1 f p0 p1 ap q1 pos pos' a1 a2 a3 a4) (DLX.scope1 f)) (hne : (("self" : Str) == f) = false := by decide) (hd : (f == ("__debug__" : Str)) = false := by decide)
    (lf : (DLX.scope1 f).names.lookup f = some .local := by rfl) (lk : (DLX.scope1 f).names.lookup ("super" : Str) = some .globalImplicit := by rfl) (lc : (DLX.scope1 f).names.lookup ("__class__" : Str) = some .free := by rfl)
    (hbd : ∀ (doc pm ct : Value) (an : Option Addr) (cda cc : Addr) (y z : Value), bindArgs (PySem.W.ksFn "__init__" q (DLX.args1 f u1 u2) (DLX.body1 f p0 p1 ap q1 pos pos' a1 a2 a3 a4) (DLX.scope1 f) .none .none doc pm an (.ref cda) ct cc) ⟨[y, z], []⟩ = pure [(("self" : Str), y), (f, z)] := by intros; rfl)
    (hev : ∀ (L cda cc : Addr), ∃ pl, eval (.Call (.Attribute (.Call (.Name "super" p0) [] [] p1) "__init__" ap) [.Name f q1] [] pos) (PySem.W.ksEnv q (DLX.scope1 f) L fI (.ref cda) cc) = (do
      let ov ← attributeBase (.Call (.Name "super" p0) [] [] p1) "__init__" (PySem.W.ksEnv q (DLX.scope1 f) L fI (.ref cda) cc) (eval (.Call (.Name "super" p0) [] [] p1) (PySem.W.ksEnv q (DLX.scope1 f) L fI (.ref cda) cc))
      standAt ap.atName
      let (g, first) ← holding [ov] (getMethod ov "__init__" pl)
      callWith pos g first (backTo pos (starEach [.Name f q1] (PySem.W.ksEnv q (DLX.scope1 f) L fI (.ref cda) cc))) []) := by intros; exact ⟨_, rfl⟩)
    (hsw1 : ∀ (L cda cc : Addr), swapsWith (.Call (.Attribute (.Call (.Name "super" p0) [] [] p1) "__init__" ap) [.Name f q1] [] pos) none pos'.line (PySem.W.ksEnv q (DLX.scope1 f) L fI (.ref cda) cc) = pure false := by intros; rfl)
    (hsw2 : ∀ (L cda cc : Addr), swapsWith (.Name f a3) (some (.Attribute (.Name "self" a1) f a2)) a4.line (PySem.W.ksEnv q (DLX.scope1 f) L fI (.ref cda) cc) = pure false := by intros; rfl) : HasEx P w K mg c [f] := by
  refine ⟨C, fI, fun us y => if y = f then us.head? else none, T, ?_, ?_⟩
  · intro A R s mb x t0 us hl kx hlim hg hb hbb hx hnx hroom hq
    match us, hl with
    | [v], _ => exact DLX.held_init1 T N (List.mem_singleton_self _) hne hd lf lk lc hbd hev hsw1 hsw2 kx hlim hg hb hbb hx hnx hroom hq
  · intro vs us hl rv g
    match vs, hl, rv with
    | [v], _, rv =>
      cases rv with
      | cons r rn =>
        cases rn
        by_cases e : g = f
        · subst e
          show RelO (List.lookup g [(g, v)]) (if g = g then _ else none)
          rw [if_pos rfl]
          have q : List.lookup g [(g, v)] = some v := by simp [List.lookup]
          rw [q]
          exact r
        · show RelO (List.lookup g [(f, v)]) (if g = f then _ else none)
          rw [if_neg e]
          have qw : (g == f) = false := by simpa using e
          have q : List.lookup g [(f, v)] = none := by simp [List.lookup, qw]
          rw [q]
          trivial
section
variable {X : Cx} {J : Jx} {x n : Str} {body suite : List Stmt} {b₀ : Stmt} {np pos pos' : Pos} {fb fs : List Sl → RS} {cat : Str → Option Bool}
theorem c_try (i : Nat) (hG : J.G = ⟨X.K, X.mg⟩) (T : ∃ S, X.mg x = some (.ref S) ∧ CatOk ⟨X.K, X.mg⟩ (.ref S) cat) (hs : X.stack = X.env :: X.outer) (hf : X.env.frame = some X.env.locals) (hN : X.N.Nodup) (tk : Takes X J.W)
    (hb : ∀ (W : WX) (pn : List (Addr × Obj)) (xe : Value → Shared → Prop), Takes (X.tr pn xe) W → PassesOwn (model X.prog X.w) X.A X.env xe → PSs (X.tr pn xe) body (tS { J with W := W } fb))
    (hsu : ∀ (a : Addr) (oe : Obj) (cls : Value) (d : Option Addr) (pn : List (Addr × Obj)), Zc cls d oe → (∃ vs, oe.data = .fields vs) → PSs (X.suite a ((a, oe) :: pn)) (b₀ :: suite) (tS (J.sui a cls d) fs)) (hg : Gl X x := by rfl) (hdb : (x == ("__debug__" : Str)) = false := by decide)
    (hi : X.N[i]? = some n := by rfl) (hln : X.env.kindOf n = some .local := by rfl) : PS X (.Try body [.ExceptHandler (some (.Name x np)) (some n) (b₀ :: suite) pos'] [] [] pos) (tS J (stry i cat fb fs)) := by
  obtain ⟨S, hm, hc⟩ := T
  exact s_try i (hK_ hG) hs hf hN ⟨hg, hdb, .inl hm⟩ tk (by rw [hG]; exact hc) hb hsu hi hln
theorem c_try0 (hG : J.G = ⟨X.K, X.mg⟩) (T : ∃ S, X.mg x = some (.ref S) ∧ CatOk ⟨X.K, X.mg⟩ (.ref S) cat) (hs : X.stack = X.env :: X.outer) (hf : X.env.frame = some X.env.locals) (tk : Takes X J.W)
    (hb : ∀ (W : WX) (pn : List (Addr × Obj)) (xe : Value → Shared → Prop), Takes (X.tr pn xe) W → PassesOwn (model X.prog X.w) X.A X.env xe → PSs (X.tr pn xe) body (tS { J with W := W } fb))
    (hsu : ∀ (a : Addr) (oe : Obj) (cls : Value) (d : Option Addr) (pn : List (Addr × Obj)), Zc cls d oe → (∃ vs, oe.data = .fields vs) → PSs (X.suite a ((a, oe) :: pn)) (b₀ :: suite) (tS (J.sui a cls d) fs)) (hg : Gl X x := by rfl) (hdb : (x == ("__debug__" : Str)) = false := by decide) :
    PS X (.Try body [.ExceptHandler (some (.Name x np)) none (b₀ :: suite) pos'] [] [] pos) (tS J (stry0 cat fb fs)) := by
  obtain ⟨S, hm, hc⟩ := T
  exact s_try0 (hK_ hG) hs hf ⟨hg, hdb, .inl hm⟩ tk (by rw [hG]; exact hc) hb hsu
end
/-- what «except S» makes of an error of the class at C -/
theorem exm_of {K : PySem.W.Frag} {C S : Addr} {b : Bool} (h1 : PySem.W.subIn K (.ref S) (.type "BaseException") = some true) (h2 : PySem.W.isClsIn K S = true) (h3 : PySem.W.typeIn K (.ref S) = some (.type "type")) (h4 : PySem.W.subIn K (.ref C) (.ref S) = some b) : PySem.W.exmOne K (.ref C) (.ref S) = some b := by
  have e1 : (PySem.W.subIn K (.ref S) (.type "BaseException") == some true) = true := by rw [h1] <;> rfl
  have e2 : ((PySem.W.clsIn K S).isSome && PySem.W.typeIn K (.ref S) == some (.type "type")) = true := by
    have z : (PySem.W.clsIn K S).isSome = true := h2
    rw [z, h3] <;> rfl
  show (if (PySem.W.subIn K (.ref S) (.type "BaseException") == some true) = true then (if ((PySem.W.clsIn K S).isSome && PySem.W.typeIn K (.ref S) == some (.type "type")) = true then PySem.W.subIn K (.ref C) (.ref S) else none) else none) = some b
  rw [if_pos e1, if_pos e2, h4]
theorem CatOk.nil {G : Gm} {S : Value} : CatOk G S fun x => ([] : List (Str × Bool)).lookup x := fun nm C b e => by cases e
theorem CatOk.cons {G : Gm} {S : Value} {c : Str} {C : Addr} {b : Bool} {L : List (Str × Bool)} (hm : G.mg c = some (.ref C)) (he : PySem.W.exmOne G.K (.ref C) S = some b) (h : CatOk G S fun x => L.lookup x) : CatOk G S fun x => ((c, b) :: L).lookup x := by
  intro nm D b' e hD
  have e : ((c, b) :: L).lookup nm = some b' := e
  rw [List.lookup_cons] at e
  cases q : (nm == c) with
  | true =>
    rw [q] at e
    cases e
    have : nm = c := by simpa using q
    subst this
    rw [hm] at hD
    cases hD
    exact he
  | false => rw [q] at e; exact h nm D b' e hD
end DL

set_option Elab.async false
set_option linter.all false
set_option maxRecDepth 100000
set_option maxHeartbeats 4000000
namespace DL
open PySem
open L2 (atI ixN)

/-! ### reading deep functions: what each word does with the slots -/
section
variable {r : List Sl} {α β : Type}
theorem bind_ok {a : α} {k : α → List Sl → RE β} : (RE.ok a r).bind k = k a r := rfl
theorem bind_exn {x : Xn} {k : α → List Sl → RE β} : (RE.exn x r : RE α).bind k = .exn x r := rfl
theorem bind_bad {k : α → List Sl → RE β} : (RE.bad : RE α).bind k = .bad := rfl
theorem s_ok {a : α} {k : α → List Sl → RS} : (RE.ok a r).s k = k a r := rfl
theorem s_exn {x : Xn} {k : α → List Sl → RS} : (RE.exn x r : RE α).s k = .exn x r := rfl
theorem s_bad {k : α → List Sl → RS} : (RE.bad : RE α).s k = .bad := rfl
theorem rd_ap {i : Nat} : rd i r = match r[i]? with
  | some (.val d) => .ok d r
  | some (.own d) => .ok d (r.set i (.val d))
  | _ => .bad := rfl
theorem pk_ap {i : Nat} : pk i r = match r[i]? with
  | some (.val d) => .ok d r
  | some (.own d) => .ok d r
  | some (.io d) => .ok d r
  | _ => .bad := rfl
theorem cst_ap {d : D} : cst d r = .ok d r := rfl
theorem lift_some {d : D} : liftO (some d) r = .ok d r := rfl
theorem lift_none : liftO none r = .bad := rfl
variable {g g' : D → D → Option D} {h : D → Option D} {fa fb fc : List Sl → RE D} {fs : List Sl → RE (List D)} {ta tb : List Sl → RE Bool} {sa sb : List Sl → RS} {i j : Nat}
theorem bin_ap : bin g fa fb r = (fa r).bind fun x r1 => (fb r1).bind fun y r2 => liftO (g x y) r2 := rfl
theorem has_ap : has i r = match pk i r with
  | .ok _ _ => true
  | _ => false := rfl
theorem binL_ap : binL g i fb r = if has i r then (fb r).bind fun y r1 => (pk i r1).bind fun x r2 => liftO (g x y) r2 else .bad := rfl
theorem un_ap : un h fa r = (fa r).bind fun x r1 => liftO (h x) r1 := rfl
theorem anil_ap : anil r = .ok [] r := rfl
theorem acons_ap : acons fa fs r = (fa r).bind fun d r1 => (fs r1).bind fun ds r2 => .ok (d :: ds) r2 := rfl
theorem mkTup_ap : mkTup fs r = (fs r).bind fun ds r1 => if ds.length ≤ LIM then .ok (.tup ds) r1 else .bad := rfl
theorem mkLst_ap : mkLst fs r = (fs r).bind fun ds r1 => if ds.length ≤ LIM then .ok (.lst ds) r1 else .bad := rfl
theorem asB_bl {b : Bool} : asB (.bl b) r = .ok b r := rfl
theorem tv_ap : tv fa r = (fa r).bind asB := rfl
theorem tnot_ap : tnot ta r = (ta r).bind fun b r1 => .ok (!b) r1 := rfl
theorem tand_ap : tand ta tb r = (ta r).bind fun b r1 => if b = true then tb r1 else .ok false r1 := rfl
theorem tor_ap : tor ta tb r = (ta r).bind fun b r1 => if b = true then .ok true r1 else tb r1 := rfl
theorem vand_ap : vand fa fb r = (fa r).bind fun x r1 => (asB x r1).bind fun b r2 => if b = true then fb r2 else .ok (.bl false) r2 := rfl
theorem vor_ap : vor fa fb r = (fa r).bind fun x r1 => (asB x r1).bind fun b r2 => if b = true then .ok (.bl true) r2 else fb r2 := rfl
theorem vnot_ap : vnot fa r = (fa r).bind fun x r1 => (asB x r1).bind fun b r2 => .ok (.bl (!b)) r2 := rfl
theorem vif_ap : vif ta fa fb r = (ta r).bind fun b r1 => if b = true then fa r1 else fb r1 := rfl
theorem vchain_ap : vchain g g' fa fb fc r = (fa r).bind fun x r1 => (fb r1).bind fun y r2 => (liftO (g x y) r2).bind fun z r3 => (asB z r3).bind fun k r4 => if k = true then (fc r4).bind fun w r5 => liftO (g' y w) r5 else .ok (.bl false) r4 := rfl
theorem sasg_ap : sasg i fa r = (fa r).s fun d r1 => .nx (r1.set i (.val d)) := rfl
theorem sown_ap : sown i fa r = (fa r).s fun d r1 => .nx (r1.set i (.own d)) := rfl
theorem sif_ap : sif ta sa sb r = (ta r).s fun b r1 => if b = true then sa r1 else sb r1 := rfl
theorem sret_ap : sret fa r = (fa r).s fun d r1 => .rt d r1 := rfl
theorem sexp_ap : sexp fa r = (fa r).s fun _ r1 => .nx r1 := rfl
theorem snx_ap : snx r = .nx r := rfl
theorem sseq_ap : sseq sa sb r = match sa r with
  | .nx r' => sb r'
  | o => o := rfl
theorem sseq_nx {r' : List Sl} (e : sa r = .nx r') : sseq sa sb r = sb r' := by rw [sseq_ap, e]
theorem sseq_rt {r' : List Sl} {d : D} (e : sa r = .rt d r') : sseq sa sb r = .rt d r' := by rw [sseq_ap, e]
theorem sseq_exn {r' : List Sl} {x : Xn} (e : sa r = .exn x r') : sseq sa sb r = .exn x r' := by rw [sseq_ap, e]
theorem spar_ap : spar i j fs r = (fs r).s fun ds r1 => match ds with
  | [d, d'] => .nx ((r1.set i (.val d)).set j (.val d'))
  | _ => .bad := rfl
theorem stg_ap {t : D → List Sl → RS} : stg fa t r = (fa r).s t := rfl
theorem gnm_ap {d : D} : gnm i d r = .nx (r.set i (.val d)) := rfl
theorem gnil_ap : gnil [] r = .nx r := rfl
theorem gcons_ap {t : D → List Sl → RS} {ts : List D → List Sl → RS} {d : D} {ds : List D} : gcons t ts (d :: ds) r = (match t d r with
    | .nx r1 => ts ds r1
    | _ => .bad) := rfl
theorem gtp_ap {n : Nat} {ts : List D → List Sl → RS} {ds : List D} : gtp n ts (.tup ds) r = if ds.length = n then ts ds r else .bad := rfl
theorem call_ap {F : List D → RF} : call F fs r = (fs r).bind fun ds r1 => doF (F ds) r1 := rfl
theorem doF_ok {d io : D} : doF (.ok d io) r = .ok d r := rfl
theorem doF_exn {x : Xn} {io : D} : doF (.exn x io) r = .exn x r := rfl
theorem callB_ap {F : List D → RF} : callB F fs r = (fs r).bind fun ds r1 => doFB (F ds) r1 := rfl
theorem apk_ap : apk i fs r = if has i r then (fs r).bind fun ds r1 => (pk i r1).bind fun d r2 => .ok (d :: ds) r2 else .bad := rfl
theorem doFB_ok {d io : D} : doFB (.ok d io) r = if imm d = true then .ok d r else .bad := rfl
theorem isOwn_ap : isOwn i r = match r[i]? with
  | some (.own _) => true
  | some (.io _) => true
  | _ => false := rfl
theorem callI_ap {F : List D → RF} : callI i F fs r = if isOwn i r = true then (fs r).bind fun ds r1 => doI i F ds r1 else .bad := rfl
theorem doI_ap {F : List D → RF} {ds : List D} : doI i F ds r = (match r[i]? with
  | some (.own o) => (match F (o :: ds) with
    | .ok d o' => .ok d (r.set i (.own o'))
    | .exn x o' => .exn x (r.set i (.own o'))
    | .bad => .bad)
  | some (.io o) => (match F (o :: ds) with
    | .ok d o' => .ok d (r.set i (.io o'))
    | .exn x o' => .exn x (r.set i (.io o'))
    | .bad => .bad)
  | _ => .bad) := rfl
theorem putOwn_ap {u : D → Option D} : putOwn i r u = match r[i]? with
  | some (.own d) => (u d).map fun d' => r.set i (.own d')
  | some (.io d) => (u d).map fun d' => r.set i (.io d')
  | _ => none := rfl
theorem setD_ap {xs : List D} {z : Int} {v : D} : setD (.int z) v (.lst xs) = (ixN xs.length z).map fun j => .lst (xs.set j v) := rfl
theorem sset_ap : sset i fa fb r = (fa r).s fun v r1 => if isOwn i r1 = true then (fb r1).s fun k r2 => (match putOwn i r2 (setD k v) with
  | some r3 => .nx r3
  | none => .bad) else .bad := rfl
theorem isLst_ap : isLst i r = match r[i]? with
  | some (.own (.lst _)) => true
  | some (.io (.lst _)) => true
  | _ => false := rfl
theorem mutl_ap {u : D → List D → Option (D × D)} : mutl i u fs r = if isLst i r = true then mutm i u fs r else .bad := rfl
theorem mutm_ap {u : D → List D → Option (D × D)} : mutm i u fs r = if isOwn i r = true then (fs r).bind fun ds r1 => (match r1[i]? with
  | some (.own o) => (match u o ds with
    | some (res, o') => .ok res (r1.set i (.own o'))
    | none => .bad)
  | some (.io o) => (match u o ds with
    | some (res, o') => .ok res (r1.set i (.io o'))
    | none => .bad)
  | _ => .bad) else .bad := rfl
theorem sraise_ap {c : Str} {ns : List Str} : sraise c ns fs r = (fs r).s fun ds r1 => if ds.length = ns.length then .exn ⟨c, ns, ds⟩ r1 else .bad := rfl
theorem slcL_ap {fl fh : List Sl → RE (Option Int)} : slcL i fl fh r = if has i r then (fl r).bind fun lo r2 => (fh r2).bind fun hi r3 => (pk i r3).bind fun x r4 => liftO (gSl lo hi x) r4 else .bad := rfl
theorem slc_ap {fl fh : List Sl → RE (Option Int)} : slc fa fl fh r = (fa r).bind fun x r1 => (fl r1).bind fun lo r2 => (fh r2).bind fun hi r3 => liftO (gSl lo hi x) r3 := rfl
theorem pno_ap : pno r = .ok none r := rfl
theorem psome_ap : psome fa r = (fa r).bind fun d r1 => match d with
  | .int i => .ok (some i) r1
  | _ => .bad := rfl
theorem unN_ap {u : D → Option (List D)} : unN u fa r = (fa r).bind fun x r1 => match u x with
  | some ds => .ok (.lst ds) r1
  | none => .bad := rfl
theorem iseq_ap : iseq fa r = (fa r).bind fun x r1 => match gSeq x with
  | some ds => .ok ds r1
  | none => .bad := rfl
theorem irng1_ap : irng1 fa r = (fa r).bind fun d r1 => match d with
  | .int j => if small j = true then .ok (rngL 0 j) r1 else .bad
  | _ => .bad := rfl
theorem irng2_ap : irng2 fa fb r = (fa r).bind fun d r1 => (fb r1).bind fun d' r2 => match d, d' with
  | .int i, .int j => if (small i && small j) = true then .ok (rngL i j) r2 else .bad
  | _, _ => .bad := rfl
theorem lrng_ap : lrng fa fb r = (fa r).bind fun d r1 => (fb r1).bind fun d' r2 => match d, d' with
  | .int i, .int j => if (small i && small j && decide ((j - i).toNat ≤ LIM)) = true then .ok (.lst (rngL i j)) r2 else .bad
  | _, _ => .bad := rfl
theorem sfor_ap {fi : List Sl → RE (List D)} {t : D → List Sl → RS} : sfor fi t sa r = (fi r).s fun ds r1 => forL ds t sa r1 := rfl
theorem forL_nil {t : D → List Sl → RS} : forL [] t sa r = .nx r := rfl
theorem forL_cons {t : D → List Sl → RS} {d : D} {ds : List D} : forL (d :: ds) t sa r = match t d r with
    | .nx r1 => (match sa r1 with
      | .nx r2 => forL ds t sa r2
      | .ct r2 => forL ds t sa r2
      | .bk r2 => .nx r2
      | o => o)
    | _ => .bad := rfl
theorem lcomp_ap {fi : List Sl → RE (List D)} {t : D → List Sl → RS} {vs : List Nat} : lcomp fi t ta fa vs r = (fi r).bind fun ds r1 => if noOwn r1 vs = true then (match lcL t ta fa vs ds [] (wipeR r1 vs) with
  | .ok ys r2 => .ok (.lst ys) (back r1 r2 vs)
  | _ => .bad) else .bad := rfl
theorem stry_ap {cat : Str → Option Bool} : stry i cat sa sb r = match sa r with
  | .exn x r1 => (match cat x.c with
    | some true => if noXc r1 = true then dropAt i (sb (r1.set i (.xc x))) else .bad
    | some false => .exn x r1
    | none => .bad)
  | o => o := rfl
theorem xfld_ap {kn : Str → Bool} {f : Str} : xfld i kn f r = match r[i]? with
  | some (.xc x) => if kn x.c = true then (match (x.ns.zip x.ds).lookup f with
    | some d => .ok d r
    | none => .bad) else .bad
  | _ => .bad := rfl
end
/-! operators -/
theorem gAdd_int {a b : Int} : gAdd (.int a) (.int b) = some (.int (a + b)) := rfl
theorem gInt_ap {C : Int → Int → Bool} {g : Int → Int → D} {a b : Int} : gInt C g (.int a) (.int b) = if C a b then some (g a b) else none := rfl
/-- so many bits are enough -/
def bt (k : Nat) (n : Int) : Prop := n.natAbs < 2 ^ k
theorem bt.le {j k : Nat} {n : Int} (h : bt j n) (e : j ≤ k) : bt k n := Nat.lt_of_lt_of_le h (Nat.pow_le_pow_right (by decide) e)
theorem bt.mul {j k : Nat} {m n : Int} (h : bt j m) (e : bt k n) : bt (j + k) (m * n) := by
  unfold bt at *
  rw [Int.natAbs_mul, Nat.pow_add]
  exact Nat.mul_lt_mul_of_lt_of_le h (Nat.le_of_lt e) (Nat.pos_of_ne_zero (by have : 0 < 2 ^ k := Nat.pow_pos (by decide); omega))
theorem bt.add {j k : Nat} {m n : Int} (h : bt j m) (e : bt k n) : bt (max j k + 1) (m + n) := by
  have h1 := h.le (Nat.le_max_left j k)
  have h2 := e.le (Nat.le_max_right j k)
  unfold bt at *
  rw [Nat.pow_succ]
  have := Int.natAbs_add_le m n
  omega
theorem bt.neg {k : Nat} {n : Int} (h : bt k n) : bt k (-n) := by unfold bt at *; rwa [Int.natAbs_neg]
theorem bt.sub {j k : Nat} {m n : Int} (h : bt j m) (e : bt k n) : bt (max j k + 1) (m - n) := by rw [Int.sub_eq_add_neg]; exact h.add e.neg
theorem bt.div {k : Nat} {m n : Int} (h : bt k m) (hn : 0 < n) : bt k (m / n) := by
  unfold bt at *
  have := Int.natAbs_ediv_le_natAbs m n
  omega
theorem bt.log {k : Nat} {n : Int} (h : bt k n) : n.natAbs.log2 ≤ k := by
  unfold bt at h
  by_cases e : n.natAbs = 0
  · rw [e]; exact Nat.zero_le _
  · exact Nat.le_of_lt ((Nat.log2_lt e).mpr h)
theorem gMulI_ok {j k : Nat} {a b : Int} (h : bt j a) (e : bt k b) (z : j + k < 1000000) : gMulI (.int a) (.int b) = some (.int (a * b)) := by
  show (if decide (a.natAbs.log2 + b.natAbs.log2 < 1000000) = true then _ else _) = _
  rw [if_pos (decide_eq_true (by have := h.log; have := e.log; omega))]
theorem gDiv_ok {k : Nat} {a b : Int} (h : 0 < b) (e : bt k b) (z : k < 9000) : gDiv (.int a) (.int b) = some (.int (a / b)) := by
  show (if (decide (0 < b) && decide (b.natAbs.log2 < 9000)) = true then _ else _) = _
  rw [if_pos (by rw [Bool.and_eq_true]; exact ⟨decide_eq_true h, decide_eq_true (by have := e.log; omega)⟩)]
theorem gMod_ok {a b : Int} (h : 0 < b) : gMod (.int a) (.int b) = some (.int (a % b)) := by
  show (if decide (0 < b) = true then _ else _) = _
  rw [if_pos (decide_eq_true h)]
/-! places of written rows -/
theorem at0 {α : Type} {a : α} {l : List α} : atI (a :: l) 0 = some a := by
  have : ixN (a :: l).length 0 = some 0 := by unfold ixN; rw [if_pos (by decide), if_pos (by rw [List.length_cons]; omega)]; rfl
  unfold atI; rw [this]; rfl
theorem at1 {α : Type} {a b : α} {l : List α} : atI (a :: b :: l) 1 = some b := by
  have : ixN (a :: b :: l).length 1 = some 1 := by unfold ixN; rw [if_pos (by decide), if_pos (by rw [List.length_cons, List.length_cons]; omega)]; rfl
  unfold atI; rw [this]; rfl
theorem at2 {α : Type} {a b c : α} {l : List α} : atI (a :: b :: c :: l) 2 = some c := by
  have : ixN (a :: b :: c :: l).length 2 = some 2 := by unfold ixN; rw [if_pos (by decide), if_pos (by rw [List.length_cons, List.length_cons, List.length_cons]; omega)]; rfl
  unfold atI; rw [this]; rfl
theorem at3 {α : Type} {a b c d : α} {l : List α} : atI (a :: b :: c :: d :: l) 3 = some d := by
  have : ixN (a :: b :: c :: d :: l).length 3 = some 3 := by unfold ixN; rw [if_pos (by decide), if_pos (by rw [List.length_cons, List.length_cons, List.length_cons, List.length_cons]; omega)]; rfl
  unfold atI; rw [this]; rfl
theorem atN {α : Type} {l : List α} {i : Int} (h0 : 0 ≤ i) (h1 : i < l.length) : ∃ a, atI l i = some a ∧ l[i.toNat]? = some a := by
  have hl : i.toNat < l.length := by omega
  have : ixN l.length i = some i.toNat := by unfold ixN; rw [if_pos h0, if_pos h1]
  refine ⟨l[i.toNat], ?_, List.getElem?_eq_getElem hl⟩
  unfold atI; rw [this]; exact List.getElem?_eq_getElem hl
theorem gIx_lst {xs : List D} {i : Int} : gIx (.lst xs) (.int i) = atI xs i := rfl
theorem gIx_tup {xs : List D} {i : Int} : gIx (.tup xs) (.int i) = atI xs i := rfl
theorem gIx_scr {ns : List Int} {i : Int} : gIx (.scr ns) (.int i) = (atI ns i).map .int := rfl
theorem gLen_lst {xs : List D} : gLen (.lst xs) = some (.int xs.length) := rfl
theorem gLen_tup {xs : List D} : gLen (.tup xs) = some (.int xs.length) := rfl
theorem gLen_scr {xs : List Int} : gLen (.scr xs) = some (.int xs.length) := rfl
theorem gToInt_int {i : Int} : gToInt (.int i) = some (.int i) := rfl
end DL

set_option Elab.async false
set_option linter.all false
set_option maxRecDepth 100000
set_option maxHeartbeats 4000000
namespace DL
open PySem
open L2 (atI ixN)

/-! ### comprehensions with one name -/
section
variable {v : Nat} {r : List Sl} {ft : List Sl → RE Bool} {fe : List Sl → RE D} {fi : List Sl → RE (List D)} {α : Type} {φ : α → D} {p : α → Bool} {f : α → D}
theorem lcL_pure : ∀ (xs : List α) (acc : List D), (∀ x ∈ xs, ft (r.set v (.val (φ x))) = .ok (p x) (r.set v (.val (φ x)))) → (∀ x ∈ xs, p x = true → fe (r.set v (.val (φ x))) = .ok (f x) (r.set v (.val (φ x)))) → acc.length + xs.length ≤ LIM →
    lcL (gnm v) ft fe [v] (xs.map φ) acc (r.set v .un) = .ok (acc ++ (xs.filter p).map f) (r.set v .un)
  | [], acc, _, _, _ => by simp [lcL]
  | x :: xs, acc, hp, hf, hl => by
    have h1 := hp x List.mem_cons_self
    have h2 := hf x List.mem_cons_self
    have hl' : acc.length < LIM := by rw [List.length_cons] at hl; omega
    rw [List.map_cons]
    show (match gnm v (φ x) (r.set v .un) with
      | .nx r1 => (ft r1).bind fun b r2 => if b = true then (fe r2).bind fun y r3 => if acc.length < LIM then lcL (gnm v) ft fe [v] (xs.map φ) (acc ++ [y]) (wipeR r3 [v]) else .bad else lcL (gnm v) ft fe [v] (xs.map φ) acc (wipeR r2 [v])
      | _ => .bad) = _
    have w : wipeR (r.set v (.val (φ x))) [v] = r.set v .un := by show (wipeR _ []).set v .un = _; show (r.set v (.val (φ x))).set v .un = _; rw [List.set_set]
    simp only [gnm_ap, List.set_set, h1, bind_ok]
    cases hb : p x with
    | true =>
      simp only [if_true, h2 hb, bind_ok, hl', w, if_pos]
      rw [lcL_pure xs (acc ++ [f x]) (fun y hy => hp y (List.mem_cons_of_mem _ hy)) (fun y hy => hf y (List.mem_cons_of_mem _ hy)) (by rw [List.length_append, List.length_singleton]; rw [List.length_cons] at hl; omega), List.filter_cons_of_pos hb]
      simp
    | false =>
      simp only [Bool.false_eq_true, if_false, w]
      rw [lcL_pure xs acc (fun y hy => hp y (List.mem_cons_of_mem _ hy)) (fun y hy => hf y (List.mem_cons_of_mem _ hy)) (by rw [List.length_cons] at hl; omega), List.filter_cons_of_neg (by simp [hb])]
theorem back_one (hv : v < r.length) : back r (r.set v .un) [v] = r := by
  show (back r (r.set v .un) []).set v (r.getD v .un) = r
  show (r.set v .un).set v (r.getD v .un) = r
  rw [List.set_set]
  apply List.ext_getElem?
  intro j
  rw [List.getElem?_set]
  by_cases e : v = j
  · subst e
    rw [if_pos rfl, if_pos hv, List.getD_eq_getElem?_getD, List.getElem?_eq_getElem hv]; rfl
  · rw [if_neg e]
theorem noOwn_lt (h : noOwn r [v] = true) : v < r.length := by
  unfold noOwn at h
  simp only [List.all_cons, List.all_nil, Bool.and_true] at h
  cases e : r[v]? with
  | none => rw [e] at h; cases h
  | some s => exact (List.getElem?_eq_some_iff.mp e).1
theorem lcomp_pure (xs : List α) (hi : fi r = .ok (xs.map φ) r) (ho : noOwn r [v] = true) (hl : xs.length ≤ LIM) (hp : ∀ x ∈ xs, ft (r.set v (.val (φ x))) = .ok (p x) (r.set v (.val (φ x)))) (hf : ∀ x ∈ xs, p x = true → fe (r.set v (.val (φ x))) = .ok (f x) (r.set v (.val (φ x)))) :
    lcomp fi (gnm v) ft fe [v] r = .ok (.lst ((xs.filter p).map f)) r := by
  rw [lcomp_ap, hi, bind_ok, if_pos ho]
  have w : wipeR r [v] = r.set v .un := rfl
  rw [w, lcL_pure (φ := φ) xs [] hp hf (by simpa using hl)]
  show RE.ok (D.lst ([] ++ (xs.filter p).map f)) (back r (r.set v .un) [v]) = _
  rw [back_one (noOwn_lt ho), List.nil_append]
/-- the parts change what the other names hold -/
theorem lcL_ex {σ : Type} (R : σ → List Sl) (I : σ → Prop) (Q : D → Prop) : ∀ (ds acc : List D) (s : σ), (∀ d ∈ ds, ∀ s, I s → ∃ y s', I s' ∧ Q y ∧ ft ((R s).set v (.val d)) = .ok true ((R s).set v (.val d)) ∧ fe ((R s).set v (.val d)) = .ok y ((R s').set v (.val d))) →
    I s → acc.length + ds.length ≤ LIM → ∃ ys s', I s' ∧ ys.length = ds.length ∧ (∀ y ∈ ys, Q y) ∧ lcL (gnm v) ft fe [v] ds acc ((R s).set v .un) = .ok (acc ++ ys) ((R s').set v .un)
  | [], acc, s, _, hs, _ => ⟨[], s, hs, rfl, (fun y hy => nomatch hy), by rw [List.append_nil]; rfl⟩
  | d :: ds, acc, s, turn, hs, hl => by
    obtain ⟨y, s', hs', hy, h1, h2⟩ := turn d List.mem_cons_self s hs
    have hl' : acc.length < LIM := by rw [List.length_cons] at hl; omega
    obtain ⟨ys, s'', hs'', e1, e2, e3⟩ := lcL_ex R I Q ds (acc ++ [y]) s' (fun e he => turn e (List.mem_cons_of_mem _ he)) hs' (by rw [List.length_append, List.length_singleton]; rw [List.length_cons] at hl; omega)
    refine ⟨y :: ys, s'', hs'', by simp [e1], (fun z hz => (List.mem_cons.mp hz).elim (fun e => e ▸ hy) (e2 z)), ?_⟩
    show (match gnm v d ((R s).set v .un) with
      | .nx r1 => (ft r1).bind fun b r2 => if b = true then (fe r2).bind fun y r3 => if acc.length < LIM then lcL (gnm v) ft fe [v] ds (acc ++ [y]) (wipeR r3 [v]) else .bad else lcL (gnm v) ft fe [v] ds acc (wipeR r2 [v])
      | _ => .bad) = _
    have w : wipeR ((R s').set v (.val d)) [v] = (R s').set v .un := by show ((R s').set v (.val d)).set v .un = _; rw [List.set_set]
    simp only [gnm_ap, List.set_set, h1, bind_ok, if_true, h2, hl', w, if_pos, e3, List.append_assoc, List.singleton_append]
end
section
variable {v : Nat} {r : List Sl} {ft : List Sl → RE Bool} {fe : List Sl → RE D} {α : Type} {φ : α → D} {p : α → Bool} {f : α → D}
theorem lcLB_pure {ck : List Sl → Bool} (hc : ck (r.set v .un) = true) : ∀ (xs : List α) (acc : List D), (∀ x ∈ xs, ft (r.set v (.val (φ x))) = .ok (p x) (r.set v (.val (φ x)))) → (∀ x ∈ xs, p x = true → fe (r.set v (.val (φ x))) = .ok (f x) (r.set v (.val (φ x)))) → acc.length + xs.length ≤ LIM →
    lcLB ck (gnm v) ft fe [v] (xs.map φ) acc (r.set v .un) = .ok (acc ++ (xs.filter p).map f) (r.set v .un)
  | [], acc, _, _, _ => by simp [lcLB, hc]
  | x :: xs, acc, hp, hf, hl => by
    have h1 := hp x List.mem_cons_self
    have h2 := hf x List.mem_cons_self
    have hl' : acc.length < LIM := by rw [List.length_cons] at hl; omega
    rw [List.map_cons]
    show (if ck (r.set v .un) = true then (match gnm v (φ x) (r.set v .un) with
      | .nx r1 => (ft r1).bind fun b r2 => if b = true then (fe r2).bind fun y r3 => if acc.length < LIM then lcLB ck (gnm v) ft fe [v] (xs.map φ) (acc ++ [y]) (wipeR r3 [v]) else .bad else lcLB ck (gnm v) ft fe [v] (xs.map φ) acc (wipeR r2 [v])
      | _ => .bad) else .bad) = _
    rw [if_pos hc]
    have w : wipeR (r.set v (.val (φ x))) [v] = r.set v .un := by show (r.set v (.val (φ x))).set v .un = _; rw [List.set_set]
    simp only [gnm_ap, List.set_set, h1, bind_ok]
    cases hb : p x with
    | true =>
      simp only [if_true, h2 hb, bind_ok, hl', w, if_pos]
      rw [lcLB_pure hc xs (acc ++ [f x]) (fun y hy => hp y (List.mem_cons_of_mem _ hy)) (fun y hy => hf y (List.mem_cons_of_mem _ hy)) (by rw [List.length_append, List.length_singleton]; rw [List.length_cons] at hl; omega), List.filter_cons_of_pos hb]
      simp
    | false =>
      simp only [Bool.false_eq_true, if_false, w]
      rw [lcLB_pure hc xs acc (fun y hy => hp y (List.mem_cons_of_mem _ hy)) (fun y hy => hf y (List.mem_cons_of_mem _ hy)) (by rw [List.length_cons] at hl; omega), List.filter_cons_of_neg (by simp [hb])]
theorem lcompB_pure {i : Nat} (xs : List α) (hi : pk i r = .ok (.lst (xs.map φ)) r) (hu : pk i (r.set v .un) = .ok (.lst (xs.map φ)) (r.set v .un)) (ho : noOwn r [v] = true) (hv : i ≠ v) (hl : xs.length ≤ LIM) (hp : ∀ x ∈ xs, ft (r.set v (.val (φ x))) = .ok (p x) (r.set v (.val (φ x)))) (hf : ∀ x ∈ xs, p x = true → fe (r.set v (.val (φ x))) = .ok (f x) (r.set v (.val (φ x)))) :
    lcompB i (gnm v) ft fe [v] r = .ok (.lst ((xs.filter p).map f)) r := by
  unfold lcompB
  rw [hi]
  dsimp only
  rw [if_pos (by rw [ho]; simp [hv])]
  have w : wipeR r [v] = r.set v .un := rfl
  rw [w, lcLB_pure (ck_of hu) (φ := φ) xs [] hp hf (by simpa using hl)]
  show RE.ok (D.lst ([] ++ (xs.filter p).map f)) (back r (r.set v .un) [v]) = _
  rw [back_one (noOwn_lt ho), List.nil_append]
end
theorem cut_tail {α : Type} {x : α} {xs : List α} : cut (x :: xs) (some 1) none = xs := by
  unfold cut
  have h1 : HT.sIx (x :: xs).length 0 (some 1) = 1 := by
    show (if (1 : Int) < 0 then ((1 : Int) + ((x :: xs).length : Int)).toNat else min (1 : Int).toNat (x :: xs).length) = 1
    rw [if_neg (by decide), List.length_cons]
    show min 1 (xs.length + 1) = 1
    omega
  have h2 : HT.sIx (x :: xs).length (x :: xs).length none = (x :: xs).length := rfl
  rw [h1, h2]
  simp
theorem rngL_map (lo hi : Int) : rngL lo hi = (List.range (hi - lo).toNat).map fun (i : Nat) => D.int (lo + i) := rfl
theorem small_of {i : Int} (h : -1000000000 ≤ i) (h' : i ≤ 1000000000) : small i = true := by
  unfold small; rw [Bool.and_eq_true]; exact ⟨decide_eq_true h, decide_eq_true h'⟩

/-! ### what every law draws with -/
def takenB : List Sl → RS :=
  (sseq (sif (tv (bin gGt (binL gIx 0 (cst (.int 3))) (cst (.int 0)))) (sseq (sasg 2 (bin gMod (un gToInt (binL gIx 0 (cst (.int 3)))) (pk 1))) (sseq (sset 0 (bin gDiv (binL gIx 0 (cst (.int 3))) (pk 1)) (cst (.int 3))) (sret (rd 2)))) snx) (sseq (sset 0 (bin gAdd (binL gIx 0 (cst (.int 1))) (cst (.int 1))) (cst (.int 1))) (sseq (sif (tv (bin gGt (binL gIx 0 (cst (.int 1))) (un gLen (binL gIx 0 (cst (.int 0)))))) (sseq (sset 0 (bin gMod (un gToInt (bin gAdd (bin gMulI (binL gIx 0 (cst (.int 2))) (cst (.int 48271))) (cst (.int 11)))) (cst (.int 2147483647))) (cst (.int 2))) (sret (bin gMod (un gToInt (bin gDiv (binL gIx 0 (cst (.int 2))) (cst (.int 7)))) (pk 1)))) snx) (sseq (sasg 3 (bin gIx (binL gIx 0 (cst (.int 0))) (bin gSub (binL gIx 0 (cst (.int 1))) (cst (.int 1))))) (sseq (sset 0 (bin gMod (un gToInt (bin gAdd (bin gAdd (bin gMulI (binL gIx 0 (cst (.int 2))) (cst (.int 48271))) (pk 3)) (cst (.int 11)))) (cst (.int 2147483647))) (cst (.int 2))) (sseq (sif (tv (bin gGe (rd 3) (bin gPow (cst (.int 10)) (cst (.int 18))))) (sset 0 (bin gDiv (rd 3) (pk 1)) (cst (.int 3))) snx) (sret (bin gMod (un gToInt (pk 3)) (pk 1)))))))))
def takenF : List D → RF := runI 4 2 takenB
def rowD (ns : List Int) (p s t : Int) : D := .lst [.scr ns, .int p, .int s, .int t]
def OkR (p s t : Int) : Prop := 0 ≤ p ∧ 0 ≤ s ∧ s < 2147483647 ∧ 0 ≤ t
theorem bt_c {k : Nat} {n : Int} (h : n.natAbs < 2 ^ k) : bt k n := h
theorem taken_ok {ns : List Int} {p s t m : Int} (h : OkR p s t) (hm : 0 < m) (hb : bt 8000 m) : ∃ x p' s' t', takenF [rowD ns p s t, .int m] = .ok (.int x) (rowD ns p' s' t') ∧ OkR p' s' t' ∧ 0 ≤ x ∧ x < m := by
  obtain ⟨hp, hs, hs', ht⟩ := h
  have i3 : ∀ l : Nat, 4 ≤ l → ixN l 3 = some 3 := fun l hl => by unfold ixN; rw [if_pos (by decide), if_pos (by omega)]; rfl
  have i2 : ∀ l : Nat, 4 ≤ l → ixN l 2 = some 2 := fun l hl => by unfold ixN; rw [if_pos (by decide), if_pos (by omega)]; rfl
  have i1 : ∀ l : Nat, 4 ≤ l → ixN l 1 = some 1 := fun l hl => by unfold ixN; rw [if_pos (by decide), if_pos (by omega)]; rfl
  have bs : bt 40 s := by unfold bt; omega
  have bc : bt 40 (48271 : Int) := by unfold bt; decide
  have md : (0 : Int) < 2147483647 := by decide
  have gm : gMulI (.int s) (.int 48271) = some (.int (s * 48271)) := gMulI_ok bs bc (by decide)
  have gd : ∀ a : Int, gDiv (.int a) (.int m) = some (.int (a / m)) := fun a => gDiv_ok hm hb (by decide)
  have gd7 : ∀ a : Int, gDiv (.int a) (.int 7) = some (.int (a / 7)) := fun a => gDiv_ok (k := 4) (by decide) (by unfold bt; decide) (by decide)
  have gmm : ∀ a : Int, gMod (.int a) (.int m) = some (.int (a % m)) := fun a => gMod_ok hm
  have gmd : ∀ a : Int, gMod (.int a) (.int 2147483647) = some (.int (a % 2147483647)) := fun a => gMod_ok md
  have m0 : ∀ a : Int, 0 ≤ a % m ∧ a % m < m := fun a => ⟨Int.emod_nonneg _ (by omega), Int.emod_lt_of_pos _ hm⟩
  have n0 : ∀ a : Int, 0 ≤ a % 2147483647 ∧ a % 2147483647 < 2147483647 := fun a => ⟨Int.emod_nonneg _ (by decide), Int.emod_lt_of_pos _ md⟩
  have r0 : takenF [rowD ns p s t, .int m] = (match takenB [.io (rowD ns p s t), .val (.int m), .un, .un] with
    | .nx r => ioOf r fun io => .ok .non io
    | .rt d r => ioOf r fun io => .ok d io
    | .exn x r => ioOf r fun io => .exn x io
    | _ => .bad) := rfl
  rw [r0]
  unfold takenB rowD
  by_cases h3 : 0 < t
  · refine ⟨t % m, p, s, t / m, ?_, ⟨hp, hs, hs', Int.ediv_nonneg ht (by omega)⟩, (m0 t).1, (m0 t).2⟩
    simp only [bind_ok, bind_exn, bind_bad, s_ok, s_exn, s_bad, rd_ap, pk_ap, cst_ap, lift_some, lift_none, bin_ap, has_ap, binL_ap, un_ap, anil_ap, acons_ap, mkTup_ap, mkLst_ap, asB_bl, tv_ap, tnot_ap, tand_ap, tor_ap, vand_ap, vor_ap, vnot_ap, vif_ap, vchain_ap, sasg_ap, sown_ap, sif_ap, sret_ap, sexp_ap, snx_ap, sseq_ap, spar_ap, stg_ap, gnm_ap, gnil_ap, gcons_ap, gtp_ap, call_ap, doF_ok, doF_exn, callB_ap, apk_ap, doFB_ok, isOwn_ap, callI_ap, doI_ap, putOwn_ap, setD_ap, sset_ap, isLst_ap, mutl_ap, mutm_ap, sraise_ap, slcL_ap, slc_ap, pno_ap, psome_ap, unN_ap, iseq_ap, irng1_ap, irng2_ap, lrng_ap, gAdd_int, gInt_ap, at0, at1, at2, at3, gIx_lst, gIx_tup, gIx_scr, gLen_lst, gLen_tup, gLen_scr, gToInt_int, List.getElem?_cons_zero, List.getElem?_cons_succ, List.set_cons_zero, List.set_cons_succ, List.length_cons, List.length_nil, ite_true, ite_false, if_true, if_false, Bool.true_and, Bool.and_true, Bool.false_and, Bool.and_false, decide_true, decide_false, Option.map_some, Option.map_none, Bool.not_true, Bool.not_false, reduceIte, Nat.reduceAdd, Nat.reduceLeDiff, Bool.false_eq_true, Bool.true_eq_false, Bool.false_or, Bool.true_or, Bool.or_false, Bool.or_true, h3, gmm, gd, i3, ioOf, Nat.le_refl]
  · by_cases h4 : (ns.length : Int) < p + 1
    · refine ⟨((s * 48271 + 11) % 2147483647 / 7) % m, p + 1, (s * 48271 + 11) % 2147483647, t, ?_, ⟨by omega, (n0 _).1, (n0 _).2, ht⟩, (m0 _).1, (m0 _).2⟩
      simp only [bind_ok, bind_exn, bind_bad, s_ok, s_exn, s_bad, rd_ap, pk_ap, cst_ap, lift_some, lift_none, bin_ap, has_ap, binL_ap, un_ap, anil_ap, acons_ap, mkTup_ap, mkLst_ap, asB_bl, tv_ap, tnot_ap, tand_ap, tor_ap, vand_ap, vor_ap, vnot_ap, vif_ap, vchain_ap, sasg_ap, sown_ap, sif_ap, sret_ap, sexp_ap, snx_ap, sseq_ap, spar_ap, stg_ap, gnm_ap, gnil_ap, gcons_ap, gtp_ap, call_ap, doF_ok, doF_exn, callB_ap, apk_ap, doFB_ok, isOwn_ap, callI_ap, doI_ap, putOwn_ap, setD_ap, sset_ap, isLst_ap, mutl_ap, mutm_ap, sraise_ap, slcL_ap, slc_ap, pno_ap, psome_ap, unN_ap, iseq_ap, irng1_ap, irng2_ap, lrng_ap, gAdd_int, gInt_ap, at0, at1, at2, at3, gIx_lst, gIx_tup, gIx_scr, gLen_lst, gLen_tup, gLen_scr, gToInt_int, List.getElem?_cons_zero, List.getElem?_cons_succ, List.set_cons_zero, List.set_cons_succ, List.length_cons, List.length_nil, ite_true, ite_false, if_true, if_false, Bool.true_and, Bool.and_true, Bool.false_and, Bool.and_false, decide_true, decide_false, Option.map_some, Option.map_none, Bool.not_true, Bool.not_false, reduceIte, Nat.reduceAdd, Nat.reduceLeDiff, Bool.false_eq_true, Bool.true_eq_false, Bool.false_or, Bool.true_or, Bool.or_false, Bool.or_true, h3, h4, gmm, gd, gd7, gmd, gm, i3, i2, i1, ioOf, Nat.le_refl]
    · obtain ⟨c, hc, _⟩ := atN (l := ns) (i := p + 1 - 1) (by omega) (by omega)
      by_cases h5 : (10 : Int) ^ (18 : Int).toNat ≤ c
      · refine ⟨c % m, p + 1, (s * 48271 + c + 11) % 2147483647, c / m, ?_, ⟨by omega, (n0 _).1, (n0 _).2, Int.ediv_nonneg (Int.le_trans (by decide) h5) (by omega)⟩, (m0 _).1, (m0 _).2⟩
        have gp : gPow (.int 10) (.int 18) = some (.int ((10 : Int) ^ (18 : Int).toNat)) := rfl
        simp only [bind_ok, bind_exn, bind_bad, s_ok, s_exn, s_bad, rd_ap, pk_ap, cst_ap, lift_some, lift_none, bin_ap, has_ap, binL_ap, un_ap, anil_ap, acons_ap, mkTup_ap, mkLst_ap, asB_bl, tv_ap, tnot_ap, tand_ap, tor_ap, vand_ap, vor_ap, vnot_ap, vif_ap, vchain_ap, sasg_ap, sown_ap, sif_ap, sret_ap, sexp_ap, snx_ap, sseq_ap, spar_ap, stg_ap, gnm_ap, gnil_ap, gcons_ap, gtp_ap, call_ap, doF_ok, doF_exn, callB_ap, apk_ap, doFB_ok, isOwn_ap, callI_ap, doI_ap, putOwn_ap, setD_ap, sset_ap, isLst_ap, mutl_ap, mutm_ap, sraise_ap, slcL_ap, slc_ap, pno_ap, psome_ap, unN_ap, iseq_ap, irng1_ap, irng2_ap, lrng_ap, gAdd_int, gInt_ap, at0, at1, at2, at3, gIx_lst, gIx_tup, gIx_scr, gLen_lst, gLen_tup, gLen_scr, gToInt_int, List.getElem?_cons_zero, List.getElem?_cons_succ, List.set_cons_zero, List.set_cons_succ, List.length_cons, List.length_nil, ite_true, ite_false, if_true, if_false, Bool.true_and, Bool.and_true, Bool.false_and, Bool.and_false, decide_true, decide_false, Option.map_some, Option.map_none, Bool.not_true, Bool.not_false, reduceIte, Nat.reduceAdd, Nat.reduceLeDiff, Bool.false_eq_true, Bool.true_eq_false, Bool.false_or, Bool.true_or, Bool.or_false, Bool.or_true, h3, h4, gmm, gd, gmd, gm, i3, i2, i1, ioOf, Nat.le_refl, hc, gp, h5]
      · refine ⟨c % m, p + 1, (s * 48271 + c + 11) % 2147483647, t, ?_, ⟨by omega, (n0 _).1, (n0 _).2, ht⟩, (m0 _).1, (m0 _).2⟩
        have gp : gPow (.int 10) (.int 18) = some (.int ((10 : Int) ^ (18 : Int).toNat)) := rfl
        simp only [bind_ok, bind_exn, bind_bad, s_ok, s_exn, s_bad, rd_ap, pk_ap, cst_ap, lift_some, lift_none, bin_ap, has_ap, binL_ap, un_ap, anil_ap, acons_ap, mkTup_ap, mkLst_ap, asB_bl, tv_ap, tnot_ap, tand_ap, tor_ap, vand_ap, vor_ap, vnot_ap, vif_ap, vchain_ap, sasg_ap, sown_ap, sif_ap, sret_ap, sexp_ap, snx_ap, sseq_ap, spar_ap, stg_ap, gnm_ap, gnil_ap, gcons_ap, gtp_ap, call_ap, doF_ok, doF_exn, callB_ap, apk_ap, doFB_ok, isOwn_ap, callI_ap, doI_ap, putOwn_ap, setD_ap, sset_ap, isLst_ap, mutl_ap, mutm_ap, sraise_ap, slcL_ap, slc_ap, pno_ap, psome_ap, unN_ap, iseq_ap, irng1_ap, irng2_ap, lrng_ap, gAdd_int, gInt_ap, at0, at1, at2, at3, gIx_lst, gIx_tup, gIx_scr, gLen_lst, gLen_tup, gLen_scr, gToInt_int, List.getElem?_cons_zero, List.getElem?_cons_succ, List.set_cons_zero, List.set_cons_succ, List.length_cons, List.length_nil, ite_true, ite_false, if_true, if_false, Bool.true_and, Bool.and_true, Bool.false_and, Bool.and_false, decide_true, decide_false, Option.map_some, Option.map_none, Bool.not_true, Bool.not_false, reduceIte, Nat.reduceAdd, Nat.reduceLeDiff, Bool.false_eq_true, Bool.true_eq_false, Bool.false_or, Bool.true_or, Bool.or_false, Bool.or_true, h3, h4, gmm, gd, gmd, gm, i3, i2, i1, ioOf, Nat.le_refl, hc, gp, h5]

/-! ### what every law compares with -/
def alikeB (me : List D → RF) : List Sl → RS :=
  (sseq (sif (tv (un (gIsi2 "tuple" "list") (pk 1))) (sseq (sif (tor (tnot (tv (un (gIsi2 "tuple" "list") (pk 0)))) (tv (bin (gEq true) (un (gIsi "list") (pk 0)) (un (gIsi "list") (pk 1))))) (sret (cst (.bl false))) snx) (sseq (sif (tv (bin (gEq true) (un gLen (pk 0)) (un gLen (pk 1)))) (sret (cst (.bl false))) snx) (sret (bin (gEq false) (lcomp (irng1 (un gLen (pk 1))) (gnm 2) (tnot (tv (call me (acons (binL gIx 0 (pk 2)) (acons (binL gIx 1 (pk 2)) anil))))) (rd 2) [2]) (mkLst anil))))) snx) (sseq (sif (tor (tv (un (gIsN false) (rd 1))) (tv (un (gIsi "str") (pk 1)))) (sret (vand (bin (gEq false) (rd 0) (pk 1)) (bin (gEq false) (un (gIsi "str") (pk 0)) (un (gIsi "str") (pk 1))))) snx) (sret (vand (un (gIsi "int") (pk 0)) (vand (bin (gEq false) (un (gIsi "bool") (pk 0)) (un (gIsi "bool") (pk 1))) (bin (gEq false) (rd 0) (pk 1)))))))
def alikeF : Nat → List D → RF
  | 0 => fun _ => .bad
  | n + 1 => runP 3 2 (alikeB (alikeF n))
/-- plain data to a depth, of rows that are not too long -/
def okl : Nat → D → Bool
  | _, .non => true
  | _, .bl _ => true
  | _, .int _ => true
  | _, .str _ => true
  | k + 1, .tup xs => decide (xs.length ≤ LIM) && xs.all (okl k)
  | k + 1, .lst xs => decide (xs.length ≤ LIM) && xs.all (okl k)
  | _, _ => false
theorem okl_tup {k : Nat} {xs : List D} : okl (k + 1) (.tup xs) = (decide (xs.length ≤ LIM) && xs.all (okl k)) := by rw [okl]
theorem okl_lst {k : Nat} {xs : List D} : okl (k + 1) (.lst xs) = (decide (xs.length ≤ LIM) && xs.all (okl k)) := by rw [okl]
theorem okl_okd : ∀ (k : Nat) (d : D), okl k d = true → okd k d = true
  | k, .non, _ => by rw [okd]
  | k, .bl _, _ => by rw [okd]
  | k, .int _, _ => by rw [okd]
  | k, .str _, _ => by rw [okd]
  | k + 1, .tup xs, h => by
    rw [okl_tup, Bool.and_eq_true] at h
    rw [okd_tup, List.all_eq_true]
    exact fun x hx => okl_okd k x (List.all_eq_true.mp h.2 x hx)
  | k + 1, .lst xs, h => by
    rw [okl_lst, Bool.and_eq_true] at h
    rw [okd_lst, List.all_eq_true]
    exact fun x hx => okl_okd k x (List.all_eq_true.mp h.2 x hx)
  | 0, .tup xs, h => by simp [okl] at h
  | 0, .lst xs, h => by simp [okl] at h
  | k, .dct _ _, h => by cases k <;> simp [okl] at h
  | k, .ob _ _ _, h => by cases k <;> simp [okl] at h
  | k, .fn _, h => by cases k <;> simp [okl] at h
  | k, .scr _, h => by cases k <;> simp [okl] at h
theorem okd_mono : ∀ (j k : Nat) (d : D), j ≤ k → okd j d = true → okd k d = true
  | j, k, .non, _, _ => by rw [okd]
  | j, k, .bl _, _, _ => by rw [okd]
  | j, k, .int _, _, _ => by rw [okd]
  | j, k, .str _, _, _ => by rw [okd]
  | 0, k, .tup xs, _, h => by simp [okd] at h
  | 0, k, .lst xs, _, h => by simp [okd] at h
  | j + 1, 0, .tup xs, e, _ => absurd e (by omega)
  | j + 1, 0, .lst xs, e, _ => absurd e (by omega)
  | j + 1, k + 1, .tup xs, e, h => by
    rw [okd_tup, List.all_eq_true] at *
    exact fun x hx => okd_mono j k x (by omega) (h x hx)
  | j + 1, k + 1, .lst xs, e, h => by
    rw [okd_lst, List.all_eq_true] at *
    exact fun x hx => okd_mono j k x (by omega) (h x hx)
  | j, k, .dct _ _, _, h => by cases j <;> simp [okd] at h
  | j, k, .ob _ _ _, _, h => by cases j <;> simp [okd] at h
  | j, k, .fn _, _, h => by cases j <;> simp [okd] at h
  | j, k, .scr _, _, h => by cases j <;> simp [okd] at h
mutual
theorem eqb_refl : ∀ (k : Nat) (d : D), okd k d = true → d.eqb d = true
  | _, .non, _ => rfl
  | _, .bl b, _ => by show (b == b) = true; simp
  | _, .int b, _ => by show (b == b) = true; simp
  | _, .str b, _ => by show (b == b) = true; simp
  | k + 1, .tup xs, h => by rw [okd_tup] at h; exact eqbL_refl k xs h
  | k + 1, .lst xs, h => by rw [okd_lst] at h; exact eqbL_refl k xs h
  | 0, .tup xs, h => by simp [okd] at h
  | 0, .lst xs, h => by simp [okd] at h
  | k, .dct _ _, h => by cases k <;> simp [okd] at h
  | k, .ob _ _ _, h => by cases k <;> simp [okd] at h
  | k, .fn _, h => by cases k <;> simp [okd] at h
  | k, .scr _, h => by cases k <;> simp [okd] at h
theorem eqbL_refl : ∀ (k : Nat) (ds : List D), ds.all (okd k) = true → eqbL ds ds = true
  | _, [], _ => rfl
  | k, d :: ds, h => by
    rw [List.all_cons, Bool.and_eq_true] at h
    show (d.eqb d && eqbL ds ds) = true
    rw [eqb_refl k d h.1, eqbL_refl k ds h.2]; rfl
end
theorem gEq_self {neg : Bool} {d : D} (h : okd 20 d = true) : gEq neg d d = some (.bl (!neg)) := by
  unfold gEq
  rw [h, eqb_refl 20 d h]
  cases neg <;> rfl
theorem gEq_bl {neg a b : Bool} : gEq neg (.bl a) (.bl b) = some (.bl ((a == b) ^^ neg)) := rfl
theorem gEq_int {neg : Bool} {a b : Int} : gEq neg (.int a) (.int b) = some (.bl ((a == b) ^^ neg)) := rfl
theorem gEq_str {neg : Bool} {a b : Str} : gEq neg (.str a) (.str b) = some (.bl ((a == b) ^^ neg)) := rfl
theorem gEq_nn {neg : Bool} : gEq neg .non .non = some (.bl (true ^^ neg)) := rfl
theorem i2_non {T U : String} : gIsi2 T U .non = some (.bl (isa "NoneType" T || isa "NoneType" U)) := rfl
theorem i2_bl {T U : String} {b : Bool} : gIsi2 T U (.bl b) = some (.bl (isa "bool" T || isa "bool" U)) := rfl
theorem i2_int {T U : String} {b : Int} : gIsi2 T U (.int b) = some (.bl (isa "int" T || isa "int" U)) := rfl
theorem i2_str {T U : String} {b : Str} : gIsi2 T U (.str b) = some (.bl (isa "str" T || isa "str" U)) := rfl
theorem i2_tup {T U : String} {b : List D} : gIsi2 T U (.tup b) = some (.bl (isa "tuple" T || isa "tuple" U)) := rfl
theorem i2_lst {T U : String} {b : List D} : gIsi2 T U (.lst b) = some (.bl (isa "list" T || isa "list" U)) := rfl
theorem i1_non {T : String} : gIsi T .non = some (.bl (isa "NoneType" T)) := rfl
theorem i1_bl {T : String} {b : Bool} : gIsi T (.bl b) = some (.bl (isa "bool" T)) := rfl
theorem i1_int {T : String} {b : Int} : gIsi T (.int b) = some (.bl (isa "int" T)) := rfl
theorem i1_str {T : String} {b : Str} : gIsi T (.str b) = some (.bl (isa "str" T)) := rfl
theorem i1_tup {T : String} {b : List D} : gIsi T (.tup b) = some (.bl (isa "tuple" T)) := rfl
theorem i1_lst {T : String} {b : List D} : gIsi T (.lst b) = some (.bl (isa "list" T)) := rfl
theorem isa_NoneType_int : isa "NoneType" "int" = false := by decide
theorem isa_NoneType_bool : isa "NoneType" "bool" = false := by decide
theorem isa_NoneType_str : isa "NoneType" "str" = false := by decide
theorem isa_NoneType_tuple : isa "NoneType" "tuple" = false := by decide
theorem isa_NoneType_list : isa "NoneType" "list" = false := by decide
theorem isa_bool_int : isa "bool" "int" = true := by decide
theorem isa_bool_bool : isa "bool" "bool" = true := by decide
theorem isa_bool_str : isa "bool" "str" = false := by decide
theorem isa_bool_tuple : isa "bool" "tuple" = false := by decide
theorem isa_bool_list : isa "bool" "list" = false := by decide
theorem isa_int_int : isa "int" "int" = true := by decide
theorem isa_int_bool : isa "int" "bool" = false := by decide
theorem isa_int_str : isa "int" "str" = false := by decide
theorem isa_int_tuple : isa "int" "tuple" = false := by decide
theorem isa_int_list : isa "int" "list" = false := by decide
theorem isa_str_int : isa "str" "int" = false := by decide
theorem isa_str_bool : isa "str" "bool" = false := by decide
theorem isa_str_str : isa "str" "str" = true := by decide
theorem isa_str_tuple : isa "str" "tuple" = false := by decide
theorem isa_str_list : isa "str" "list" = false := by decide
theorem isa_tuple_int : isa "tuple" "int" = false := by decide
theorem isa_tuple_bool : isa "tuple" "bool" = false := by decide
theorem isa_tuple_str : isa "tuple" "str" = false := by decide
theorem isa_tuple_tuple : isa "tuple" "tuple" = true := by decide
theorem isa_tuple_list : isa "tuple" "list" = false := by decide
theorem isa_list_int : isa "list" "int" = false := by decide
theorem isa_list_bool : isa "list" "bool" = false := by decide
theorem isa_list_str : isa "list" "str" = false := by decide
theorem isa_list_tuple : isa "list" "tuple" = false := by decide
theorem isa_list_list : isa "list" "list" = true := by decide
theorem isN_non {neg : Bool} : gIsN neg .non = some (.bl (true ^^ neg)) := rfl
theorem isN_bl {neg : Bool} {b : Bool} : gIsN neg (.bl b) = some (.bl (false ^^ neg)) := rfl
theorem isN_int {neg : Bool} {b : Int} : gIsN neg (.int b) = some (.bl (false ^^ neg)) := rfl
theorem isN_str {neg : Bool} {b : Str} : gIsN neg (.str b) = some (.bl (false ^^ neg)) := rfl
theorem isN_tup {neg : Bool} {b : List D} : gIsN neg (.tup b) = some (.bl (false ^^ neg)) := rfl
theorem isN_lst {neg : Bool} {b : List D} : gIsN neg (.lst b) = some (.bl (false ^^ neg)) := rfl
theorem runP2 {n : Nat} {f : List Sl → RS} {a b : D} : runP n 2 f [a, b] = (match f ([a, b].map .val ++ List.replicate (n - 2) .un) with
  | .nx _ => .ok .non .non
  | .rt d _ => .ok d .non
  | .exn x _ => .exn x .non
  | _ => .bad) := rfl
theorem runP1 {n : Nat} {f : List Sl → RS} {a : D} : runP n 1 f [a] = (match f ([a].map .val ++ List.replicate (n - 1) .un) with
  | .nx _ => .ok .non .non
  | .rt d _ => .ok d .non
  | .exn x _ => .exn x .non
  | _ => .bad) := rfl
theorem runP3 {n : Nat} {f : List Sl → RS} {a b c : D} : runP n 3 f [a, b, c] = (match f ([a, b, c].map .val ++ List.replicate (n - 3) .un) with
  | .nx _ => .ok .non .non
  | .rt d _ => .ok d .non
  | .exn x _ => .exn x .non
  | _ => .bad) := rfl
theorem atI_nat {α : Type} {xs : List α} {i : Nat} {x : α} (h : xs[i]? = some x) : atI xs (0 + (i : Int)) = some x := by
  have hl := (List.getElem?_eq_some_iff.mp h).1
  unfold atI
  have e : ixN xs.length (0 + (i : Int)) = some i := by unfold ixN; rw [if_pos (by omega), if_pos (by omega)]; congr 1; omega
  rw [e]; exact h
theorem alike_rows {n : Nat} {xs : List D} (ih : ∀ x ∈ xs, alikeF n [x, x] = .ok (.bl true) .non) (hl : xs.length ≤ LIM) (w : List D → D) (hw : w = .tup ∨ w = .lst) :
    lcomp (irng1 (un gLen (pk 1))) (gnm 2) (tnot (tv (call (alikeF n) (acons (binL gIx 0 (pk 2)) (acons (binL gIx 1 (pk 2)) anil))))) (rd 2) [2] [.val (w xs), .val (w xs), .un] = .ok (.lst []) [.val (w xs), .val (w xs), .un] := by
  have hg : gLen (w xs) = some (.int xs.length) := by rcases hw with rfl | rfl <;> rfl
  have hi : irng1 (un gLen (pk 1)) [.val (w xs), .val (w xs), .un] = .ok ((List.range xs.length).map fun (i : Nat) => D.int (0 + i)) [.val (w xs), .val (w xs), .un] := by
    have hs : small (xs.length : Int) = true := small_of (by omega) (by have : xs.length ≤ 1000000 := hl; omega)
    simp only [bind_ok, bind_exn, bind_bad, s_ok, s_exn, s_bad, rd_ap, pk_ap, cst_ap, lift_some, lift_none, bin_ap, has_ap, binL_ap, un_ap, anil_ap, acons_ap, mkTup_ap, mkLst_ap, asB_bl, tv_ap, tnot_ap, tand_ap, tor_ap, vand_ap, vor_ap, vnot_ap, vif_ap, vchain_ap, sasg_ap, sown_ap, sif_ap, sret_ap, sexp_ap, snx_ap, sseq_ap, spar_ap, stg_ap, gnm_ap, gnil_ap, gcons_ap, gtp_ap, call_ap, doF_ok, doF_exn, callB_ap, apk_ap, doFB_ok, isOwn_ap, callI_ap, doI_ap, putOwn_ap, setD_ap, sset_ap, isLst_ap, mutl_ap, mutm_ap, sraise_ap, slcL_ap, slc_ap, pno_ap, psome_ap, unN_ap, iseq_ap, irng1_ap, irng2_ap, lrng_ap, gAdd_int, gInt_ap, at0, at1, at2, at3, gIx_lst, gIx_tup, gIx_scr, gLen_lst, gLen_tup, gLen_scr, gToInt_int, List.getElem?_cons_zero, List.getElem?_cons_succ, List.set_cons_zero, List.set_cons_succ, List.length_cons, List.length_nil, ite_true, ite_false, if_true, if_false, Bool.true_and, Bool.and_true, Bool.false_and, Bool.and_false, decide_true, decide_false, Option.map_some, Option.map_none, Bool.not_true, Bool.not_false, reduceIte, Nat.reduceAdd, Nat.reduceLeDiff, Bool.false_eq_true, Bool.true_eq_false, Bool.false_or, Bool.true_or, Bool.or_false, Bool.or_true, hg, hs, rngL_map]
    rw [show ((xs.length : Int) - 0).toNat = xs.length by omega]
  refine (lcomp_pure (φ := fun (i : Nat) => D.int (0 + i)) (p := fun _ => false) (f := fun _ => D.non) (List.range xs.length) hi rfl (by rw [List.length_range]; exact hl) (fun i hi => ?_) (fun _ _ h => by cases h)).trans ?_
  · rw [List.mem_range] at hi
    have hx : xs[i]? = some xs[i] := List.getElem?_eq_getElem hi
    have hix : gIx (w xs) (.int (0 + (i : Int))) = some xs[i] := by rcases hw with rfl | rfl <;> exact atI_nat hx
    have hm := ih xs[i] (List.getElem_mem hi)
    simp only [bind_ok, bind_exn, bind_bad, s_ok, s_exn, s_bad, rd_ap, pk_ap, cst_ap, lift_some, lift_none, bin_ap, has_ap, binL_ap, un_ap, anil_ap, acons_ap, mkTup_ap, mkLst_ap, asB_bl, tv_ap, tnot_ap, tand_ap, tor_ap, vand_ap, vor_ap, vnot_ap, vif_ap, vchain_ap, sasg_ap, sown_ap, sif_ap, sret_ap, sexp_ap, snx_ap, sseq_ap, spar_ap, stg_ap, gnm_ap, gnil_ap, gcons_ap, gtp_ap, call_ap, doF_ok, doF_exn, callB_ap, apk_ap, doFB_ok, isOwn_ap, callI_ap, doI_ap, putOwn_ap, setD_ap, sset_ap, isLst_ap, mutl_ap, mutm_ap, sraise_ap, slcL_ap, slc_ap, pno_ap, psome_ap, unN_ap, iseq_ap, irng1_ap, irng2_ap, lrng_ap, gAdd_int, gInt_ap, at0, at1, at2, at3, gIx_lst, gIx_tup, gIx_scr, gLen_lst, gLen_tup, gLen_scr, gToInt_int, List.getElem?_cons_zero, List.getElem?_cons_succ, List.set_cons_zero, List.set_cons_succ, List.length_cons, List.length_nil, ite_true, ite_false, if_true, if_false, Bool.true_and, Bool.and_true, Bool.false_and, Bool.and_false, decide_true, decide_false, Option.map_some, Option.map_none, Bool.not_true, Bool.not_false, reduceIte, Nat.reduceAdd, Nat.reduceLeDiff, Bool.false_eq_true, Bool.true_eq_false, Bool.false_or, Bool.true_or, Bool.or_false, Bool.or_true, hix, hm]
  · rw [List.filter_eq_nil_iff.mpr (fun _ _ h => by cases h)]; rfl
theorem alike_refl : ∀ (k n : Nat) (d : D), okl k d = true → k < n → k ≤ 20 → alikeF n [d, d] = .ok (.bl true) .non
  | k, 0, d, _, h, _ => absurd h (Nat.not_lt_zero _)
  | k, n + 1, .non, _, _, _ => by
    rw [alikeF, runP2]; unfold alikeB
    simp only [bind_ok, bind_exn, bind_bad, s_ok, s_exn, s_bad, rd_ap, pk_ap, cst_ap, lift_some, lift_none, bin_ap, has_ap, binL_ap, un_ap, anil_ap, acons_ap, mkTup_ap, mkLst_ap, asB_bl, tv_ap, tnot_ap, tand_ap, tor_ap, vand_ap, vor_ap, vnot_ap, vif_ap, vchain_ap, sasg_ap, sown_ap, sif_ap, sret_ap, sexp_ap, snx_ap, sseq_ap, spar_ap, stg_ap, gnm_ap, gnil_ap, gcons_ap, gtp_ap, call_ap, doF_ok, doF_exn, callB_ap, apk_ap, doFB_ok, isOwn_ap, callI_ap, doI_ap, putOwn_ap, setD_ap, sset_ap, isLst_ap, mutl_ap, mutm_ap, sraise_ap, slcL_ap, slc_ap, pno_ap, psome_ap, unN_ap, iseq_ap, irng1_ap, irng2_ap, lrng_ap, gAdd_int, gInt_ap, at0, at1, at2, at3, gIx_lst, gIx_tup, gIx_scr, gLen_lst, gLen_tup, gLen_scr, gToInt_int, List.getElem?_cons_zero, List.getElem?_cons_succ, List.set_cons_zero, List.set_cons_succ, List.length_cons, List.length_nil, ite_true, ite_false, if_true, if_false, Bool.true_and, Bool.and_true, Bool.false_and, Bool.and_false, decide_true, decide_false, Option.map_some, Option.map_none, Bool.not_true, Bool.not_false, reduceIte, Nat.reduceAdd, Nat.reduceLeDiff, Bool.false_eq_true, Bool.true_eq_false, Bool.false_or, Bool.true_or, Bool.or_false, Bool.or_true, List.map_cons, List.map_nil, List.cons_append, List.nil_append, i2_non, i1_non, isN_non, gEq_nn, gEq_bl, isa_NoneType_tuple, isa_NoneType_list, isa_NoneType_str, Bool.xor_false, Bool.or_self, beq_self_eq_true]
  | k, n + 1, .bl b, _, _, _ => by
    rw [alikeF, runP2]; unfold alikeB
    simp only [bind_ok, bind_exn, bind_bad, s_ok, s_exn, s_bad, rd_ap, pk_ap, cst_ap, lift_some, lift_none, bin_ap, has_ap, binL_ap, un_ap, anil_ap, acons_ap, mkTup_ap, mkLst_ap, asB_bl, tv_ap, tnot_ap, tand_ap, tor_ap, vand_ap, vor_ap, vnot_ap, vif_ap, vchain_ap, sasg_ap, sown_ap, sif_ap, sret_ap, sexp_ap, snx_ap, sseq_ap, spar_ap, stg_ap, gnm_ap, gnil_ap, gcons_ap, gtp_ap, call_ap, doF_ok, doF_exn, callB_ap, apk_ap, doFB_ok, isOwn_ap, callI_ap, doI_ap, putOwn_ap, setD_ap, sset_ap, isLst_ap, mutl_ap, mutm_ap, sraise_ap, slcL_ap, slc_ap, pno_ap, psome_ap, unN_ap, iseq_ap, irng1_ap, irng2_ap, lrng_ap, gAdd_int, gInt_ap, at0, at1, at2, at3, gIx_lst, gIx_tup, gIx_scr, gLen_lst, gLen_tup, gLen_scr, gToInt_int, List.getElem?_cons_zero, List.getElem?_cons_succ, List.set_cons_zero, List.set_cons_succ, List.length_cons, List.length_nil, ite_true, ite_false, if_true, if_false, Bool.true_and, Bool.and_true, Bool.false_and, Bool.and_false, decide_true, decide_false, Option.map_some, Option.map_none, Bool.not_true, Bool.not_false, reduceIte, Nat.reduceAdd, Nat.reduceLeDiff, Bool.false_eq_true, Bool.true_eq_false, Bool.false_or, Bool.true_or, Bool.or_false, Bool.or_true, List.map_cons, List.map_nil, List.cons_append, List.nil_append, i2_bl, i1_bl, isN_bl, gEq_bl, isa_bool_tuple, isa_bool_list, isa_bool_str, isa_bool_int, isa_bool_bool, Bool.xor_false, Bool.or_self, beq_self_eq_true]
  | k, n + 1, .int b, _, _, _ => by
    rw [alikeF, runP2]; unfold alikeB
    simp only [bind_ok, bind_exn, bind_bad, s_ok, s_exn, s_bad, rd_ap, pk_ap, cst_ap, lift_some, lift_none, bin_ap, has_ap, binL_ap, un_ap, anil_ap, acons_ap, mkTup_ap, mkLst_ap, asB_bl, tv_ap, tnot_ap, tand_ap, tor_ap, vand_ap, vor_ap, vnot_ap, vif_ap, vchain_ap, sasg_ap, sown_ap, sif_ap, sret_ap, sexp_ap, snx_ap, sseq_ap, spar_ap, stg_ap, gnm_ap, gnil_ap, gcons_ap, gtp_ap, call_ap, doF_ok, doF_exn, callB_ap, apk_ap, doFB_ok, isOwn_ap, callI_ap, doI_ap, putOwn_ap, setD_ap, sset_ap, isLst_ap, mutl_ap, mutm_ap, sraise_ap, slcL_ap, slc_ap, pno_ap, psome_ap, unN_ap, iseq_ap, irng1_ap, irng2_ap, lrng_ap, gAdd_int, gInt_ap, at0, at1, at2, at3, gIx_lst, gIx_tup, gIx_scr, gLen_lst, gLen_tup, gLen_scr, gToInt_int, List.getElem?_cons_zero, List.getElem?_cons_succ, List.set_cons_zero, List.set_cons_succ, List.length_cons, List.length_nil, ite_true, ite_false, if_true, if_false, Bool.true_and, Bool.and_true, Bool.false_and, Bool.and_false, decide_true, decide_false, Option.map_some, Option.map_none, Bool.not_true, Bool.not_false, reduceIte, Nat.reduceAdd, Nat.reduceLeDiff, Bool.false_eq_true, Bool.true_eq_false, Bool.false_or, Bool.true_or, Bool.or_false, Bool.or_true, List.map_cons, List.map_nil, List.cons_append, List.nil_append, i2_int, i1_int, isN_int, gEq_bl, gEq_int, isa_int_tuple, isa_int_list, isa_int_str, isa_int_int, isa_int_bool, Bool.xor_false, Bool.or_self, beq_self_eq_true]
  | k, n + 1, .str b, _, _, _ => by
    rw [alikeF, runP2]; unfold alikeB
    simp only [bind_ok, bind_exn, bind_bad, s_ok, s_exn, s_bad, rd_ap, pk_ap, cst_ap, lift_some, lift_none, bin_ap, has_ap, binL_ap, un_ap, anil_ap, acons_ap, mkTup_ap, mkLst_ap, asB_bl, tv_ap, tnot_ap, tand_ap, tor_ap, vand_ap, vor_ap, vnot_ap, vif_ap, vchain_ap, sasg_ap, sown_ap, sif_ap, sret_ap, sexp_ap, snx_ap, sseq_ap, spar_ap, stg_ap, gnm_ap, gnil_ap, gcons_ap, gtp_ap, call_ap, doF_ok, doF_exn, callB_ap, apk_ap, doFB_ok, isOwn_ap, callI_ap, doI_ap, putOwn_ap, setD_ap, sset_ap, isLst_ap, mutl_ap, mutm_ap, sraise_ap, slcL_ap, slc_ap, pno_ap, psome_ap, unN_ap, iseq_ap, irng1_ap, irng2_ap, lrng_ap, gAdd_int, gInt_ap, at0, at1, at2, at3, gIx_lst, gIx_tup, gIx_scr, gLen_lst, gLen_tup, gLen_scr, gToInt_int, List.getElem?_cons_zero, List.getElem?_cons_succ, List.set_cons_zero, List.set_cons_succ, List.length_cons, List.length_nil, ite_true, ite_false, if_true, if_false, Bool.true_and, Bool.and_true, Bool.false_and, Bool.and_false, decide_true, decide_false, Option.map_some, Option.map_none, Bool.not_true, Bool.not_false, reduceIte, Nat.reduceAdd, Nat.reduceLeDiff, Bool.false_eq_true, Bool.true_eq_false, Bool.false_or, Bool.true_or, Bool.or_false, Bool.or_true, List.map_cons, List.map_nil, List.cons_append, List.nil_append, i2_str, i1_str, isN_str, gEq_bl, gEq_str, isa_str_tuple, isa_str_list, isa_str_str, Bool.xor_false, Bool.or_self, beq_self_eq_true]
  | k + 1, n + 1, .tup xs, h, hn, hk => by
    rw [okl_tup, Bool.and_eq_true] at h
    have hr := alike_rows (n := n) (xs := xs) (fun x hx => alike_refl k n x (List.all_eq_true.mp h.2 x hx) (by omega) (by omega)) (of_decide_eq_true h.1) .tup (.inl rfl)
    have he : gEq false (.lst []) (.lst []) = some (.bl true) := rfl
    rw [alikeF, runP2]; unfold alikeB
    simp only [bind_ok, bind_exn, bind_bad, s_ok, s_exn, s_bad, rd_ap, pk_ap, cst_ap, lift_some, lift_none, bin_ap, has_ap, binL_ap, un_ap, anil_ap, acons_ap, mkTup_ap, mkLst_ap, asB_bl, tv_ap, tnot_ap, tand_ap, tor_ap, vand_ap, vor_ap, vnot_ap, vif_ap, vchain_ap, sasg_ap, sown_ap, sif_ap, sret_ap, sexp_ap, snx_ap, sseq_ap, spar_ap, stg_ap, gnm_ap, gnil_ap, gcons_ap, gtp_ap, call_ap, doF_ok, doF_exn, callB_ap, apk_ap, doFB_ok, isOwn_ap, callI_ap, doI_ap, putOwn_ap, setD_ap, sset_ap, isLst_ap, mutl_ap, mutm_ap, sraise_ap, slcL_ap, slc_ap, pno_ap, psome_ap, unN_ap, iseq_ap, irng1_ap, irng2_ap, lrng_ap, gAdd_int, gInt_ap, at0, at1, at2, at3, gIx_lst, gIx_tup, gIx_scr, gLen_lst, gLen_tup, gLen_scr, gToInt_int, List.getElem?_cons_zero, List.getElem?_cons_succ, List.set_cons_zero, List.set_cons_succ, List.length_cons, List.length_nil, ite_true, ite_false, if_true, if_false, Bool.true_and, Bool.and_true, Bool.false_and, Bool.and_false, decide_true, decide_false, Option.map_some, Option.map_none, Bool.not_true, Bool.not_false, reduceIte, Nat.reduceAdd, Nat.reduceLeDiff, Bool.false_eq_true, Bool.true_eq_false, Bool.false_or, Bool.true_or, Bool.or_false, Bool.or_true, List.map_cons, List.map_nil, List.cons_append, List.nil_append, i2_tup, i1_tup, gEq_bl, gEq_int, isa_tuple_tuple, isa_tuple_list, Bool.xor_true, Bool.xor_false, Bool.or_self, beq_self_eq_true, List.replicate, Nat.reduceSub, hr, he, Nat.zero_le]
  | k + 1, n + 1, .lst xs, h, hn, hk => by
    rw [okl_lst, Bool.and_eq_true] at h
    have hr := alike_rows (n := n) (xs := xs) (fun x hx => alike_refl k n x (List.all_eq_true.mp h.2 x hx) (by omega) (by omega)) (of_decide_eq_true h.1) .lst (.inr rfl)
    have he : gEq false (.lst []) (.lst []) = some (.bl true) := rfl
    rw [alikeF, runP2]; unfold alikeB
    simp only [bind_ok, bind_exn, bind_bad, s_ok, s_exn, s_bad, rd_ap, pk_ap, cst_ap, lift_some, lift_none, bin_ap, has_ap, binL_ap, un_ap, anil_ap, acons_ap, mkTup_ap, mkLst_ap, asB_bl, tv_ap, tnot_ap, tand_ap, tor_ap, vand_ap, vor_ap, vnot_ap, vif_ap, vchain_ap, sasg_ap, sown_ap, sif_ap, sret_ap, sexp_ap, snx_ap, sseq_ap, spar_ap, stg_ap, gnm_ap, gnil_ap, gcons_ap, gtp_ap, call_ap, doF_ok, doF_exn, callB_ap, apk_ap, doFB_ok, isOwn_ap, callI_ap, doI_ap, putOwn_ap, setD_ap, sset_ap, isLst_ap, mutl_ap, mutm_ap, sraise_ap, slcL_ap, slc_ap, pno_ap, psome_ap, unN_ap, iseq_ap, irng1_ap, irng2_ap, lrng_ap, gAdd_int, gInt_ap, at0, at1, at2, at3, gIx_lst, gIx_tup, gIx_scr, gLen_lst, gLen_tup, gLen_scr, gToInt_int, List.getElem?_cons_zero, List.getElem?_cons_succ, List.set_cons_zero, List.set_cons_succ, List.length_cons, List.length_nil, ite_true, ite_false, if_true, if_false, Bool.true_and, Bool.and_true, Bool.false_and, Bool.and_false, decide_true, decide_false, Option.map_some, Option.map_none, Bool.not_true, Bool.not_false, reduceIte, Nat.reduceAdd, Nat.reduceLeDiff, Bool.false_eq_true, Bool.true_eq_false, Bool.false_or, Bool.true_or, Bool.or_false, Bool.or_true, List.map_cons, List.map_nil, List.cons_append, List.nil_append, i2_lst, i1_lst, gEq_bl, gEq_int, isa_list_tuple, isa_list_list, Bool.xor_true, Bool.xor_false, Bool.or_self, beq_self_eq_true, List.replicate, Nat.reduceSub, hr, he, Nat.zero_le]
  | 0, n + 1, .tup xs, h, _, _ => by simp [okl] at h
  | 0, n + 1, .lst xs, h, _, _ => by simp [okl] at h
  | k, n + 1, .dct _ _, h, _, _ => by cases k <;> simp [okl] at h
  | k, n + 1, .ob _ _ _, h, _, _ => by cases k <;> simp [okl] at h
  | k, n + 1, .fn _, h, _, _ => by cases k <;> simp [okl] at h
  | k, n + 1, .scr _, h, _, _ => by cases k <;> simp [okl] at h
end DL

set_option Elab.async false
set_option linter.all false
set_option maxRecDepth 100000
set_option maxHeartbeats 8000000
namespace K10
open PySem L2 DL
noncomputable section
def top (i : Nat) : Stmt := PySem.Challenge.pw_unitsheld_k10_whole_fractions.main.body.getD i (.Pass ⟨0, 0, 0, 0⟩)
def cat_BadNumber : Str → Option Bool := fun c => ([("BadNumber", true)] : List (Str × Bool)).lookup c
def kn_value : Str → Bool := fun c => decide (c ∈ (["BadNumber"] : List Str))
abbrev s_reduced : Stmt := top 7
def b_reduced : List Sl → RS :=
  (sseq (spar 2 3 (acons (un gAbs (pk 0)) (acons (rd 1) anil))) (sseq (swhile (tv (bin gGt (rd 3) (cst (.int 0)))) (spar 2 3 (acons (rd 3) (acons (bin gMod (rd 2) (pk 3)) anil)))) (sret (vif (tv (bin gGt (rd 2) (cst (.int 0)))) (mkTup (acons (bin gDiv (rd 0) (pk 2)) (acons (bin gDiv (rd 1) (pk 2)) anil))) (mkTup (acons (cst (.int 0)) (acons (cst (.int 1)) anil)))))))
def R_reduced : List D → RF := runP 4 2 b_reduced
abbrev s_times : Stmt := top 12
def b_times : List Sl → RS :=
  (sret (call R_reduced (acons (bin gMulI (binL gIx 0 (cst (.int 0))) (binL gIx 1 (cst (.int 0)))) (acons (bin gMulI (binL gIx 0 (cst (.int 1))) (binL gIx 1 (cst (.int 1)))) anil))))
def R_times : List D → RF := runP 2 2 b_times
abbrev s_plus : Stmt := top 10
def b_plus : List Sl → RS :=
  (sret (call R_reduced (acons (bin gAdd (bin gMulI (binL gIx 0 (cst (.int 0))) (binL gIx 1 (cst (.int 1)))) (bin gMulI (binL gIx 1 (cst (.int 0))) (binL gIx 0 (cst (.int 1))))) (acons (bin gMulI (binL gIx 0 (cst (.int 1))) (binL gIx 1 (cst (.int 1)))) anil))))
def R_plus : List D → RF := runP 2 2 b_plus
abbrev s_is_less : Stmt := top 14
def b_is_less : List Sl → RS :=
  (sret (bin gLt (bin gMulI (binL gIx 0 (cst (.int 0))) (binL gIx 1 (cst (.int 1)))) (bin gMulI (binL gIx 1 (cst (.int 0))) (binL gIx 0 (cst (.int 1))))))
def R_is_less : List D → RF := runP 2 2 b_is_less
abbrev s_median : Stmt := top 19
def b_median : List Sl → RS :=
  (sseq (sown 1 (mkLst (acons (binL gIx 0 (cst (.int 0))) anil))) (sseq (sfor (iseq (slcL 0 (psome (cst (.int 1))) pno)) (gnm 2) (sseq (sasg 3 (un gLen (lcompB 1 (gnm 6) (tnot (tv (call R_is_less (acons (rd 2) (acons (rd 6) anil))))) (rd 6) [6]))) (sexp (mutl 1 gInsert (acons (rd 3) (acons (rd 2) anil)))))) (sseq (spar 4 5 (acons (binL gIx 1 (bin gDiv (bin gSub (un gLen (pk 1)) (cst (.int 1))) (cst (.int 2)))) (acons (binL gIx 1 (bin gDiv (un gLen (pk 1)) (cst (.int 2)))) anil))) (sret (call R_times (acons (call R_plus (acons (rd 4) (acons (rd 5) anil))) (acons (mkTup (acons (cst (.int 1)) (acons (cst (.int 2)) anil))) anil)))))))
def R_median : List D → RF := runP 7 1 b_median
abbrev s__law_alike : Stmt := top 22
def b__law_alike (me : List D → RF) : List Sl → RS :=
  (sseq (sif (tv (un (gIsi2 "tuple" "list") (pk 1))) (sseq (sif (tor (tnot (tv (un (gIsi2 "tuple" "list") (pk 0)))) (tv (bin (gEq true) (un (gIsi "list") (pk 0)) (un (gIsi "list") (pk 1))))) (sret (cst (.bl false))) snx) (sseq (sif (tv (bin (gEq true) (un gLen (pk 0)) (un gLen (pk 1)))) (sret (cst (.bl false))) snx) (sret (bin (gEq false) (lcomp (irng1 (un gLen (pk 1))) (gnm 2) (tnot (tv (call me (acons (binL gIx 0 (pk 2)) (acons (binL gIx 1 (pk 2)) anil))))) (rd 2) [2]) (mkLst anil))))) snx) (sseq (sif (tor (tv (un (gIsN false) (rd 1))) (tv (un (gIsi "str") (pk 1)))) (sret (vand (bin (gEq false) (rd 0) (pk 1)) (bin (gEq false) (un (gIsi "str") (pk 0)) (un (gIsi "str") (pk 1))))) snx) (sret (vand (un (gIsi "int") (pk 0)) (vand (bin (gEq false) (un (gIsi "bool") (pk 0)) (un (gIsi "bool") (pk 1))) (bin (gEq false) (rd 0) (pk 1)))))))
def R__law_alike : Nat → List D → RF
  | 0 => fun _ => .bad
  | n + 1 => runP 3 2 (b__law_alike (R__law_alike n))
abbrev s_is_row : Stmt := top 5
def b_is_row : List Sl → RS :=
  (sret (un (gIsi2 "list" "tuple") (pk 0)))
def R_is_row : List D → RF := runP 1 1 b_is_row
abbrev s_is_whole : Stmt := top 4
def b_is_whole : List Sl → RS :=
  (sret (vand (un (gIsi "int") (pk 0)) (vnot (un (gIsi "bool") (pk 0)))))
def R_is_whole : List D → RF := runP 1 1 b_is_whole
abbrev s_is_fraction : Stmt := top 8
def b_is_fraction : List Sl → RS :=
  (sseq (sif (tor (tnot (tv (call R_is_row (acons (rd 0) anil)))) (tor (tv (bin (gEq true) (un gLen (pk 0)) (cst (.int 2)))) (tor (tnot (tv (call R_is_whole (acons (binL gIx 0 (cst (.int 0))) anil)))) (tor (tnot (tv (call R_is_whole (acons (binL gIx 0 (cst (.int 1))) anil)))) (tv (bin gLt (binL gIx 0 (cst (.int 1))) (cst (.int 1)))))))) (sret (cst (.bl false))) snx) (sret (bin (gEq false) (call R_reduced (acons (binL gIx 0 (cst (.int 0))) (acons (binL gIx 0 (cst (.int 1))) anil))) (mkTup (acons (binL gIx 0 (cst (.int 0))) (acons (binL gIx 0 (cst (.int 1))) anil))))))
def R_is_fraction : List D → RF := runP 1 1 b_is_fraction
abbrev s__law_low : Stmt := top 24
def b__law_low : List Sl → RS :=
  (sseq (sasg 2 (cst (.int 1))) (sseq (sfor (irng2 (cst (.int 1)) (bin gAdd (un gToInt (pk 1)) (cst (.int 1)))) (gnm 3) (sif (tand (tv (bin (gEq false) (bin gMod (un gToInt (pk 0)) (pk 3)) (cst (.int 0)))) (tv (bin (gEq false) (bin gMod (un gToInt (pk 1)) (pk 3)) (cst (.int 0))))) (sasg 2 (rd 3)) snx)) (sret (mkTup (acons (bin gDiv (un gToInt (pk 0)) (pk 2)) (acons (bin gDiv (un gToInt (pk 1)) (pk 2)) anil))))))
def R__law_low : List D → RF := runP 4 2 b__law_low
abbrev s_want_fraction : Stmt := top 9
def b_want_fraction : List Sl → RS :=
  (sseq (sif (tnot (tv (call R_is_fraction (acons (rd 0) anil)))) (sraise "BadNumber" ["value"] (acons (rd 0) anil)) snx) (sret (un gTuple (pk 0))))
def R_want_fraction : List D → RF := runP 1 1 b_want_fraction
abbrev s__law_taken : Stmt := top 21
def b__law_taken : List Sl → RS :=
  (sseq (sif (tv (bin gGt (binL gIx 0 (cst (.int 3))) (cst (.int 0)))) (sseq (sasg 2 (bin gMod (un gToInt (binL gIx 0 (cst (.int 3)))) (pk 1))) (sseq (sset 0 (bin gDiv (binL gIx 0 (cst (.int 3))) (pk 1)) (cst (.int 3))) (sret (rd 2)))) snx) (sseq (sset 0 (bin gAdd (binL gIx 0 (cst (.int 1))) (cst (.int 1))) (cst (.int 1))) (sseq (sif (tv (bin gGt (binL gIx 0 (cst (.int 1))) (un gLen (binL gIx 0 (cst (.int 0)))))) (sseq (sset 0 (bin gMod (un gToInt (bin gAdd (bin gMulI (binL gIx 0 (cst (.int 2))) (cst (.int 48271))) (cst (.int 11)))) (cst (.int 2147483647))) (cst (.int 2))) (sret (bin gMod (un gToInt (bin gDiv (binL gIx 0 (cst (.int 2))) (cst (.int 7)))) (pk 1)))) snx) (sseq (sasg 3 (bin gIx (binL gIx 0 (cst (.int 0))) (bin gSub (binL gIx 0 (cst (.int 1))) (cst (.int 1))))) (sseq (sset 0 (bin gMod (un gToInt (bin gAdd (bin gAdd (bin gMulI (binL gIx 0 (cst (.int 2))) (cst (.int 48271))) (pk 3)) (cst (.int 11)))) (cst (.int 2147483647))) (cst (.int 2))) (sseq (sif (tv (bin gGe (rd 3) (bin gPow (cst (.int 10)) (cst (.int 18))))) (sset 0 (bin gDiv (rd 3) (pk 1)) (cst (.int 3))) snx) (sret (bin gMod (un gToInt (pk 3)) (pk 1)))))))))
def R__law_taken : List D → RF := runI 4 2 b__law_taken
abbrev s__law_truth : Stmt := top 23
def b__law_truth : List Sl → RS :=
  (sret (vand (un (gIsi "bool") (pk 0)) (bin (gEq false) (rd 0) (pk 1))))
def R__law_truth : List D → RF := runP 2 2 b__law_truth
abbrev s_total : Stmt := top 18
def b_total : List Sl → RS :=
  (sseq (sasg 1 (mkTup (acons (cst (.int 0)) (acons (cst (.int 1)) anil)))) (sseq (sfor (iseq (rd 0)) (gnm 2) (sasg 1 (call R_plus (acons (rd 1) (acons (rd 2) anil))))) (sret (rd 1))))
def R_total : List D → RF := runP 3 1 b_total
abbrev s_minus : Stmt := top 11
def b_minus : List Sl → RS :=
  (sret (call R_reduced (acons (bin gSub (bin gMulI (binL gIx 0 (cst (.int 0))) (binL gIx 1 (cst (.int 1)))) (bin gMulI (binL gIx 1 (cst (.int 0))) (binL gIx 0 (cst (.int 1))))) (acons (bin gMulI (binL gIx 0 (cst (.int 1))) (binL gIx 1 (cst (.int 1)))) anil))))
def R_minus : List D → RF := runP 2 2 b_minus
abbrev s_floor_of : Stmt := top 15
def b_floor_of : List Sl → RS :=
  (sret (bin gDiv (binL gIx 0 (cst (.int 0))) (binL gIx 0 (cst (.int 1)))))
def R_floor_of : List D → RF := runP 1 1 b_floor_of
abbrev s_ceiling_of : Stmt := top 16
def b_ceiling_of : List Sl → RS :=
  (sret (un gNeg (bin gDiv (un gNeg (binL gIx 0 (cst (.int 0)))) (binL gIx 0 (cst (.int 1))))))
def R_ceiling_of : List D → RF := runP 1 1 b_ceiling_of
abbrev s_nearest : Stmt := top 17
def b_nearest : List Sl → RS :=
  (sret (bin gDiv (bin gAdd (bin gMulI (cst (.int 2)) (binL gIx 0 (cst (.int 0)))) (binL gIx 0 (cst (.int 1)))) (bin gMulI (cst (.int 2)) (binL gIx 0 (cst (.int 1))))))
def R_nearest : List D → RF := runP 1 1 b_nearest
abbrev s_over : Stmt := top 13
def b_over : List Sl → RS :=
  (sret (call R_reduced (acons (bin gMulI (binL gIx 0 (cst (.int 0))) (binL gIx 1 (cst (.int 1)))) (acons (bin gMulI (binL gIx 0 (cst (.int 1))) (binL gIx 1 (cst (.int 0)))) anil))))
def R_over : List D → RF := runP 2 2 b_over
abbrev s_law : Stmt := top 25
def b_law : List Sl → RS :=
  (sseq (sown 1 (mkLst (acons (rd 0) (acons (cst (.int 0)) (acons (cst (.int 61)) (acons (cst (.int 0)) anil)))))) (sseq (stg (mkTup (acons (bin gSub (callI 1 R__law_taken (acons (cst (.int 121)) anil)) (cst (.int 60))) (acons (bin gAdd (cst (.int 1)) (callI 1 R__law_taken (acons (cst (.int 60)) anil))) (acons (bin gSub (callI 1 R__law_taken (acons (cst (.int 121)) anil)) (cst (.int 60))) (acons (bin gAdd (cst (.int 1)) (callI 1 R__law_taken (acons (cst (.int 60)) anil))) anil))))) (gtp 4 (gcons (gnm 2) (gcons (gnm 3) (gcons (gnm 4) (gcons (gnm 5) gnil)))))) (sseq (spar 6 7 (acons (call R_reduced (acons (rd 2) (acons (rd 3) anil))) (acons (call R_reduced (acons (rd 4) (acons (rd 5) anil))) anil))) (sseq (sif (tor (tnot (tv (call (R__law_alike 24) (acons (mkTup (acons (rd 6) (acons (rd 7) anil))) (acons (mkTup (acons (call R__law_low (acons (rd 2) (acons (rd 3) anil))) (acons (call R__law_low (acons (rd 4) (acons (rd 5) anil))) anil))) anil))))) (tor (tnot (tv (call R_is_fraction (acons (rd 6) anil)))) (tv (call R_is_fraction (acons (mkTup (acons (bin gMulI (rd 2) (cst (.int 2))) (acons (bin gMulI (rd 3) (cst (.int 2))) anil))) anil))))) (sret (cst (.bl false))) snx) (sseq (sif (tnot (tv (call (R__law_alike 24) (acons (mkTup (acons (call R_plus (acons (rd 6) (acons (rd 7) anil))) (acons (call R_minus (acons (rd 6) (acons (rd 7) anil))) (acons (call R_times (acons (rd 6) (acons (rd 7) anil))) anil)))) (acons (mkTup (acons (call R__law_low (acons (bin gAdd (bin gMulI (rd 2) (pk 5)) (bin gMulI (rd 4) (pk 3))) (acons (bin gMulI (rd 3) (pk 5)) anil))) (acons (call R__law_low (acons (bin gSub (bin gMulI (rd 2) (pk 5)) (bin gMulI (rd 4) (pk 3))) (acons (bin gMulI (rd 3) (pk 5)) anil))) (acons (call R__law_low (acons (bin gMulI (rd 2) (pk 4)) (acons (bin gMulI (rd 3) (pk 5)) anil))) anil)))) anil))))) (sret (cst (.bl false))) snx) (sseq (sif (tor (tand (tv (bin gGt (rd 4) (cst (.int 0)))) (tnot (tv (call (R__law_alike 24) (acons (call R_over (acons (rd 6) (acons (rd 7) anil))) (acons (call R__law_low (acons (bin gMulI (rd 2) (pk 5)) (acons (bin gMulI (rd 3) (pk 4)) anil))) anil)))))) (tnot (tv (call R__law_truth (acons (call R_is_less (acons (rd 6) (acons (rd 7) anil))) (acons (bin gLt (bin gMulI (rd 2) (pk 5)) (bin gMulI (rd 4) (pk 3))) anil)))))) (sret (cst (.bl false))) snx) (sseq (sasg 8 (lrng (un gNeg (cst (.int 61))) (cst (.int 62)))) (sseq (spar 9 10 (acons (un gMax (lcomp (iseq (rd 8)) (gnm 18) (tv (bin gLe (bin gMulI (rd 18) (pk 3)) (pk 2))) (rd 18) [18])) (acons (un gMin (lcomp (iseq (rd 8)) (gnm 18) (tv (bin gGe (bin gMulI (rd 18) (pk 3)) (pk 2))) (rd 18) [18])) anil))) (sseq (sasg 11 (un gMax (lcomp (iseq (rd 8)) (gnm 18) (tv (bin gLe (bin gMulI (bin gSub (bin gMulI (cst (.int 2)) (pk 18)) (cst (.int 1))) (pk 3)) (bin gMulI (cst (.int 2)) (pk 2)))) (rd 18) [18]))) (sseq (sif (tnot (tv (call (R__law_alike 24) (acons (mkTup (acons (call R_floor_of (acons (rd 6) anil)) (acons (call R_ceiling_of (acons (rd 6) anil)) (acons (call R_nearest (acons (rd 6) anil)) anil)))) (acons (mkTup (acons (rd 9) (acons (rd 10) (acons (rd 11) anil)))) anil))))) (sret (cst (.bl false))) snx) (sseq (spar 12 13 (acons (bin gAdd (mkLst (acons (rd 6) (acons (rd 7) anil))) (lcomp (irng1 (callI 1 R__law_taken (acons (cst (.int 5)) anil))) (gnm 18) tyes (call R_reduced (acons (bin gSub (callI 1 R__law_taken (acons (cst (.int 40)) anil)) (cst (.int 20))) (acons (bin gAdd (cst (.int 1)) (callI 1 R__law_taken (acons (cst (.int 6)) anil))) anil))) [18])) (acons (mkTup (acons (cst (.int 0)) (acons (cst (.int 1)) anil))) anil))) (sseq (sfor (iseq (rd 12)) (gnm 14) (sasg 13 (call R__law_low (acons (bin gAdd (bin gMulI (binL gIx 13 (cst (.int 0))) (binL gIx 14 (cst (.int 1)))) (bin gMulI (binL gIx 14 (cst (.int 0))) (binL gIx 13 (cst (.int 1))))) (acons (bin gMulI (binL gIx 13 (cst (.int 1))) (binL gIx 14 (cst (.int 1)))) anil))))) (sseq (sif (tnot (tv (call (R__law_alike 24) (acons (call R_total (acons (rd 12) anil)) (acons (rd 13) anil))))) (sret (cst (.bl false))) snx) (sseq (sasg 15 (call R_median (acons (rd 12) anil))) (sseq (sasg 9 (un gLen (lcomp (iseq (rd 12)) (gnm 14) (tv (bin gLt (bin gMulI (binL gIx 14 (cst (.int 0))) (binL gIx 15 (cst (.int 1)))) (bin gMulI (binL gIx 15 (cst (.int 0))) (binL gIx 14 (cst (.int 1)))))) (cst (.int 1)) [14]))) (sseq (sasg 10 (un gLen (lcomp (iseq (rd 12)) (gnm 14) (tv (bin gGt (bin gMulI (binL gIx 14 (cst (.int 0))) (binL gIx 15 (cst (.int 1)))) (bin gMulI (binL gIx 15 (cst (.int 0))) (binL gIx 14 (cst (.int 1)))))) (cst (.int 1)) [14]))) (sseq (sif (tor (tv (bin gGt (bin gMulI (cst (.int 2)) (pk 9)) (un gLen (pk 12)))) (tor (tv (bin gGt (bin gMulI (cst (.int 2)) (pk 10)) (un gLen (pk 12)))) (tand (tv (bin (gEq false) (bin gMod (un gLen (pk 12)) (cst (.int 2))) (cst (.int 1)))) (tv (bin (gIn true) (rd 15) (pk 12)))))) (sret (cst (.bl false))) snx) (sseq (sfor (iseq (mkLst (acons (cst .non) (acons (mkTup (acons (cst (.int 1)) (acons (cst (.int 0)) anil))) (acons (mkTup (acons (cst (.int 2)) (acons (cst (.int 4)) anil))) (acons (mkTup (acons (cst (.int 0)) (acons (cst (.int 2)) anil))) (acons (mkTup (acons (cst (.int 1)) anil)) (acons (mkTup (acons (cst (.bl true)) (acons (cst (.int 2)) anil))) (acons (mkLst (acons (cst (.int 1)) (acons (cst (.int 2)) (acons (cst (.int 3)) anil)))) (acons (cst (.int 5)) (acons (mkTup (acons (cst (.int 1)) (acons (un gNeg (cst (.int 1))) anil))) anil))))))))))) (gnm 16) (sseq (sif (tv (call R_is_fraction (acons (rd 16) anil))) (sret (cst (.bl false))) snx) (stry 17 cat_BadNumber (sseq (sexp (call R_want_fraction (acons (rd 16) anil))) (sret (cst (.bl false)))) (sif (tv (bin (gEq true) (un gRepr (xfld 17 kn_value "value")) (un gRepr (pk 16)))) (sret (cst (.bl false))) snx)))) (sret (call (R__law_alike 24) (acons (call R_want_fraction (acons (unN gList (pk 6)) anil)) (acons (rd 6) anil))))))))))))))))))))))
def R_law : List D → RF := runP 19 1 b_law
/-- what the top has written -/
structure Tx (P : Program) (w : World) (K : PySem.W.Frag) (mg : Str → Option Value) : Prop where
  n_abs : mg "abs" = none
  n_bool : mg "bool" = none
  n_int : mg "int" = none
  n_isinstance : mg "isinstance" = none
  n_len : mg "len" = none
  n_list : mg "list" = none
  n_max : mg "max" = none
  n_min : mg "min" = none
  n_range : mg "range" = none
  n_repr : mg "repr" = none
  n_str : mg "str" = none
  n_tuple : mg "tuple" = none
  x_BadNumber : HasEx P w K mg "BadNumber" ["value"]
  t_BadNumber : ∃ S, mg "BadNumber" = some (.ref S) ∧ CatOk ⟨K, mg⟩ (.ref S) cat_BadNumber
  k_value : ∀ c, kn_value c = true → ∃ C fI fs, DLX.Cl P K mg c C fI fs ∧ ("value" : Str) ∈ fs
  a_reduced : FnAt K mg "reduced" "reduced" s_reduced ["top", "bottom"]
  a_times : FnAt K mg "times" "times" s_times ["one", "other"]
  a_plus : FnAt K mg "plus" "plus" s_plus ["one", "other"]
  a_is_less : FnAt K mg "is_less" "is_less" s_is_less ["one", "other"]
  a_median : FnAt K mg "median" "median" s_median ["rows"]
  a__law_alike : FnAt K mg "_law_alike" "_law_alike" s__law_alike ["found", "due"]
  a_is_row : FnAt K mg "is_row" "is_row" s_is_row ["value"]
  a_is_whole : FnAt K mg "is_whole" "is_whole" s_is_whole ["value"]
  a_is_fraction : FnAt K mg "is_fraction" "is_fraction" s_is_fraction ["value"]
  a__law_low : FnAt K mg "_law_low" "_law_low" s__law_low ["top", "bottom"]
  a_want_fraction : FnAt K mg "want_fraction" "want_fraction" s_want_fraction ["value"]
  a__law_taken : FnAt K mg "_law_taken" "_law_taken" s__law_taken ["row", "many"]
  a__law_truth : FnAt K mg "_law_truth" "_law_truth" s__law_truth ["found", "due"]
  a_total : FnAt K mg "total" "total" s_total ["rows"]
  a_minus : FnAt K mg "minus" "minus" s_minus ["one", "other"]
  a_floor_of : FnAt K mg "floor_of" "floor_of" s_floor_of ["one"]
  a_ceiling_of : FnAt K mg "ceiling_of" "ceiling_of" s_ceiling_of ["one"]
  a_nearest : FnAt K mg "nearest" "nearest" s_nearest ["one"]
  a_over : FnAt K mg "over" "over" s_over ["one", "other"]
  a_law : FnAt K mg "law" "law" s_law ["script"]
section
variable {P : Program} {w : World} {K : PySem.W.Frag} {mg : Str → Option Value} {base : Heap}
theorem sc_reduced : FnScope ["top", "bottom", "one", "other"] ["top", "bottom"] (defScope s_reduced) := ⟨rfl, rfl, rfl, by decide +kernel, rfl, by decide +kernel, by decide +kernel⟩
theorem w_reduced (T : Tx P w K mg)  (f : Addr) : BodyOk P w K mg base ["top", "bottom", "one", "other"] "reduced" s_reduced f 0 b_reduced := by
  intro cdv A outer s H E J hG hx B
  unfold b_reduced
  exact (s_cons (s_par 2 3 B.calm B.nd (a_cons (e_abs (by rfl) T.n_abs (b_name 0)) (a_cons (e_name 1) a_nil))) (s_cons (s_while B.po (t_gt (e_name 3) (b_of e_int)) (s_one (s_par 2 3 B.calm B.nd (a_cons (e_name 3) (a_cons (e_mod (e_name 2) (b_name 3)) a_nil))))) (s_one (s_ret (e_if (t_gt (e_name 2) (b_of e_int)) (e_tup (a_cons (e_div (e_name 0) (b_name 2)) (a_cons (e_div (e_name 1) (b_name 2)) a_nil))) (e_tup (a_cons e_int (a_cons e_int a_nil))))))))
theorem o_reduced (T : Tx P w K mg)  : Has P w K mg base 1 "reduced" ["top", "bottom"] (spP ⟨K, mg⟩ R_reduced) := has_P T.a_reduced sc_reduced (by decide) (w_reduced T )
theorem sc_times : FnScope ["one", "other"] ["one", "other"] (defScope s_times) := ⟨rfl, rfl, rfl, by decide +kernel, rfl, by decide +kernel, by decide +kernel⟩
theorem w_times (T : Tx P w K mg) (h_reduced : Has P w K mg base 1 "reduced" ["top", "bottom"] (spP ⟨K, mg⟩ R_reduced)) (f : Addr) : BodyOk P w K mg base ["one", "other"] "times" s_times f 1 b_times := by
  intro cdv A outer s H E J hG hx B
  unfold b_times
  exact (s_one (s_ret (c_P hG h_reduced (B.room.mono (by omega)) B.gd B.tk (a_cons (e_mul (e_ixL 0 (hK_ hG) (b_of e_int)) (b_of (e_ixL 1 (hK_ hG) (b_of e_int)))) (a_cons (e_mul (e_ixL 0 (hK_ hG) (b_of e_int)) (b_of (e_ixL 1 (hK_ hG) (b_of e_int)))) a_nil)))))
theorem o_times (T : Tx P w K mg) (h_reduced : Has P w K mg base 1 "reduced" ["top", "bottom"] (spP ⟨K, mg⟩ R_reduced)) : Has P w K mg base 2 "times" ["one", "other"] (spP ⟨K, mg⟩ R_times) := has_P T.a_times sc_times (by decide) (w_times T h_reduced)
theorem sc_plus : FnScope ["one", "other"] ["one", "other"] (defScope s_plus) := ⟨rfl, rfl, rfl, by decide +kernel, rfl, by decide +kernel, by decide +kernel⟩
theorem w_plus (T : Tx P w K mg) (h_reduced : Has P w K mg base 1 "reduced" ["top", "bottom"] (spP ⟨K, mg⟩ R_reduced)) (f : Addr) : BodyOk P w K mg base ["one", "other"] "plus" s_plus f 1 b_plus := by
  intro cdv A outer s H E J hG hx B
  unfold b_plus
  exact (s_one (s_ret (c_P hG h_reduced (B.room.mono (by omega)) B.gd B.tk (a_cons (e_add (hK_ hG) (e_mul (e_ixL 0 (hK_ hG) (b_of e_int)) (b_of (e_ixL 1 (hK_ hG) (b_of e_int)))) (b_of (e_mul (e_ixL 1 (hK_ hG) (b_of e_int)) (b_of (e_ixL 0 (hK_ hG) (b_of e_int)))))) (a_cons (e_mul (e_ixL 0 (hK_ hG) (b_of e_int)) (b_of (e_ixL 1 (hK_ hG) (b_of e_int)))) a_nil)))))
theorem o_plus (T : Tx P w K mg) (h_reduced : Has P w K mg base 1 "reduced" ["top", "bottom"] (spP ⟨K, mg⟩ R_reduced)) : Has P w K mg base 2 "plus" ["one", "other"] (spP ⟨K, mg⟩ R_plus) := has_P T.a_plus sc_plus (by decide) (w_plus T h_reduced)
theorem sc_is_less : FnScope ["one", "other"] ["one", "other"] (defScope s_is_less) := ⟨rfl, rfl, rfl, by decide +kernel, rfl, by decide +kernel, by decide +kernel⟩
theorem w_is_less (T : Tx P w K mg)  (f : Addr) : BodyOk P w K mg base ["one", "other"] "is_less" s_is_less f 0 b_is_less := by
  intro cdv A outer s H E J hG hx B
  unfold b_is_less
  exact (s_one (s_ret (e_lt (e_mul (e_ixL 0 (hK_ hG) (b_of e_int)) (b_of (e_ixL 1 (hK_ hG) (b_of e_int)))) (b_of (e_mul (e_ixL 1 (hK_ hG) (b_of e_int)) (b_of (e_ixL 0 (hK_ hG) (b_of e_int))))))))
theorem o_is_less (T : Tx P w K mg)  : Has P w K mg base 1 "is_less" ["one", "other"] (spP ⟨K, mg⟩ R_is_less) := has_P T.a_is_less sc_is_less (by decide) (w_is_less T )
theorem sc_median : FnScope ["rows", "row", "one", "place", "first", "second", "other"] ["rows"] (defScope s_median) := ⟨rfl, rfl, rfl, by decide +kernel, rfl, by decide +kernel, by decide +kernel⟩
theorem w_median (T : Tx P w K mg) (h_times : Has P w K mg base 2 "times" ["one", "other"] (spP ⟨K, mg⟩ R_times)) (h_plus : Has P w K mg base 2 "plus" ["one", "other"] (spP ⟨K, mg⟩ R_plus)) (h_is_less : Has P w K mg base 1 "is_less" ["one", "other"] (spP ⟨K, mg⟩ R_is_less)) (f : Addr) : BodyOk P w K mg base ["rows", "row", "one", "place", "first", "second", "other"] "median" s_median f 2 b_median := by
  intro cdv A outer s H E J hG hx B
  unfold b_median
  exact (s_cons (s_own 1 B.nd (n_lst (a_cons (e_ixL 0 (hK_ hG) (b_of e_int)) a_nil))) (s_cons (s_for B.po B.calm (i_seq (hK_ hG) (e_slL 0 (hK_ hG) (p_some e_int) p_none)) (vs := [2]) (g_name 2 B.nd) ok_nm (s_cons (s_asg 3 B.nd (e_len (hK_ hG) (by rfl) T.n_len (b_of (e_of_n (n_lcB 1 (own := [("other", 6)]) [6] B.calm B.nd ok_nm (blkOk_by (by kernel_rfl)) rfl (fun _ _ _ _ _ _ b1 => (g_name 6 B.nd)) (fun _ _ _ _ _ _ b1 => (pts_one' (t_not (t_val (c_P (b1.G.trans hG) h_is_less (B.room.mono (by omega)) B.gd (takes_blk b1) (a_cons (e_name 2) (a_cons (e_name 6) a_nil))))))) (fun _ _ _ _ _ _ b1 => (e_name 6))))))) (s_one (s_expr (e_lm 1 PySem.F.slot_list_insert PySem.F.type_list_insert mt_insert om_insert (a_cons (e_name 3) (a_cons (e_name 2) a_nil))))))) (s_cons (s_par 4 5 B.calm B.nd (a_cons (e_ixL 1 (hK_ hG) (b_of (e_div (e_sub (e_len (hK_ hG) (by rfl) T.n_len (b_name 1)) (b_of e_int)) (b_of e_int)))) (a_cons (e_ixL 1 (hK_ hG) (b_of (e_div (e_len (hK_ hG) (by rfl) T.n_len (b_name 1)) (b_of e_int)))) a_nil))) (s_one (s_ret (c_P hG h_times (B.room.mono (by omega)) B.gd B.tk (a_cons (c_P hG h_plus (B.room.mono (by omega)) B.gd B.tk (a_cons (e_name 4) (a_cons (e_name 5) a_nil))) (a_cons (e_tup (a_cons e_int (a_cons e_int a_nil))) a_nil))))))))
theorem o_median (T : Tx P w K mg) (h_times : Has P w K mg base 2 "times" ["one", "other"] (spP ⟨K, mg⟩ R_times)) (h_plus : Has P w K mg base 2 "plus" ["one", "other"] (spP ⟨K, mg⟩ R_plus)) (h_is_less : Has P w K mg base 1 "is_less" ["one", "other"] (spP ⟨K, mg⟩ R_is_less)) : Has P w K mg base 3 "median" ["rows"] (spP ⟨K, mg⟩ R_median) := has_P T.a_median sc_median (by decide) (w_median T h_times h_plus h_is_less)
theorem sc__law_alike : FnScope ["found", "due", "k"] ["found", "due"] (defScope s__law_alike) := ⟨rfl, rfl, rfl, by decide +kernel, rfl, by decide +kernel, by decide +kernel⟩
theorem w__law_alike (T : Tx P w K mg)  {n : Nat} {me : List D → RF} (hme : Has P w K mg base (0 + n) "_law_alike" ["found", "due"] (spP ⟨K, mg⟩ me)) (f : Addr) : BodyOk P w K mg base ["found", "due", "k"] "_law_alike" s__law_alike f (0 + n) (b__law_alike me) := by
  intro cdv A outer s H E J hG hx B
  unfold b__law_alike
  exact (s_cons (s_if (t_val (e_isi2 (hK_ hG) kt_tuple kt_list (by rfl) T.n_isinstance (b_name 1) (by rfl) T.n_tuple (by decide +kernel) (by rfl) T.n_list (by decide +kernel))) (s_cons (s_if (PW.pt (w_or (t_not (t_val (e_isi2 (hK_ hG) kt_tuple kt_list (by rfl) T.n_isinstance (b_name 0) (by rfl) T.n_tuple (by decide +kernel) (by rfl) T.n_list (by decide +kernel)))) (w_one (t_ne (hK_ hG) B.hu (e_isi (hK_ hG) kt_list (by rfl) T.n_isinstance (b_name 0) (by rfl) T.n_list (by decide +kernel)) (b_of (e_isi (hK_ hG) kt_list (by rfl) T.n_isinstance (b_name 1) (by rfl) T.n_list (by decide +kernel))))))) (s_one (s_ret e_bl)) s_nil) (s_cons (s_if (t_ne (hK_ hG) B.hu (e_len (hK_ hG) (by rfl) T.n_len (b_name 0)) (b_of (e_len (hK_ hG) (by rfl) T.n_len (b_name 1)))) (s_one (s_ret e_bl)) s_nil) (s_one (s_ret (e_eq (hK_ hG) B.hu (e_of_n (n_lc (own := [("k", 2)]) [2] B.calm B.nd (i_rng1 (by rfl) T.n_range (e_len (hK_ hG) (by rfl) T.n_len (b_name 1))) ok_nm (blkOk_by (by kernel_rfl)) rfl (fun _ _ _ _ _ _ b2 => (g_name 2 B.nd)) (fun _ _ _ _ _ _ b2 => (pts_one' (t_not (t_val (c_P (b2.G.trans hG) hme (B.room.mono (by omega)) B.gd (takes_blk b2) (a_cons (e_ixL 0 (hK_ (b2.G.trans hG)) (b_name 2)) (a_cons (e_ixL 1 (hK_ (b2.G.trans hG)) (b_name 2)) a_nil))))))) (fun _ _ _ _ _ _ b2 => (e_name 2)))) (b_of (e_of_n (n_lst a_nil)))))))) s_nil) (s_cons (s_if (PW.pt (w_or (t_isN (e_name 1)) (w_one (t_val (e_isi (hK_ hG) kt_str (by rfl) T.n_isinstance (b_name 1) (by rfl) T.n_str (by decide +kernel)))))) (s_one (s_ret (e_and (e_eq (hK_ hG) B.hu (e_name 0) (b_name 1)) (e_one (e_eq (hK_ hG) B.hu (e_isi (hK_ hG) kt_str (by rfl) T.n_isinstance (b_name 0) (by rfl) T.n_str (by decide +kernel)) (b_of (e_isi (hK_ hG) kt_str (by rfl) T.n_isinstance (b_name 1) (by rfl) T.n_str (by decide +kernel)))))))) s_nil) (s_one (s_ret (e_and (e_isi (hK_ hG) kt_int (by rfl) T.n_isinstance (b_name 0) (by rfl) T.n_int (by decide +kernel)) (e_and (e_eq (hK_ hG) B.hu (e_isi (hK_ hG) kt_bool (by rfl) T.n_isinstance (b_name 0) (by rfl) T.n_bool (by decide +kernel)) (b_of (e_isi (hK_ hG) kt_bool (by rfl) T.n_isinstance (b_name 1) (by rfl) T.n_bool (by decide +kernel)))) (e_one (e_eq (hK_ hG) B.hu (e_name 0) (b_name 1)))))))))
theorem o__law_alike (T : Tx P w K mg)  : ∀ n, Has P w K mg base (0 + n) "_law_alike" ["found", "due"] (spP ⟨K, mg⟩ (R__law_alike n))
  | 0 => has_bad T.a__law_alike
  | n + 1 => has_P T.a__law_alike sc__law_alike (by decide) (w__law_alike T  (o__law_alike T  n))
theorem sc_is_row : FnScope ["value"] ["value"] (defScope s_is_row) := ⟨rfl, rfl, rfl, by decide +kernel, rfl, by decide +kernel, by decide +kernel⟩
theorem w_is_row (T : Tx P w K mg)  (f : Addr) : BodyOk P w K mg base ["value"] "is_row" s_is_row f 0 b_is_row := by
  intro cdv A outer s H E J hG hx B
  unfold b_is_row
  exact (s_one (s_ret (e_isi2 (hK_ hG) kt_list kt_tuple (by rfl) T.n_isinstance (b_name 0) (by rfl) T.n_list (by decide +kernel) (by rfl) T.n_tuple (by decide +kernel))))
theorem o_is_row (T : Tx P w K mg)  : Has P w K mg base 1 "is_row" ["value"] (spP ⟨K, mg⟩ R_is_row) := has_P T.a_is_row sc_is_row (by decide) (w_is_row T )
theorem sc_is_whole : FnScope ["value"] ["value"] (defScope s_is_whole) := ⟨rfl, rfl, rfl, by decide +kernel, rfl, by decide +kernel, by decide +kernel⟩
theorem w_is_whole (T : Tx P w K mg)  (f : Addr) : BodyOk P w K mg base ["value"] "is_whole" s_is_whole f 0 b_is_whole := by
  intro cdv A outer s H E J hG hx B
  unfold b_is_whole
  exact (s_one (s_ret (e_and (e_isi (hK_ hG) kt_int (by rfl) T.n_isinstance (b_name 0) (by rfl) T.n_int (by decide +kernel)) (e_one (e_not (e_isi (hK_ hG) kt_bool (by rfl) T.n_isinstance (b_name 0) (by rfl) T.n_bool (by decide +kernel)))))))
theorem o_is_whole (T : Tx P w K mg)  : Has P w K mg base 1 "is_whole" ["value"] (spP ⟨K, mg⟩ R_is_whole) := has_P T.a_is_whole sc_is_whole (by decide) (w_is_whole T )
theorem sc_is_fraction : FnScope ["value"] ["value"] (defScope s_is_fraction) := ⟨rfl, rfl, rfl, by decide +kernel, rfl, by decide +kernel, by decide +kernel⟩
theorem w_is_fraction (T : Tx P w K mg) (h_reduced : Has P w K mg base 1 "reduced" ["top", "bottom"] (spP ⟨K, mg⟩ R_reduced)) (h_is_row : Has P w K mg base 1 "is_row" ["value"] (spP ⟨K, mg⟩ R_is_row)) (h_is_whole : Has P w K mg base 1 "is_whole" ["value"] (spP ⟨K, mg⟩ R_is_whole)) (f : Addr) : BodyOk P w K mg base ["value"] "is_fraction" s_is_fraction f 1 b_is_fraction := by
  intro cdv A outer s H E J hG hx B
  unfold b_is_fraction
  exact (s_cons (s_if (PW.pt (w_or (t_not (t_val (c_P hG h_is_row (B.room.mono (by omega)) B.gd B.tk (a_cons (e_name 0) a_nil)))) (w_or (t_ne (hK_ hG) B.hu (e_len (hK_ hG) (by rfl) T.n_len (b_name 0)) (b_of e_int)) (w_or (t_not (t_val (c_P hG h_is_whole (B.room.mono (by omega)) B.gd B.tk (a_cons (e_ixL 0 (hK_ hG) (b_of e_int)) a_nil)))) (w_or (t_not (t_val (c_P hG h_is_whole (B.room.mono (by omega)) B.gd B.tk (a_cons (e_ixL 0 (hK_ hG) (b_of e_int)) a_nil)))) (w_one (t_lt (e_ixL 0 (hK_ hG) (b_of e_int)) (b_of e_int)))))))) (s_one (s_ret e_bl)) s_nil) (s_one (s_ret (e_eq (hK_ hG) B.hu (c_P hG h_reduced (B.room.mono (by omega)) B.gd B.tk (a_cons (e_ixL 0 (hK_ hG) (b_of e_int)) (a_cons (e_ixL 0 (hK_ hG) (b_of e_int)) a_nil))) (b_of (e_tup (a_cons (e_ixL 0 (hK_ hG) (b_of e_int)) (a_cons (e_ixL 0 (hK_ hG) (b_of e_int)) a_nil))))))))
theorem o_is_fraction (T : Tx P w K mg) (h_reduced : Has P w K mg base 1 "reduced" ["top", "bottom"] (spP ⟨K, mg⟩ R_reduced)) (h_is_row : Has P w K mg base 1 "is_row" ["value"] (spP ⟨K, mg⟩ R_is_row)) (h_is_whole : Has P w K mg base 1 "is_whole" ["value"] (spP ⟨K, mg⟩ R_is_whole)) : Has P w K mg base 2 "is_fraction" ["value"] (spP ⟨K, mg⟩ R_is_fraction) := has_P T.a_is_fraction sc_is_fraction (by decide) (w_is_fraction T h_reduced h_is_row h_is_whole)
theorem sc__law_low : FnScope ["top", "bottom", "here", "one"] ["top", "bottom"] (defScope s__law_low) := ⟨rfl, rfl, rfl, by decide +kernel, rfl, by decide +kernel, by decide +kernel⟩
theorem w__law_low (T : Tx P w K mg)  (f : Addr) : BodyOk P w K mg base ["top", "bottom", "here", "one"] "_law_low" s__law_low f 0 b__law_low := by
  intro cdv A outer s H E J hG hx B
  unfold b__law_low
  exact (s_cons (s_asg 2 B.nd e_int) (s_cons (s_for B.po B.calm (i_rng2 (by rfl) T.n_range e_int (e_add (hK_ hG) (e_toInt (by rfl) T.n_int (b_name 1)) (b_of e_int))) (vs := [3]) (g_name 3 B.nd) ok_nm (s_one (s_if (PW.pt (w_and (t_eq (hK_ hG) B.hu (e_mod (e_toInt (by rfl) T.n_int (b_name 0)) (b_name 3)) (b_of e_int)) (w_one (t_eq (hK_ hG) B.hu (e_mod (e_toInt (by rfl) T.n_int (b_name 1)) (b_name 3)) (b_of e_int))))) (s_one (s_asg 2 B.nd (e_name 3))) s_nil))) (s_one (s_ret (e_tup (a_cons (e_div (e_toInt (by rfl) T.n_int (b_name 0)) (b_name 2)) (a_cons (e_div (e_toInt (by rfl) T.n_int (b_name 1)) (b_name 2)) a_nil)))))))
theorem o__law_low (T : Tx P w K mg)  : Has P w K mg base 1 "_law_low" ["top", "bottom"] (spP ⟨K, mg⟩ R__law_low) := has_P T.a__law_low sc__law_low (by decide) (w__law_low T )
theorem sc_want_fraction : FnScope ["value"] ["value"] (defScope s_want_fraction) := ⟨rfl, rfl, rfl, by decide +kernel, rfl, by decide +kernel, by decide +kernel⟩
theorem w_want_fraction (T : Tx P w K mg) (h_is_fraction : Has P w K mg base 2 "is_fraction" ["value"] (spP ⟨K, mg⟩ R_is_fraction)) (f : Addr) : BodyOk P w K mg base ["value"] "want_fraction" s_want_fraction f 2 b_want_fraction := by
  intro cdv A outer s H E J hG hx B
  unfold b_want_fraction
  exact (s_cons (s_if (t_not (t_val (c_P hG h_is_fraction (B.room.mono (by omega)) B.gd B.tk (a_cons (e_name 0) a_nil)))) (s_one (r_ex hG T.x_BadNumber B.calm B.tk B.dp (a_cons (e_name 0) a_nil))) s_nil) (s_one (s_ret (e_tuple (hK_ hG) (by rfl) T.n_tuple (b_name 0)))))
theorem o_want_fraction (T : Tx P w K mg) (h_is_fraction : Has P w K mg base 2 "is_fraction" ["value"] (spP ⟨K, mg⟩ R_is_fraction)) : Has P w K mg base 3 "want_fraction" ["value"] (spP ⟨K, mg⟩ R_want_fraction) := has_P T.a_want_fraction sc_want_fraction (by decide) (w_want_fraction T h_is_fraction)
theorem sc__law_taken : FnScope ["row", "many", "found", "cell"] ["row", "many"] (defScope s__law_taken) := ⟨rfl, rfl, rfl, by decide +kernel, rfl, by decide +kernel, by decide +kernel⟩
theorem w__law_taken (T : Tx P w K mg)  (f : Addr) : BodyOk P w K mg base ["row", "many", "found", "cell"] "_law_taken" s__law_taken f 0 b__law_taken := by
  intro cdv A outer s H E J hG hx B
  unfold b__law_taken
  exact (s_cons (s_if (t_gt (e_ixL 0 (hK_ hG) (b_of e_int)) (b_of e_int)) (s_cons (s_asg 2 B.nd (e_mod (e_toInt (by rfl) T.n_int (b_of (e_ixL 0 (hK_ hG) (b_of e_int)))) (b_name 1))) (s_cons (s_set 0 (e_div (e_ixL 0 (hK_ hG) (b_of e_int)) (b_name 1)) (b_of e_int)) (s_one (s_ret (e_name 2))))) s_nil) (s_cons (s_set 0 (e_add (hK_ hG) (e_ixL 0 (hK_ hG) (b_of e_int)) (b_of e_int)) (b_of e_int)) (s_cons (s_if (t_gt (e_ixL 0 (hK_ hG) (b_of e_int)) (b_of (e_len (hK_ hG) (by rfl) T.n_len (b_of (e_ixL 0 (hK_ hG) (b_of e_int)))))) (s_cons (s_set 0 (e_mod (e_toInt (by rfl) T.n_int (b_of (e_add (hK_ hG) (e_mul (e_ixL 0 (hK_ hG) (b_of e_int)) (b_of e_int)) (b_of e_int)))) (b_of e_int)) (b_of e_int)) (s_one (s_ret (e_mod (e_toInt (by rfl) T.n_int (b_of (e_div (e_ixL 0 (hK_ hG) (b_of e_int)) (b_of e_int)))) (b_name 1))))) s_nil) (s_cons (s_asg 3 B.nd (e_ix (hK_ hG) (e_ixL 0 (hK_ hG) (b_of e_int)) (b_of (e_sub (e_ixL 0 (hK_ hG) (b_of e_int)) (b_of e_int))))) (s_cons (s_set 0 (e_mod (e_toInt (by rfl) T.n_int (b_of (e_add (hK_ hG) (e_add (hK_ hG) (e_mul (e_ixL 0 (hK_ hG) (b_of e_int)) (b_of e_int)) (b_name 3)) (b_of e_int)))) (b_of e_int)) (b_of e_int)) (s_cons (s_if (t_ge (e_name 3) (b_of (e_pow e_int (b_of e_int)))) (s_one (s_set 0 (e_div (e_name 3) (b_name 1)) (b_of e_int))) s_nil) (s_one (s_ret (e_mod (e_toInt (by rfl) T.n_int (b_name 3)) (b_name 1))))))))))
theorem o__law_taken (T : Tx P w K mg)  : Has P w K mg base 1 "_law_taken" ["row", "many"] (spI ⟨K, mg⟩ R__law_taken) := has_I T.a__law_taken sc__law_taken (by decide) (w__law_taken T )
theorem sc__law_truth : FnScope ["found", "due"] ["found", "due"] (defScope s__law_truth) := ⟨rfl, rfl, rfl, by decide +kernel, rfl, by decide +kernel, by decide +kernel⟩
theorem w__law_truth (T : Tx P w K mg)  (f : Addr) : BodyOk P w K mg base ["found", "due"] "_law_truth" s__law_truth f 0 b__law_truth := by
  intro cdv A outer s H E J hG hx B
  unfold b__law_truth
  exact (s_one (s_ret (e_and (e_isi (hK_ hG) kt_bool (by rfl) T.n_isinstance (b_name 0) (by rfl) T.n_bool (by decide +kernel)) (e_one (e_eq (hK_ hG) B.hu (e_name 0) (b_name 1))))))
theorem o__law_truth (T : Tx P w K mg)  : Has P w K mg base 1 "_law_truth" ["found", "due"] (spP ⟨K, mg⟩ R__law_truth) := has_P T.a__law_truth sc__law_truth (by decide) (w__law_truth T )
theorem sc_total : FnScope ["rows", "found", "one"] ["rows"] (defScope s_total) := ⟨rfl, rfl, rfl, by decide +kernel, rfl, by decide +kernel, by decide +kernel⟩
theorem w_total (T : Tx P w K mg) (h_plus : Has P w K mg base 2 "plus" ["one", "other"] (spP ⟨K, mg⟩ R_plus)) (f : Addr) : BodyOk P w K mg base ["rows", "found", "one"] "total" s_total f 2 b_total := by
  intro cdv A outer s H E J hG hx B
  unfold b_total
  exact (s_cons (s_asg 1 B.nd (e_tup (a_cons e_int (a_cons e_int a_nil)))) (s_cons (s_for B.po B.calm (i_seq (hK_ hG) (e_name 0)) (vs := [2]) (g_name 2 B.nd) ok_nm (s_one (s_asg 1 B.nd (c_P hG h_plus (B.room.mono (by omega)) B.gd B.tk (a_cons (e_name 1) (a_cons (e_name 2) a_nil)))))) (s_one (s_ret (e_name 1)))))
theorem o_total (T : Tx P w K mg) (h_plus : Has P w K mg base 2 "plus" ["one", "other"] (spP ⟨K, mg⟩ R_plus)) : Has P w K mg base 3 "total" ["rows"] (spP ⟨K, mg⟩ R_total) := has_P T.a_total sc_total (by decide) (w_total T h_plus)
theorem sc_minus : FnScope ["one", "other"] ["one", "other"] (defScope s_minus) := ⟨rfl, rfl, rfl, by decide +kernel, rfl, by decide +kernel, by decide +kernel⟩
theorem w_minus (T : Tx P w K mg) (h_reduced : Has P w K mg base 1 "reduced" ["top", "bottom"] (spP ⟨K, mg⟩ R_reduced)) (f : Addr) : BodyOk P w K mg base ["one", "other"] "minus" s_minus f 1 b_minus := by
  intro cdv A outer s H E J hG hx B
  unfold b_minus
  exact (s_one (s_ret (c_P hG h_reduced (B.room.mono (by omega)) B.gd B.tk (a_cons (e_sub (e_mul (e_ixL 0 (hK_ hG) (b_of e_int)) (b_of (e_ixL 1 (hK_ hG) (b_of e_int)))) (b_of (e_mul (e_ixL 1 (hK_ hG) (b_of e_int)) (b_of (e_ixL 0 (hK_ hG) (b_of e_int)))))) (a_cons (e_mul (e_ixL 0 (hK_ hG) (b_of e_int)) (b_of (e_ixL 1 (hK_ hG) (b_of e_int)))) a_nil)))))
theorem o_minus (T : Tx P w K mg) (h_reduced : Has P w K mg base 1 "reduced" ["top", "bottom"] (spP ⟨K, mg⟩ R_reduced)) : Has P w K mg base 2 "minus" ["one", "other"] (spP ⟨K, mg⟩ R_minus) := has_P T.a_minus sc_minus (by decide) (w_minus T h_reduced)
theorem sc_floor_of : FnScope ["one"] ["one"] (defScope s_floor_of) := ⟨rfl, rfl, rfl, by decide +kernel, rfl, by decide +kernel, by decide +kernel⟩
theorem w_floor_of (T : Tx P w K mg)  (f : Addr) : BodyOk P w K mg base ["one"] "floor_of" s_floor_of f 0 b_floor_of := by
  intro cdv A outer s H E J hG hx B
  unfold b_floor_of
  exact (s_one (s_ret (e_div (e_ixL 0 (hK_ hG) (b_of e_int)) (b_of (e_ixL 0 (hK_ hG) (b_of e_int))))))
theorem o_floor_of (T : Tx P w K mg)  : Has P w K mg base 1 "floor_of" ["one"] (spP ⟨K, mg⟩ R_floor_of) := has_P T.a_floor_of sc_floor_of (by decide) (w_floor_of T )
theorem sc_ceiling_of : FnScope ["one"] ["one"] (defScope s_ceiling_of) := ⟨rfl, rfl, rfl, by decide +kernel, rfl, by decide +kernel, by decide +kernel⟩
theorem w_ceiling_of (T : Tx P w K mg)  (f : Addr) : BodyOk P w K mg base ["one"] "ceiling_of" s_ceiling_of f 0 b_ceiling_of := by
  intro cdv A outer s H E J hG hx B
  unfold b_ceiling_of
  exact (s_one (s_ret (e_neg (e_div (e_neg (e_ixL 0 (hK_ hG) (b_of e_int))) (b_of (e_ixL 0 (hK_ hG) (b_of e_int)))))))
theorem o_ceiling_of (T : Tx P w K mg)  : Has P w K mg base 1 "ceiling_of" ["one"] (spP ⟨K, mg⟩ R_ceiling_of) := has_P T.a_ceiling_of sc_ceiling_of (by decide) (w_ceiling_of T )
theorem sc_nearest : FnScope ["one"] ["one"] (defScope s_nearest) := ⟨rfl, rfl, rfl, by decide +kernel, rfl, by decide +kernel, by decide +kernel⟩
theorem w_nearest (T : Tx P w K mg)  (f : Addr) : BodyOk P w K mg base ["one"] "nearest" s_nearest f 0 b_nearest := by
  intro cdv A outer s H E J hG hx B
  unfold b_nearest
  exact (s_one (s_ret (e_div (e_add (hK_ hG) (e_mul e_int (b_of (e_ixL 0 (hK_ hG) (b_of e_int)))) (b_of (e_ixL 0 (hK_ hG) (b_of e_int)))) (b_of (e_mul e_int (b_of (e_ixL 0 (hK_ hG) (b_of e_int))))))))
theorem o_nearest (T : Tx P w K mg)  : Has P w K mg base 1 "nearest" ["one"] (spP ⟨K, mg⟩ R_nearest) := has_P T.a_nearest sc_nearest (by decide) (w_nearest T )
theorem sc_over : FnScope ["one", "other"] ["one", "other"] (defScope s_over) := ⟨rfl, rfl, rfl, by decide +kernel, rfl, by decide +kernel, by decide +kernel⟩
theorem w_over (T : Tx P w K mg) (h_reduced : Has P w K mg base 1 "reduced" ["top", "bottom"] (spP ⟨K, mg⟩ R_reduced)) (f : Addr) : BodyOk P w K mg base ["one", "other"] "over" s_over f 1 b_over := by
  intro cdv A outer s H E J hG hx B
  unfold b_over
  exact (s_one (s_ret (c_P hG h_reduced (B.room.mono (by omega)) B.gd B.tk (a_cons (e_mul (e_ixL 0 (hK_ hG) (b_of e_int)) (b_of (e_ixL 1 (hK_ hG) (b_of e_int)))) (a_cons (e_mul (e_ixL 0 (hK_ hG) (b_of e_int)) (b_of (e_ixL 1 (hK_ hG) (b_of e_int)))) a_nil)))))
theorem o_over (T : Tx P w K mg) (h_reduced : Has P w K mg base 1 "reduced" ["top", "bottom"] (spP ⟨K, mg⟩ R_reduced)) : Has P w K mg base 2 "over" ["one", "other"] (spP ⟨K, mg⟩ R_over) := has_P T.a_over sc_over (by decide) (w_over T h_reduced)
theorem sc_law : FnScope ["script", "row", "a", "b", "c", "d", "one", "other", "wholes", "below", "above", "best", "rows", "whole", "part", "middle", "value", "e", "k"] ["script"] (defScope s_law) := ⟨rfl, rfl, rfl, by decide +kernel, rfl, by decide +kernel, by decide +kernel⟩
theorem w_law (T : Tx P w K mg) (h_median : Has P w K mg base 3 "median" ["rows"] (spP ⟨K, mg⟩ R_median)) (h__law_alike : Has P w K mg base 24 "_law_alike" ["found", "due"] (spP ⟨K, mg⟩ (R__law_alike 24))) (h_reduced : Has P w K mg base 1 "reduced" ["top", "bottom"] (spP ⟨K, mg⟩ R_reduced)) (h_is_fraction : Has P w K mg base 2 "is_fraction" ["value"] (spP ⟨K, mg⟩ R_is_fraction)) (h__law_low : Has P w K mg base 1 "_law_low" ["top", "bottom"] (spP ⟨K, mg⟩ R__law_low)) (h_want_fraction : Has P w K mg base 3 "want_fraction" ["value"] (spP ⟨K, mg⟩ R_want_fraction)) (h__law_taken : Has P w K mg base 1 "_law_taken" ["row", "many"] (spI ⟨K, mg⟩ R__law_taken)) (h__law_truth : Has P w K mg base 1 "_law_truth" ["found", "due"] (spP ⟨K, mg⟩ R__law_truth)) (h_total : Has P w K mg base 3 "total" ["rows"] (spP ⟨K, mg⟩ R_total)) (h_plus : Has P w K mg base 2 "plus" ["one", "other"] (spP ⟨K, mg⟩ R_plus)) (h_minus : Has P w K mg base 2 "minus" ["one", "other"] (spP ⟨K, mg⟩ R_minus)) (h_times : Has P w K mg base 2 "times" ["one", "other"] (spP ⟨K, mg⟩ R_times)) (h_is_less : Has P w K mg base 1 "is_less" ["one", "other"] (spP ⟨K, mg⟩ R_is_less)) (h_floor_of : Has P w K mg base 1 "floor_of" ["one"] (spP ⟨K, mg⟩ R_floor_of)) (h_ceiling_of : Has P w K mg base 1 "ceiling_of" ["one"] (spP ⟨K, mg⟩ R_ceiling_of)) (h_nearest : Has P w K mg base 1 "nearest" ["one"] (spP ⟨K, mg⟩ R_nearest)) (h_over : Has P w K mg base 2 "over" ["one", "other"] (spP ⟨K, mg⟩ R_over)) (f : Addr) : BodyOk P w K mg base ["script", "row", "a", "b", "c", "d", "one", "other", "wholes", "below", "above", "best", "rows", "whole", "part", "middle", "value", "e", "k"] "law" s_law f 24 b_law := by
  intro cdv A outer s H E J hG hx B
  unfold b_law
  exact (s_cons (s_own 1 B.nd (n_lst (a_cons (e_name 0) (a_cons e_int (a_cons e_int (a_cons e_int a_nil)))))) (s_cons (s_tgt (vs := [2, 3, 4, 5]) (e_tup (a_cons (e_sub (c_I 1 hG h__law_taken (B.room.mono (by omega)) B.gd B.tk (a_cons e_int a_nil)) (b_of e_int)) (a_cons (e_add (hK_ hG) e_int (b_of (c_I 1 hG h__law_taken (B.room.mono (by omega)) B.gd B.tk (a_cons e_int a_nil)))) (a_cons (e_sub (c_I 1 hG h__law_taken (B.room.mono (by omega)) B.gd B.tk (a_cons e_int a_nil)) (b_of e_int)) (a_cons (e_add (hK_ hG) e_int (b_of (c_I 1 hG h__law_taken (B.room.mono (by omega)) B.gd B.tk (a_cons e_int a_nil)))) a_nil))))) (g_tup (hK_ hG) B.calm (g_cons (g_name 2 B.nd) (g_cons (g_name 3 B.nd) (g_cons (g_name 4 B.nd) (g_cons (g_name 5 B.nd) g_nil))))) (ok_tp (ok_cons (ok_cons (ok_cons (ok_cons ok_nil)))))) (s_cons (s_par 6 7 B.calm B.nd (a_cons (c_P hG h_reduced (B.room.mono (by omega)) B.gd B.tk (a_cons (e_name 2) (a_cons (e_name 3) a_nil))) (a_cons (c_P hG h_reduced (B.room.mono (by omega)) B.gd B.tk (a_cons (e_name 4) (a_cons (e_name 5) a_nil))) a_nil))) (s_cons (s_if (PW.pt (w_or (t_not (t_val (c_P hG h__law_alike (B.room.mono (by omega)) B.gd B.tk (a_cons (e_tup (a_cons (e_name 6) (a_cons (e_name 7) a_nil))) (a_cons (e_tup (a_cons (c_P hG h__law_low (B.room.mono (by omega)) B.gd B.tk (a_cons (e_name 2) (a_cons (e_name 3) a_nil))) (a_cons (c_P hG h__law_low (B.room.mono (by omega)) B.gd B.tk (a_cons (e_name 4) (a_cons (e_name 5) a_nil))) a_nil))) a_nil))))) (w_or (t_not (t_val (c_P hG h_is_fraction (B.room.mono (by omega)) B.gd B.tk (a_cons (e_name 6) a_nil)))) (w_one (t_val (c_P hG h_is_fraction (B.room.mono (by omega)) B.gd B.tk (a_cons (e_tup (a_cons (e_mul (e_name 2) (b_of e_int)) (a_cons (e_mul (e_name 3) (b_of e_int)) a_nil))) a_nil))))))) (s_one (s_ret e_bl)) s_nil) (s_cons (s_if (t_not (t_val (c_P hG h__law_alike (B.room.mono (by omega)) B.gd B.tk (a_cons (e_tup (a_cons (c_P hG h_plus (B.room.mono (by omega)) B.gd B.tk (a_cons (e_name 6) (a_cons (e_name 7) a_nil))) (a_cons (c_P hG h_minus (B.room.mono (by omega)) B.gd B.tk (a_cons (e_name 6) (a_cons (e_name 7) a_nil))) (a_cons (c_P hG h_times (B.room.mono (by omega)) B.gd B.tk (a_cons (e_name 6) (a_cons (e_name 7) a_nil))) a_nil)))) (a_cons (e_tup (a_cons (c_P hG h__law_low (B.room.mono (by omega)) B.gd B.tk (a_cons (e_add (hK_ hG) (e_mul (e_name 2) (b_name 5)) (b_of (e_mul (e_name 4) (b_name 3)))) (a_cons (e_mul (e_name 3) (b_name 5)) a_nil))) (a_cons (c_P hG h__law_low (B.room.mono (by omega)) B.gd B.tk (a_cons (e_sub (e_mul (e_name 2) (b_name 5)) (b_of (e_mul (e_name 4) (b_name 3)))) (a_cons (e_mul (e_name 3) (b_name 5)) a_nil))) (a_cons (c_P hG h__law_low (B.room.mono (by omega)) B.gd B.tk (a_cons (e_mul (e_name 2) (b_name 4)) (a_cons (e_mul (e_name 3) (b_name 5)) a_nil))) a_nil)))) a_nil))))) (s_one (s_ret e_bl)) s_nil) (s_cons (s_if (PW.pt (w_or (PW.pt (w_and (t_gt (e_name 4) (b_of e_int)) (w_one (t_not (t_val (c_P hG h__law_alike (B.room.mono (by omega)) B.gd B.tk (a_cons (c_P hG h_over (B.room.mono (by omega)) B.gd B.tk (a_cons (e_name 6) (a_cons (e_name 7) a_nil))) (a_cons (c_P hG h__law_low (B.room.mono (by omega)) B.gd B.tk (a_cons (e_mul (e_name 2) (b_name 5)) (a_cons (e_mul (e_name 3) (b_name 4)) a_nil))) a_nil)))))))) (w_one (t_not (t_val (c_P hG h__law_truth (B.room.mono (by omega)) B.gd B.tk (a_cons (c_P hG h_is_less (B.room.mono (by omega)) B.gd B.tk (a_cons (e_name 6) (a_cons (e_name 7) a_nil))) (a_cons (e_lt (e_mul (e_name 2) (b_name 5)) (b_of (e_mul (e_name 4) (b_name 3)))) a_nil)))))))) (s_one (s_ret e_bl)) s_nil) (s_cons (s_asg 8 B.nd (e_of_n (n_listRg B.calm (by rfl) T.n_list (by rfl) T.n_range (e_neg e_int) e_int))) (s_cons (s_par 9 10 B.calm B.nd (a_cons (e_max (hK_ hG) B.calm (by rfl) T.n_max (b_of (e_of_n (n_lc (own := [("k", 18)]) [18] B.calm B.nd (i_seq (hK_ hG) (e_name 8)) ok_nm (blkOk_by (by kernel_rfl)) rfl (fun _ _ _ _ _ _ b3 => (g_name 18 B.nd)) (fun _ _ _ _ _ _ b3 => (pts_one' (t_le (e_mul (e_name 18) (b_name 3)) (b_name 2)))) (fun _ _ _ _ _ _ b3 => (e_name 18)))))) (a_cons (e_min (hK_ hG) B.calm (by rfl) T.n_min (b_of (e_of_n (n_lc (own := [("k", 18)]) [18] B.calm B.nd (i_seq (hK_ hG) (e_name 8)) ok_nm (blkOk_by (by kernel_rfl)) rfl (fun _ _ _ _ _ _ b4 => (g_name 18 B.nd)) (fun _ _ _ _ _ _ b4 => (pts_one' (t_ge (e_mul (e_name 18) (b_name 3)) (b_name 2)))) (fun _ _ _ _ _ _ b4 => (e_name 18)))))) a_nil))) (s_cons (s_asg 11 B.nd (e_max (hK_ hG) B.calm (by rfl) T.n_max (b_of (e_of_n (n_lc (own := [("k", 18)]) [18] B.calm B.nd (i_seq (hK_ hG) (e_name 8)) ok_nm (blkOk_by (by kernel_rfl)) rfl (fun _ _ _ _ _ _ b5 => (g_name 18 B.nd)) (fun _ _ _ _ _ _ b5 => (pts_one' (t_le (e_mul (e_sub (e_mul e_int (b_name 18)) (b_of e_int)) (b_name 3)) (b_of (e_mul e_int (b_name 2)))))) (fun _ _ _ _ _ _ b5 => (e_name 18))))))) (s_cons (s_if (t_not (t_val (c_P hG h__law_alike (B.room.mono (by omega)) B.gd B.tk (a_cons (e_tup (a_cons (c_P hG h_floor_of (B.room.mono (by omega)) B.gd B.tk (a_cons (e_name 6) a_nil)) (a_cons (c_P hG h_ceiling_of (B.room.mono (by omega)) B.gd B.tk (a_cons (e_name 6) a_nil)) (a_cons (c_P hG h_nearest (B.room.mono (by omega)) B.gd B.tk (a_cons (e_name 6) a_nil)) a_nil)))) (a_cons (e_tup (a_cons (e_name 9) (a_cons (e_name 10) (a_cons (e_name 11) a_nil)))) a_nil))))) (s_one (s_ret e_bl)) s_nil) (s_cons (s_par 12 13 B.calm B.nd (a_cons (e_add (hK_ hG) (e_of_n (n_lst (a_cons (e_name 6) (a_cons (e_name 7) a_nil)))) (b_of (e_of_n (n_lc (own := [("k", 18)]) [18] B.calm B.nd (i_rng1 (by rfl) T.n_range (c_I 1 hG h__law_taken (B.room.mono (by omega)) B.gd B.tk (a_cons e_int a_nil))) ok_nm (blkOk_by (by kernel_rfl)) rfl (fun _ _ _ _ _ _ b6 => (g_name 18 B.nd)) (fun _ _ _ _ _ _ b6 => pts_nil') (fun _ _ _ _ _ _ b6 => (c_P (b6.G.trans hG) h_reduced (B.room.mono (by omega)) B.gd (takes_blk b6) (a_cons (e_sub (c_I 1 (b6.G.trans hG) h__law_taken (B.room.mono (by omega)) B.gd (takes_blk b6) (a_cons e_int a_nil)) (b_of e_int)) (a_cons (e_add (hK_ (b6.G.trans hG)) e_int (b_of (c_I 1 (b6.G.trans hG) h__law_taken (B.room.mono (by omega)) B.gd (takes_blk b6) (a_cons e_int a_nil)))) a_nil)))))))) (a_cons (e_tup (a_cons e_int (a_cons e_int a_nil))) a_nil))) (s_cons (s_for B.po B.calm (i_seq (hK_ hG) (e_name 12)) (vs := [14]) (g_name 14 B.nd) ok_nm (s_one (s_asg 13 B.nd (c_P hG h__law_low (B.room.mono (by omega)) B.gd B.tk (a_cons (e_add (hK_ hG) (e_mul (e_ixL 13 (hK_ hG) (b_of e_int)) (b_of (e_ixL 14 (hK_ hG) (b_of e_int)))) (b_of (e_mul (e_ixL 14 (hK_ hG) (b_of e_int)) (b_of (e_ixL 13 (hK_ hG) (b_of e_int)))))) (a_cons (e_mul (e_ixL 13 (hK_ hG) (b_of e_int)) (b_of (e_ixL 14 (hK_ hG) (b_of e_int)))) a_nil)))))) (s_cons (s_if (t_not (t_val (c_P hG h__law_alike (B.room.mono (by omega)) B.gd B.tk (a_cons (c_P hG h_total (B.room.mono (by omega)) B.gd B.tk (a_cons (e_name 12) a_nil)) (a_cons (e_name 13) a_nil))))) (s_one (s_ret e_bl)) s_nil) (s_cons (s_asg 15 B.nd (c_P hG h_median (B.room.mono (by omega)) B.gd B.tk (a_cons (e_name 12) a_nil))) (s_cons (s_asg 9 B.nd (e_len (hK_ hG) (by rfl) T.n_len (b_of (e_of_n (n_lc (own := [("part", 14)]) [14] B.calm B.nd (i_seq (hK_ hG) (e_name 12)) ok_nm (blkOk_by (by kernel_rfl)) rfl (fun _ _ _ _ _ _ b7 => (g_name 14 B.nd)) (fun _ _ _ _ _ _ b7 => (pts_one' (t_lt (e_mul (e_ixL 14 (hK_ (b7.G.trans hG)) (b_of e_int)) (b_of (e_ixL 15 (hK_ (b7.G.trans hG)) (b_of e_int)))) (b_of (e_mul (e_ixL 15 (hK_ (b7.G.trans hG)) (b_of e_int)) (b_of (e_ixL 14 (hK_ (b7.G.trans hG)) (b_of e_int)))))))) (fun _ _ _ _ _ _ b7 => e_int)))))) (s_cons (s_asg 10 B.nd (e_len (hK_ hG) (by rfl) T.n_len (b_of (e_of_n (n_lc (own := [("part", 14)]) [14] B.calm B.nd (i_seq (hK_ hG) (e_name 12)) ok_nm (blkOk_by (by kernel_rfl)) rfl (fun _ _ _ _ _ _ b8 => (g_name 14 B.nd)) (fun _ _ _ _ _ _ b8 => (pts_one' (t_gt (e_mul (e_ixL 14 (hK_ (b8.G.trans hG)) (b_of e_int)) (b_of (e_ixL 15 (hK_ (b8.G.trans hG)) (b_of e_int)))) (b_of (e_mul (e_ixL 15 (hK_ (b8.G.trans hG)) (b_of e_int)) (b_of (e_ixL 14 (hK_ (b8.G.trans hG)) (b_of e_int)))))))) (fun _ _ _ _ _ _ b8 => e_int)))))) (s_cons (s_if (PW.pt (w_or (t_gt (e_mul e_int (b_name 9)) (b_of (e_len (hK_ hG) (by rfl) T.n_len (b_name 12)))) (w_or (t_gt (e_mul e_int (b_name 10)) (b_of (e_len (hK_ hG) (by rfl) T.n_len (b_name 12)))) (w_one (PW.pt (w_and (t_eq (hK_ hG) B.hu (e_mod (e_len (hK_ hG) (by rfl) T.n_len (b_name 12)) (b_of e_int)) (b_of e_int)) (w_one (t_ni (hK_ hG) B.hu (e_name 15) (b_name 12))))))))) (s_one (s_ret e_bl)) s_nil) (s_cons (s_for B.po B.calm (i_seq (hK_ hG) (e_of_n (n_lst (a_cons e_non (a_cons (e_tup (a_cons e_int (a_cons e_int a_nil))) (a_cons (e_tup (a_cons e_int (a_cons e_int a_nil))) (a_cons (e_tup (a_cons e_int (a_cons e_int a_nil))) (a_cons (e_tup (a_cons e_int a_nil)) (a_cons (e_tup (a_cons e_bl (a_cons e_int a_nil))) (a_cons (e_of_n (n_lst (a_cons e_int (a_cons e_int (a_cons e_int a_nil))))) (a_cons e_int (a_cons (e_tup (a_cons e_int (a_cons (e_neg e_int) a_nil))) a_nil)))))))))))) (vs := [16]) (g_name 16 B.nd) ok_nm (s_cons (s_if (t_val (c_P hG h_is_fraction (B.room.mono (by omega)) B.gd B.tk (a_cons (e_name 16) a_nil))) (s_one (s_ret e_bl)) s_nil) (s_one (c_try 17 hG T.t_BadNumber B.stk B.fr B.nd B.tk (fun _ _ _ tk9 po10 => (s_cons (s_expr (c_P hG h_want_fraction (B.room.mono (by omega)) B.gd tk9 (a_cons (e_name 16) a_nil))) (s_one (s_ret e_bl)))) (fun _ _ _ _ _ hz11 hf12 => (s_one (s_if (t_ne (hK_ hG) B.hu (e_repr (hK_ hG) B.hu B.gd (by rfl) T.n_repr (b_of (e_xfld 17 (hM_ hG) hz11 hf12 rfl T.k_value))) (b_of (e_repr (hK_ hG) B.hu B.gd (by rfl) T.n_repr (b_name 16)))) (s_one (s_ret e_bl)) s_nil))))))) (s_one (s_ret (c_P hG h__law_alike (B.room.mono (by omega)) B.gd B.tk (a_cons (c_P hG h_want_fraction (B.room.mono (by omega)) B.gd B.tk (a_cons (e_of_n (n_list (hK_ hG) (by rfl) T.n_list (b_name 6))) a_nil)) (a_cons (e_name 6) a_nil)))))))))))))))))))))))
theorem o_law (T : Tx P w K mg) {fa : Addr} {fd : FuncData} (F : Fun K "law" "law" s_law fa fd) : FnG P w K mg base 25 fa fd ["script"] (spP ⟨K, mg⟩ R_law) := by
  have h_reduced := o_reduced (base := base) T 
  have h_times := o_times (base := base) T h_reduced
  have h_plus := o_plus (base := base) T h_reduced
  have h_is_less := o_is_less (base := base) T 
  have h_median := o_median (base := base) T h_times h_plus h_is_less
  have h__law_alike := o__law_alike (base := base) T  24
  have h_is_row := o_is_row (base := base) T 
  have h_is_whole := o_is_whole (base := base) T 
  have h_is_fraction := o_is_fraction (base := base) T h_reduced h_is_row h_is_whole
  have h__law_low := o__law_low (base := base) T 
  have h_want_fraction := o_want_fraction (base := base) T h_is_fraction
  have h__law_taken := o__law_taken (base := base) T 
  have h__law_truth := o__law_truth (base := base) T 
  have h_total := o_total (base := base) T h_plus
  have h_minus := o_minus (base := base) T h_reduced
  have h_floor_of := o_floor_of (base := base) T 
  have h_ceiling_of := o_ceiling_of (base := base) T 
  have h_nearest := o_nearest (base := base) T 
  have h_over := o_over (base := base) T h_reduced
  exact fnP F sc_law (by decide) (w_law T h_median h__law_alike h_reduced h_is_fraction h__law_low h_want_fraction h__law_taken h__law_truth h_total h_plus h_minus h_times h_is_less h_floor_of h_ceiling_of h_nearest h_over fa)
end
end
end K10

set_option Elab.async false
set_option linter.all false
set_option maxRecDepth 100000
set_option maxHeartbeats 4000000
namespace K10
open PySem DL
open L2 (atI ixN)
/-! ### fractions in plain Lean -/
def gc (t b : Int) : Int := (Nat.gcd t.natAbs b.natAbs : Int)
def red (t b : Int) : Int × Int := (t / gc t b, b / gc t b)
def fr (x : Int × Int) : D := .tup [.int x.1, .int x.2]
theorem gc_pos {t b : Int} (h : 0 < b) : 0 < gc t b := by
  unfold gc
  have : 0 < Nat.gcd t.natAbs b.natAbs := Nat.gcd_pos_of_pos_right _ (by omega)
  omega
theorem gc_le {t b : Int} (h : 0 < b) : gc t b ≤ b := by
  unfold gc
  have : Nat.gcd t.natAbs b.natAbs ≤ b.natAbs := Nat.gcd_le_right _ (by omega)
  omega
theorem gc_l (t b : Int) : gc t b ∣ t := Int.ofNat_dvd_left.mpr (Nat.gcd_dvd_left _ _)
theorem gc_r (t b : Int) : gc t b ∣ b := Int.ofNat_dvd_left.mpr (Nat.gcd_dvd_right _ _)
theorem red_l (t b : Int) : (red t b).1 * gc t b = t := Int.ediv_mul_cancel (gc_l t b)
theorem red_r (t b : Int) : (red t b).2 * gc t b = b := Int.ediv_mul_cancel (gc_r t b)
theorem red_pos {t b : Int} (h : 0 < b) : 0 < (red t b).2 := by
  have h1 := red_r t b
  have h2 := gc_pos (t := t) h
  rcases Int.lt_trichotomy 0 (red t b).2 with z | z | z
  · exact z
  · rw [← z, Int.zero_mul] at h1; omega
  · have := Int.mul_neg_of_neg_of_pos z h2; omega
theorem gc_mul {k t b : Int} (hk : 0 < k) : gc (k * t) (k * b) = k * gc t b := by
  unfold gc
  rw [Int.natAbs_mul, Int.natAbs_mul, Nat.gcd_mul_left]
  have : (k.natAbs : Int) = k := by omega
  rw [Int.natCast_mul, this]
theorem red_mul {k t b : Int} (hk : 0 < k) : red (k * t) (k * b) = red t b := by
  unfold red
  rw [gc_mul hk, Int.mul_ediv_mul_of_pos _ _ hk, Int.mul_ediv_mul_of_pos _ _ hk]
theorem red_le {t b : Int} (h : 0 < b) : (red t b).2 ≤ b := by
  have h1 := red_r t b
  have h2 := gc_pos (t := t) h
  have h3 := red_pos (t := t) h
  have : (red t b).2 * 1 ≤ (red t b).2 * gc t b := Int.mul_le_mul_of_nonneg_left h2 (Int.le_of_lt h3)
  omega
theorem red_gc {t b : Int} (h : 0 < b) : gc (red t b).1 (red t b).2 = 1 := by
  have h2 := gc_pos (t := t) h
  have e : gc (gc t b * (red t b).1) (gc t b * (red t b).2) = gc t b * gc (red t b).1 (red t b).2 := gc_mul h2
  rw [Int.mul_comm, red_l, Int.mul_comm, red_r] at e
  have : gc t b * 1 = gc t b * gc (red t b).1 (red t b).2 := by rw [Int.mul_one]; exact e
  exact (Int.eq_of_mul_eq_mul_left (by omega) this).symm
theorem red_red {t b : Int} (h : 0 < b) : red (red t b).1 (red t b).2 = red t b := by
  show ((red t b).1 / gc (red t b).1 (red t b).2, (red t b).2 / gc (red t b).1 (red t b).2) = red t b
  rw [red_gc h, Int.ediv_one, Int.ediv_one]
theorem red_of {x y : Int × Int} (hx : 0 < x.2) (hy : 0 < y.2) (h : x.1 * y.2 = y.1 * x.2) : red x.1 x.2 = red y.1 y.2 := by
  rw [← red_mul (t := x.1) (b := x.2) hy, ← red_mul (t := y.1) (b := y.2) hx, Int.mul_comm y.2 x.1, h, Int.mul_comm y.1 x.2, Int.mul_comm y.2 x.2]
theorem red_bt {k : Nat} {t b : Int} (h : 0 < b) (ht : bt k t) : bt k (red t b).1 := ht.div (gc_pos h)
theorem red_bt2 {k : Nat} {t b : Int} (h : 0 < b) (ht : bt k b) : bt k (red t b).2 := ht.div (gc_pos h)
/-! ### the defs -/
theorem while_gcd (t b : Int) : ∀ (n : Nat) (x y : Nat), y < n → whileN n (tv (bin gGt (rd 3) (cst (.int 0)))) (spar 2 3 (acons (rd 3) (acons (bin gMod (rd 2) (pk 3)) anil))) [.val (.int t), .val (.int b), .val (.int x), .val (.int y)] = .nx [.val (.int t), .val (.int b), .val (.int (Nat.gcd x y)), .val (.int 0)]
  | 0, x, y, h => absurd h (Nat.not_lt_zero _)
  | n + 1, x, y, h => by
    rw [whileN]
    simp only [bind_ok, bind_exn, bind_bad, s_ok, s_exn, s_bad, rd_ap, pk_ap, cst_ap, lift_some, lift_none, bin_ap, has_ap, binL_ap, un_ap, anil_ap, acons_ap, mkTup_ap, mkLst_ap, asB_bl, tv_ap, tnot_ap, tand_ap, tor_ap, vand_ap, vor_ap, vnot_ap, vif_ap, vchain_ap, sasg_ap, sown_ap, sif_ap, sret_ap, sexp_ap, snx_ap, sseq_ap, spar_ap, stg_ap, gnm_ap, gnil_ap, gcons_ap, gtp_ap, call_ap, doF_ok, doF_exn, callB_ap, apk_ap, doFB_ok, isOwn_ap, callI_ap, doI_ap, putOwn_ap, setD_ap, sset_ap, isLst_ap, mutl_ap, mutm_ap, sraise_ap, slcL_ap, slc_ap, pno_ap, psome_ap, unN_ap, iseq_ap, irng1_ap, irng2_ap, lrng_ap, gAdd_int, gInt_ap, at0, at1, at2, at3, gIx_lst, gIx_tup, gIx_scr, gLen_lst, gLen_tup, gLen_scr, gToInt_int, List.getElem?_cons_zero, List.getElem?_cons_succ, List.set_cons_zero, List.set_cons_succ, List.length_cons, List.length_nil, ite_true, ite_false, if_true, if_false, Bool.true_and, Bool.and_true, Bool.false_and, Bool.and_false, decide_true, decide_false, Option.map_some, Option.map_none, Bool.not_true, Bool.not_false, reduceIte, Nat.reduceAdd, Nat.reduceLeDiff, Bool.false_eq_true, Bool.true_eq_false, Bool.false_or, Bool.true_or, Bool.or_false, Bool.or_true]
    by_cases hy : y = 0
    · subst hy
      simp
    · have h1 : (0 : Int) < (y : Int) := by omega
      simp only [h1, decide_true, gMod_ok h1, bind_ok, bind_exn, bind_bad, s_ok, s_exn, s_bad, rd_ap, pk_ap, cst_ap, lift_some, lift_none, bin_ap, has_ap, binL_ap, un_ap, anil_ap, acons_ap, mkTup_ap, mkLst_ap, asB_bl, tv_ap, tnot_ap, tand_ap, tor_ap, vand_ap, vor_ap, vnot_ap, vif_ap, vchain_ap, sasg_ap, sown_ap, sif_ap, sret_ap, sexp_ap, snx_ap, sseq_ap, spar_ap, stg_ap, gnm_ap, gnil_ap, gcons_ap, gtp_ap, call_ap, doF_ok, doF_exn, callB_ap, apk_ap, doFB_ok, isOwn_ap, callI_ap, doI_ap, putOwn_ap, setD_ap, sset_ap, isLst_ap, mutl_ap, mutm_ap, sraise_ap, slcL_ap, slc_ap, pno_ap, psome_ap, unN_ap, iseq_ap, irng1_ap, irng2_ap, lrng_ap, gAdd_int, gInt_ap, at0, at1, at2, at3, gIx_lst, gIx_tup, gIx_scr, gLen_lst, gLen_tup, gLen_scr, gToInt_int, List.getElem?_cons_zero, List.getElem?_cons_succ, List.set_cons_zero, List.set_cons_succ, List.length_cons, List.length_nil, ite_true, ite_false, if_true, if_false, Bool.true_and, Bool.and_true, Bool.false_and, Bool.and_false, decide_true, decide_false, Option.map_some, Option.map_none, Bool.not_true, Bool.not_false, reduceIte, Nat.reduceAdd, Nat.reduceLeDiff, Bool.false_eq_true, Bool.true_eq_false, Bool.false_or, Bool.true_or, Bool.or_false, Bool.or_true]
      have e : ((x : Int) % (y : Int)) = ((x % y : Nat) : Int) := by simp
      rw [e, while_gcd t b n y (x % y) (by have := Nat.mod_lt x (Nat.pos_of_ne_zero hy); omega)]
      rw [Nat.gcd_comm x y, Nat.gcd_rec y x, Nat.gcd_comm]
theorem r_reduced {t b : Int} {k : Nat} (hb : 0 < b) (hk : bt k b) (k9 : k < 9000) : R_reduced [.int t, .int b] = .ok (fr (red t b)) .non := by
  have ha : gAbs (.int t) = some (.int (t.natAbs : Int)) := by
    show some (D.int (if t < 0 then -t else t)) = _
    congr 2
    split <;> omega
  have hw := swhile_eq (c := tv (bin gGt (rd 3) (cst (.int 0)))) (b := spar 2 3 (acons (rd 3) (acons (bin gMod (rd 2) (pk 3)) anil))) (n := b.natAbs + 1) (r := [.val (.int t), .val (.int b), .val (.int (t.natAbs : Int)), .val (.int (b.natAbs : Int))]) (by
    rw [while_gcd t b _ _ _ (Nat.lt_succ_self _)]; intro z; cases z)
  rw [while_gcd t b _ _ _ (Nat.lt_succ_self _)] at hw
  have hbn : (b.natAbs : Int) = b := by omega
  rw [hbn] at hw
  have hg := gc_pos (t := t) hb
  have hgk : bt k (gc t b) := by
    have := gc_le (t := t) hb
    unfold bt at *
    omega
  have d1 : ∀ a : Int, gDiv (.int a) (.int (gc t b)) = some (.int (a / gc t b)) := fun a => gDiv_ok hg hgk k9
  show runP 4 2 b_reduced _ = _
  rw [runP2]
  unfold b_reduced
  have hw' : swhile (tv (bin gGt (rd 3) (cst (.int 0)))) (spar 2 3 (acons (rd 3) (acons (bin gMod (rd 2) (pk 3)) anil))) [.val (.int t), .val (.int b), .val (.int (t.natAbs : Int)), .val (.int b)] = .nx [.val (.int t), .val (.int b), .val (.int (gc t b)), .val (.int 0)] := hw
  have l2 : (2 : Nat) ≤ LIM := by decide
  simp only [bind_ok, bind_exn, bind_bad, s_ok, s_exn, s_bad, rd_ap, pk_ap, cst_ap, lift_some, lift_none, bin_ap, has_ap, binL_ap, un_ap, anil_ap, acons_ap, mkTup_ap, mkLst_ap, asB_bl, tv_ap, tnot_ap, tand_ap, tor_ap, vand_ap, vor_ap, vnot_ap, vif_ap, vchain_ap, sasg_ap, sown_ap, sif_ap, sret_ap, sexp_ap, snx_ap, sseq_ap, spar_ap, stg_ap, gnm_ap, gnil_ap, gcons_ap, gtp_ap, call_ap, doF_ok, doF_exn, callB_ap, apk_ap, doFB_ok, isOwn_ap, callI_ap, doI_ap, putOwn_ap, setD_ap, sset_ap, isLst_ap, mutl_ap, mutm_ap, sraise_ap, slcL_ap, slc_ap, pno_ap, psome_ap, unN_ap, iseq_ap, irng1_ap, irng2_ap, lrng_ap, gAdd_int, gInt_ap, at0, at1, at2, at3, gIx_lst, gIx_tup, gIx_scr, gLen_lst, gLen_tup, gLen_scr, gToInt_int, List.getElem?_cons_zero, List.getElem?_cons_succ, List.set_cons_zero, List.set_cons_succ, List.length_cons, List.length_nil, ite_true, ite_false, if_true, if_false, Bool.true_and, Bool.and_true, Bool.false_and, Bool.and_false, decide_true, decide_false, Option.map_some, Option.map_none, Bool.not_true, Bool.not_false, reduceIte, Nat.reduceAdd, Nat.reduceLeDiff, Bool.false_eq_true, Bool.true_eq_false, Bool.false_or, Bool.true_or, Bool.or_false, Bool.or_true, List.map_cons, List.map_nil, List.cons_append, List.nil_append, List.replicate, Nat.reduceSub, ha, hw', hg, d1, l2]
  rfl
theorem ix0 {x : Int × Int} : gIx (fr x) (.int 0) = some (.int x.1) := at0
theorem ix1 {x : Int × Int} : gIx (fr x) (.int 1) = some (.int x.2) := at1
section
variable {x y : Int × Int} {j k : Nat}
theorem r_plus (hx : 0 < x.2) (hy : 0 < y.2) (b1 : bt j x.1) (b2 : bt j x.2) (b3 : bt k y.1) (b4 : bt k y.2) (hjk : j + k < 8000) : R_plus [fr x, fr y] = .ok (fr (red (x.1 * y.2 + y.1 * x.2) (x.2 * y.2))) .non := by
  have m1 := gMulI_ok b1 b4 (by omega)
  have m2 := gMulI_ok b3 b2 (by omega)
  have m3 := gMulI_ok b2 b4 (by omega)
  have hr := r_reduced (t := x.1 * y.2 + y.1 * x.2) (Int.mul_pos hx hy) (b2.mul b4) (by omega)
  show runP 2 2 b_plus _ = _
  rw [runP2]
  unfold b_plus
  simp only [bind_ok, bind_exn, bind_bad, s_ok, s_exn, s_bad, rd_ap, pk_ap, cst_ap, lift_some, lift_none, bin_ap, has_ap, binL_ap, un_ap, anil_ap, acons_ap, mkTup_ap, mkLst_ap, asB_bl, tv_ap, tnot_ap, tand_ap, tor_ap, vand_ap, vor_ap, vnot_ap, vif_ap, vchain_ap, sasg_ap, sown_ap, sif_ap, sret_ap, sexp_ap, snx_ap, sseq_ap, spar_ap, stg_ap, gnm_ap, gnil_ap, gcons_ap, gtp_ap, call_ap, doF_ok, doF_exn, callB_ap, apk_ap, doFB_ok, isOwn_ap, callI_ap, doI_ap, putOwn_ap, setD_ap, sset_ap, isLst_ap, mutl_ap, mutm_ap, sraise_ap, slcL_ap, slc_ap, pno_ap, psome_ap, unN_ap, iseq_ap, irng1_ap, irng2_ap, lrng_ap, gAdd_int, gInt_ap, at0, at1, at2, at3, gIx_lst, gIx_tup, gIx_scr, gLen_lst, gLen_tup, gLen_scr, gToInt_int, List.getElem?_cons_zero, List.getElem?_cons_succ, List.set_cons_zero, List.set_cons_succ, List.length_cons, List.length_nil, ite_true, ite_false, if_true, if_false, Bool.true_and, Bool.and_true, Bool.false_and, Bool.and_false, decide_true, decide_false, Option.map_some, Option.map_none, Bool.not_true, Bool.not_false, reduceIte, Nat.reduceAdd, Nat.reduceLeDiff, Bool.false_eq_true, Bool.true_eq_false, Bool.false_or, Bool.true_or, Bool.or_false, Bool.or_true, List.map_cons, List.map_nil, List.cons_append, List.nil_append, List.replicate, Nat.reduceSub, ix0, ix1, m1, m2, m3, hr]
theorem r_minus (hx : 0 < x.2) (hy : 0 < y.2) (b1 : bt j x.1) (b2 : bt j x.2) (b3 : bt k y.1) (b4 : bt k y.2) (hjk : j + k < 8000) : R_minus [fr x, fr y] = .ok (fr (red (x.1 * y.2 - y.1 * x.2) (x.2 * y.2))) .non := by
  have m1 := gMulI_ok b1 b4 (by omega)
  have m2 := gMulI_ok b3 b2 (by omega)
  have m3 := gMulI_ok b2 b4 (by omega)
  have hr := r_reduced (t := x.1 * y.2 - y.1 * x.2) (Int.mul_pos hx hy) (b2.mul b4) (by omega)
  show runP 2 2 b_minus _ = _
  rw [runP2]
  unfold b_minus
  simp only [bind_ok, bind_exn, bind_bad, s_ok, s_exn, s_bad, rd_ap, pk_ap, cst_ap, lift_some, lift_none, bin_ap, has_ap, binL_ap, un_ap, anil_ap, acons_ap, mkTup_ap, mkLst_ap, asB_bl, tv_ap, tnot_ap, tand_ap, tor_ap, vand_ap, vor_ap, vnot_ap, vif_ap, vchain_ap, sasg_ap, sown_ap, sif_ap, sret_ap, sexp_ap, snx_ap, sseq_ap, spar_ap, stg_ap, gnm_ap, gnil_ap, gcons_ap, gtp_ap, call_ap, doF_ok, doF_exn, callB_ap, apk_ap, doFB_ok, isOwn_ap, callI_ap, doI_ap, putOwn_ap, setD_ap, sset_ap, isLst_ap, mutl_ap, mutm_ap, sraise_ap, slcL_ap, slc_ap, pno_ap, psome_ap, unN_ap, iseq_ap, irng1_ap, irng2_ap, lrng_ap, gAdd_int, gInt_ap, at0, at1, at2, at3, gIx_lst, gIx_tup, gIx_scr, gLen_lst, gLen_tup, gLen_scr, gToInt_int, List.getElem?_cons_zero, List.getElem?_cons_succ, List.set_cons_zero, List.set_cons_succ, List.length_cons, List.length_nil, ite_true, ite_false, if_true, if_false, Bool.true_and, Bool.and_true, Bool.false_and, Bool.and_false, decide_true, decide_false, Option.map_some, Option.map_none, Bool.not_true, Bool.not_false, reduceIte, Nat.reduceAdd, Nat.reduceLeDiff, Bool.false_eq_true, Bool.true_eq_false, Bool.false_or, Bool.true_or, Bool.or_false, Bool.or_true, List.map_cons, List.map_nil, List.cons_append, List.nil_append, List.replicate, Nat.reduceSub, ix0, ix1, m1, m2, m3, hr]
theorem r_times (hx : 0 < x.2) (hy : 0 < y.2) (b1 : bt j x.1) (b2 : bt j x.2) (b3 : bt k y.1) (b4 : bt k y.2) (hjk : j + k < 8000) : R_times [fr x, fr y] = .ok (fr (red (x.1 * y.1) (x.2 * y.2))) .non := by
  have m1 := gMulI_ok b1 b3 (by omega)
  have m3 := gMulI_ok b2 b4 (by omega)
  have hr := r_reduced (t := x.1 * y.1) (Int.mul_pos hx hy) (b2.mul b4) (by omega)
  show runP 2 2 b_times _ = _
  rw [runP2]
  unfold b_times
  simp only [bind_ok, bind_exn, bind_bad, s_ok, s_exn, s_bad, rd_ap, pk_ap, cst_ap, lift_some, lift_none, bin_ap, has_ap, binL_ap, un_ap, anil_ap, acons_ap, mkTup_ap, mkLst_ap, asB_bl, tv_ap, tnot_ap, tand_ap, tor_ap, vand_ap, vor_ap, vnot_ap, vif_ap, vchain_ap, sasg_ap, sown_ap, sif_ap, sret_ap, sexp_ap, snx_ap, sseq_ap, spar_ap, stg_ap, gnm_ap, gnil_ap, gcons_ap, gtp_ap, call_ap, doF_ok, doF_exn, callB_ap, apk_ap, doFB_ok, isOwn_ap, callI_ap, doI_ap, putOwn_ap, setD_ap, sset_ap, isLst_ap, mutl_ap, mutm_ap, sraise_ap, slcL_ap, slc_ap, pno_ap, psome_ap, unN_ap, iseq_ap, irng1_ap, irng2_ap, lrng_ap, gAdd_int, gInt_ap, at0, at1, at2, at3, gIx_lst, gIx_tup, gIx_scr, gLen_lst, gLen_tup, gLen_scr, gToInt_int, List.getElem?_cons_zero, List.getElem?_cons_succ, List.set_cons_zero, List.set_cons_succ, List.length_cons, List.length_nil, ite_true, ite_false, if_true, if_false, Bool.true_and, Bool.and_true, Bool.false_and, Bool.and_false, decide_true, decide_false, Option.map_some, Option.map_none, Bool.not_true, Bool.not_false, reduceIte, Nat.reduceAdd, Nat.reduceLeDiff, Bool.false_eq_true, Bool.true_eq_false, Bool.false_or, Bool.true_or, Bool.or_false, Bool.or_true, List.map_cons, List.map_nil, List.cons_append, List.nil_append, List.replicate, Nat.reduceSub, ix0, ix1, m1, m3, hr]
theorem r_over (hx : 0 < x.2) (hy : 0 < y.1) (b1 : bt j x.1) (b2 : bt j x.2) (b3 : bt k y.1) (b4 : bt k y.2) (hjk : j + k < 8000) : R_over [fr x, fr y] = .ok (fr (red (x.1 * y.2) (x.2 * y.1))) .non := by
  have m1 := gMulI_ok b1 b4 (by omega)
  have m3 := gMulI_ok b2 b3 (by omega)
  have hr := r_reduced (t := x.1 * y.2) (Int.mul_pos hx hy) (b2.mul b3) (by omega)
  show runP 2 2 b_over _ = _
  rw [runP2]
  unfold b_over
  simp only [bind_ok, bind_exn, bind_bad, s_ok, s_exn, s_bad, rd_ap, pk_ap, cst_ap, lift_some, lift_none, bin_ap, has_ap, binL_ap, un_ap, anil_ap, acons_ap, mkTup_ap, mkLst_ap, asB_bl, tv_ap, tnot_ap, tand_ap, tor_ap, vand_ap, vor_ap, vnot_ap, vif_ap, vchain_ap, sasg_ap, sown_ap, sif_ap, sret_ap, sexp_ap, snx_ap, sseq_ap, spar_ap, stg_ap, gnm_ap, gnil_ap, gcons_ap, gtp_ap, call_ap, doF_ok, doF_exn, callB_ap, apk_ap, doFB_ok, isOwn_ap, callI_ap, doI_ap, putOwn_ap, setD_ap, sset_ap, isLst_ap, mutl_ap, mutm_ap, sraise_ap, slcL_ap, slc_ap, pno_ap, psome_ap, unN_ap, iseq_ap, irng1_ap, irng2_ap, lrng_ap, gAdd_int, gInt_ap, at0, at1, at2, at3, gIx_lst, gIx_tup, gIx_scr, gLen_lst, gLen_tup, gLen_scr, gToInt_int, List.getElem?_cons_zero, List.getElem?_cons_succ, List.set_cons_zero, List.set_cons_succ, List.length_cons, List.length_nil, ite_true, ite_false, if_true, if_false, Bool.true_and, Bool.and_true, Bool.false_and, Bool.and_false, decide_true, decide_false, Option.map_some, Option.map_none, Bool.not_true, Bool.not_false, reduceIte, Nat.reduceAdd, Nat.reduceLeDiff, Bool.false_eq_true, Bool.true_eq_false, Bool.false_or, Bool.true_or, Bool.or_false, Bool.or_true, List.map_cons, List.map_nil, List.cons_append, List.nil_append, List.replicate, Nat.reduceSub, ix0, ix1, m1, m3, hr]
theorem r_is_less (b1 : bt j x.1) (b2 : bt j x.2) (b3 : bt k y.1) (b4 : bt k y.2) (hjk : j + k < 8000) : R_is_less [fr x, fr y] = .ok (.bl (decide (x.1 * y.2 < y.1 * x.2))) .non := by
  have m1 := gMulI_ok b1 b4 (by omega)
  have m2 := gMulI_ok b3 b2 (by omega)
  show runP 2 2 b_is_less _ = _
  rw [runP2]
  unfold b_is_less
  simp only [bind_ok, bind_exn, bind_bad, s_ok, s_exn, s_bad, rd_ap, pk_ap, cst_ap, lift_some, lift_none, bin_ap, has_ap, binL_ap, un_ap, anil_ap, acons_ap, mkTup_ap, mkLst_ap, asB_bl, tv_ap, tnot_ap, tand_ap, tor_ap, vand_ap, vor_ap, vnot_ap, vif_ap, vchain_ap, sasg_ap, sown_ap, sif_ap, sret_ap, sexp_ap, snx_ap, sseq_ap, spar_ap, stg_ap, gnm_ap, gnil_ap, gcons_ap, gtp_ap, call_ap, doF_ok, doF_exn, callB_ap, apk_ap, doFB_ok, isOwn_ap, callI_ap, doI_ap, putOwn_ap, setD_ap, sset_ap, isLst_ap, mutl_ap, mutm_ap, sraise_ap, slcL_ap, slc_ap, pno_ap, psome_ap, unN_ap, iseq_ap, irng1_ap, irng2_ap, lrng_ap, gAdd_int, gInt_ap, at0, at1, at2, at3, gIx_lst, gIx_tup, gIx_scr, gLen_lst, gLen_tup, gLen_scr, gToInt_int, List.getElem?_cons_zero, List.getElem?_cons_succ, List.set_cons_zero, List.set_cons_succ, List.length_cons, List.length_nil, ite_true, ite_false, if_true, if_false, Bool.true_and, Bool.and_true, Bool.false_and, Bool.and_false, decide_true, decide_false, Option.map_some, Option.map_none, Bool.not_true, Bool.not_false, reduceIte, Nat.reduceAdd, Nat.reduceLeDiff, Bool.false_eq_true, Bool.true_eq_false, Bool.false_or, Bool.true_or, Bool.or_false, Bool.or_true, List.map_cons, List.map_nil, List.cons_append, List.nil_append, List.replicate, Nat.reduceSub, ix0, ix1, m1, m2]
theorem r_floor (hx : 0 < x.2) (b2 : bt j x.2) (hj : j < 9000) : R_floor_of [fr x] = .ok (.int (x.1 / x.2)) .non := by
  have d := gDiv_ok (a := x.1) hx b2 hj
  show runP 1 1 b_floor_of _ = _
  rw [runP1]
  unfold b_floor_of
  simp only [bind_ok, bind_exn, bind_bad, s_ok, s_exn, s_bad, rd_ap, pk_ap, cst_ap, lift_some, lift_none, bin_ap, has_ap, binL_ap, un_ap, anil_ap, acons_ap, mkTup_ap, mkLst_ap, asB_bl, tv_ap, tnot_ap, tand_ap, tor_ap, vand_ap, vor_ap, vnot_ap, vif_ap, vchain_ap, sasg_ap, sown_ap, sif_ap, sret_ap, sexp_ap, snx_ap, sseq_ap, spar_ap, stg_ap, gnm_ap, gnil_ap, gcons_ap, gtp_ap, call_ap, doF_ok, doF_exn, callB_ap, apk_ap, doFB_ok, isOwn_ap, callI_ap, doI_ap, putOwn_ap, setD_ap, sset_ap, isLst_ap, mutl_ap, mutm_ap, sraise_ap, slcL_ap, slc_ap, pno_ap, psome_ap, unN_ap, iseq_ap, irng1_ap, irng2_ap, lrng_ap, gAdd_int, gInt_ap, at0, at1, at2, at3, gIx_lst, gIx_tup, gIx_scr, gLen_lst, gLen_tup, gLen_scr, gToInt_int, List.getElem?_cons_zero, List.getElem?_cons_succ, List.set_cons_zero, List.set_cons_succ, List.length_cons, List.length_nil, ite_true, ite_false, if_true, if_false, Bool.true_and, Bool.and_true, Bool.false_and, Bool.and_false, decide_true, decide_false, Option.map_some, Option.map_none, Bool.not_true, Bool.not_false, reduceIte, Nat.reduceAdd, Nat.reduceLeDiff, Bool.false_eq_true, Bool.true_eq_false, Bool.false_or, Bool.true_or, Bool.or_false, Bool.or_true, List.map_cons, List.map_nil, List.cons_append, List.nil_append, List.replicate, Nat.reduceSub, ix0, ix1, d]
theorem gNeg_int {i : Int} : gNeg (.int i) = some (.int (-i)) := rfl
theorem r_ceiling (hx : 0 < x.2) (b2 : bt j x.2) (hj : j < 9000) : R_ceiling_of [fr x] = .ok (.int (-(-x.1 / x.2))) .non := by
  have d := gDiv_ok (a := -x.1) hx b2 hj
  show runP 1 1 b_ceiling_of _ = _
  rw [runP1]
  unfold b_ceiling_of
  simp only [bind_ok, bind_exn, bind_bad, s_ok, s_exn, s_bad, rd_ap, pk_ap, cst_ap, lift_some, lift_none, bin_ap, has_ap, binL_ap, un_ap, anil_ap, acons_ap, mkTup_ap, mkLst_ap, asB_bl, tv_ap, tnot_ap, tand_ap, tor_ap, vand_ap, vor_ap, vnot_ap, vif_ap, vchain_ap, sasg_ap, sown_ap, sif_ap, sret_ap, sexp_ap, snx_ap, sseq_ap, spar_ap, stg_ap, gnm_ap, gnil_ap, gcons_ap, gtp_ap, call_ap, doF_ok, doF_exn, callB_ap, apk_ap, doFB_ok, isOwn_ap, callI_ap, doI_ap, putOwn_ap, setD_ap, sset_ap, isLst_ap, mutl_ap, mutm_ap, sraise_ap, slcL_ap, slc_ap, pno_ap, psome_ap, unN_ap, iseq_ap, irng1_ap, irng2_ap, lrng_ap, gAdd_int, gInt_ap, at0, at1, at2, at3, gIx_lst, gIx_tup, gIx_scr, gLen_lst, gLen_tup, gLen_scr, gToInt_int, List.getElem?_cons_zero, List.getElem?_cons_succ, List.set_cons_zero, List.set_cons_succ, List.length_cons, List.length_nil, ite_true, ite_false, if_true, if_false, Bool.true_and, Bool.and_true, Bool.false_and, Bool.and_false, decide_true, decide_false, Option.map_some, Option.map_none, Bool.not_true, Bool.not_false, reduceIte, Nat.reduceAdd, Nat.reduceLeDiff, Bool.false_eq_true, Bool.true_eq_false, Bool.false_or, Bool.true_or, Bool.or_false, Bool.or_true, List.map_cons, List.map_nil, List.cons_append, List.nil_append, List.replicate, Nat.reduceSub, ix0, ix1, d, gNeg_int]
theorem r_nearest (hx : 0 < x.2) (b1 : bt j x.1) (b2 : bt j x.2) (hj : j < 8000) : R_nearest [fr x] = .ok (.int ((2 * x.1 + x.2) / (2 * x.2))) .non := by
  have c2 : bt 2 (2 : Int) := by unfold bt; decide
  have m1 := gMulI_ok c2 b1 (by omega)
  have m2 := gMulI_ok c2 b2 (by omega)
  have d := gDiv_ok (a := 2 * x.1 + x.2) (show (0 : Int) < 2 * x.2 by omega) (c2.mul b2) (by omega)
  show runP 1 1 b_nearest _ = _
  rw [runP1]
  unfold b_nearest
  simp only [bind_ok, bind_exn, bind_bad, s_ok, s_exn, s_bad, rd_ap, pk_ap, cst_ap, lift_some, lift_none, bin_ap, has_ap, binL_ap, un_ap, anil_ap, acons_ap, mkTup_ap, mkLst_ap, asB_bl, tv_ap, tnot_ap, tand_ap, tor_ap, vand_ap, vor_ap, vnot_ap, vif_ap, vchain_ap, sasg_ap, sown_ap, sif_ap, sret_ap, sexp_ap, snx_ap, sseq_ap, spar_ap, stg_ap, gnm_ap, gnil_ap, gcons_ap, gtp_ap, call_ap, doF_ok, doF_exn, callB_ap, apk_ap, doFB_ok, isOwn_ap, callI_ap, doI_ap, putOwn_ap, setD_ap, sset_ap, isLst_ap, mutl_ap, mutm_ap, sraise_ap, slcL_ap, slc_ap, pno_ap, psome_ap, unN_ap, iseq_ap, irng1_ap, irng2_ap, lrng_ap, gAdd_int, gInt_ap, at0, at1, at2, at3, gIx_lst, gIx_tup, gIx_scr, gLen_lst, gLen_tup, gLen_scr, gToInt_int, List.getElem?_cons_zero, List.getElem?_cons_succ, List.set_cons_zero, List.set_cons_succ, List.length_cons, List.length_nil, ite_true, ite_false, if_true, if_false, Bool.true_and, Bool.and_true, Bool.false_and, Bool.and_false, decide_true, decide_false, Option.map_some, Option.map_none, Bool.not_true, Bool.not_false, reduceIte, Nat.reduceAdd, Nat.reduceLeDiff, Bool.false_eq_true, Bool.true_eq_false, Bool.false_or, Bool.true_or, Bool.or_false, Bool.or_true, List.map_cons, List.map_nil, List.cons_append, List.nil_append, List.replicate, Nat.reduceSub, ix0, ix1, d, m1, m2]
theorem gEq_fr {neg : Bool} : gEq neg (fr x) (fr y) = some (.bl (decide (x = y) ^^ neg)) := by
  have : gEq neg (fr x) (fr y) = some (.bl ((x.1 == y.1 && (x.2 == y.2 && true)) ^^ neg)) := rfl
  rw [this]
  congr 3
  rw [Bool.and_true]
  by_cases e : x = y
  · subst e; simp
  · rw [decide_eq_false e]
    cases h1 : x.1 == y.1 with
    | false => rfl
    | true =>
      rw [Bool.true_and]
      cases h2 : x.2 == y.2 with
      | false => rfl
      | true => exact absurd (Prod.ext (by simpa using h1) (by simpa using h2)) e
theorem gIsi_tup {T : String} : gIsi T (fr x) = some (.bl (isa "tuple" T)) := rfl
theorem gIsi2_tup {T U : String} : gIsi2 T U (fr x) = some (.bl (isa "tuple" T || isa "tuple" U)) := rfl
theorem gLen_fr : gLen (fr x) = some (.int 2) := rfl
theorem r_is_row_fr : R_is_row [fr x] = .ok (.bl true) .non := by
  show runP 1 1 b_is_row _ = _
  rw [runP1]
  unfold b_is_row
  simp only [bind_ok, bind_exn, bind_bad, s_ok, s_exn, s_bad, rd_ap, pk_ap, cst_ap, lift_some, lift_none, bin_ap, has_ap, binL_ap, un_ap, anil_ap, acons_ap, mkTup_ap, mkLst_ap, asB_bl, tv_ap, tnot_ap, tand_ap, tor_ap, vand_ap, vor_ap, vnot_ap, vif_ap, vchain_ap, sasg_ap, sown_ap, sif_ap, sret_ap, sexp_ap, snx_ap, sseq_ap, spar_ap, stg_ap, gnm_ap, gnil_ap, gcons_ap, gtp_ap, call_ap, doF_ok, doF_exn, callB_ap, apk_ap, doFB_ok, isOwn_ap, callI_ap, doI_ap, putOwn_ap, setD_ap, sset_ap, isLst_ap, mutl_ap, mutm_ap, sraise_ap, slcL_ap, slc_ap, pno_ap, psome_ap, unN_ap, iseq_ap, irng1_ap, irng2_ap, lrng_ap, gAdd_int, gInt_ap, at0, at1, at2, at3, gIx_lst, gIx_tup, gIx_scr, gLen_lst, gLen_tup, gLen_scr, gToInt_int, List.getElem?_cons_zero, List.getElem?_cons_succ, List.set_cons_zero, List.set_cons_succ, List.length_cons, List.length_nil, ite_true, ite_false, if_true, if_false, Bool.true_and, Bool.and_true, Bool.false_and, Bool.and_false, decide_true, decide_false, Option.map_some, Option.map_none, Bool.not_true, Bool.not_false, reduceIte, Nat.reduceAdd, Nat.reduceLeDiff, Bool.false_eq_true, Bool.true_eq_false, Bool.false_or, Bool.true_or, Bool.or_false, Bool.or_true, List.map_cons, List.map_nil, List.cons_append, List.nil_append, List.replicate, Nat.reduceSub, gIsi2_tup, isa_tuple_list, isa_tuple_tuple]
theorem r_is_whole_int {i : Int} : R_is_whole [.int i] = .ok (.bl true) .non := rfl
theorem r_is_fraction (hx : 0 < x.2) (b2 : bt j x.2) (hj : j < 9000) : R_is_fraction [fr x] = .ok (.bl (decide (red x.1 x.2 = x))) .non := by
  have hr := r_reduced (t := x.1) hx b2 hj
  have hn : ¬ x.2 < 1 := by omega
  have e : D.tup [.int x.1, .int x.2] = fr x := rfl
  show runP 1 1 b_is_fraction _ = _
  rw [runP1]
  unfold b_is_fraction
  have l2 : (2 : Nat) ≤ LIM := by decide
  simp only [bind_ok, bind_exn, bind_bad, s_ok, s_exn, s_bad, rd_ap, pk_ap, cst_ap, lift_some, lift_none, bin_ap, has_ap, binL_ap, un_ap, anil_ap, acons_ap, mkTup_ap, mkLst_ap, asB_bl, tv_ap, tnot_ap, tand_ap, tor_ap, vand_ap, vor_ap, vnot_ap, vif_ap, vchain_ap, sasg_ap, sown_ap, sif_ap, sret_ap, sexp_ap, snx_ap, sseq_ap, spar_ap, stg_ap, gnm_ap, gnil_ap, gcons_ap, gtp_ap, call_ap, doF_ok, doF_exn, callB_ap, apk_ap, doFB_ok, isOwn_ap, callI_ap, doI_ap, putOwn_ap, setD_ap, sset_ap, isLst_ap, mutl_ap, mutm_ap, sraise_ap, slcL_ap, slc_ap, pno_ap, psome_ap, unN_ap, iseq_ap, irng1_ap, irng2_ap, lrng_ap, gAdd_int, gInt_ap, at0, at1, at2, at3, gIx_lst, gIx_tup, gIx_scr, gLen_lst, gLen_tup, gLen_scr, gToInt_int, List.getElem?_cons_zero, List.getElem?_cons_succ, List.set_cons_zero, List.set_cons_succ, List.length_cons, List.length_nil, ite_true, ite_false, if_true, if_false, Bool.true_and, Bool.and_true, Bool.false_and, Bool.and_false, decide_true, decide_false, Option.map_some, Option.map_none, Bool.not_true, Bool.not_false, reduceIte, Nat.reduceAdd, Nat.reduceLeDiff, Bool.false_eq_true, Bool.true_eq_false, Bool.false_or, Bool.true_or, Bool.or_false, Bool.or_true, List.map_cons, List.map_nil, List.cons_append, List.nil_append, List.replicate, Nat.reduceSub, ix0, ix1, r_is_row_fr, gLen_fr, r_is_whole_int, gEq_int, beq_self_eq_true, Bool.xor_true, hn, hr, l2, e, gEq_fr, Bool.xor_false]
end
/-! ### _law_low: the greatest common divisor by a walk -/
/-- a common divisor, and the greatest up to k -/
def Lo (t b k h : Int) : Prop := 0 < h ∧ h ∣ t ∧ h ∣ b ∧ ∀ d : Int, 0 < d → d ≤ k → d ∣ t → d ∣ b → d ≤ h
theorem low_loop {t b : Int} : ∀ (n k : Nat) (h : Int) (z : Sl), Lo t b k h → ∃ h' z', Lo t b (k + n) h' ∧ forL ((List.range' k n).map fun (i : Nat) => D.int (1 + (i : Int))) (gnm 3)
    (sif (tand (tv (bin (gEq false) (bin gMod (un gToInt (pk 0)) (pk 3)) (cst (.int 0)))) (tv (bin (gEq false) (bin gMod (un gToInt (pk 1)) (pk 3)) (cst (.int 0))))) (sasg 2 (rd 3)) snx) [.val (.int t), .val (.int b), .val (.int h), z] = .nx [.val (.int t), .val (.int b), .val (.int h'), z']
  | 0, k, h, z, H => ⟨h, z, by simpa using H, rfl⟩
  | n + 1, k, h, z, H => by
    obtain ⟨h1, h2, h3, h4⟩ := H
    have hd : (0 : Int) < 1 + (k : Int) := by omega
    rw [List.range'_succ, List.map_cons, forL_cons]
    have ek : ((k + 1 : Nat) : Int) = (k : Int) + 1 := by omega
    by_cases c : (1 + (k : Int)) ∣ t ∧ (1 + (k : Int)) ∣ b
    · obtain ⟨h', z', H', e⟩ := low_loop (t := t) (b := b) n (k + 1) (1 + (k : Int)) (.val (.int (1 + (k : Int)))) ⟨hd, c.1, c.2, fun d _ hle _ _ => by omega⟩
      refine ⟨h', z', by rw [ek] at H'; rw [show ((k : Int) + ((n + 1 : Nat) : Int)) = (k : Int) + 1 + n by omega]; exact H', ?_⟩
      simp only [bind_ok, bind_exn, bind_bad, s_ok, s_exn, s_bad, rd_ap, pk_ap, cst_ap, lift_some, lift_none, bin_ap, has_ap, binL_ap, un_ap, anil_ap, acons_ap, mkTup_ap, mkLst_ap, asB_bl, tv_ap, tnot_ap, tand_ap, tor_ap, vand_ap, vor_ap, vnot_ap, vif_ap, vchain_ap, sasg_ap, sown_ap, sif_ap, sret_ap, sexp_ap, snx_ap, sseq_ap, spar_ap, stg_ap, gnm_ap, gnil_ap, gcons_ap, gtp_ap, call_ap, doF_ok, doF_exn, callB_ap, apk_ap, doFB_ok, isOwn_ap, callI_ap, doI_ap, putOwn_ap, setD_ap, sset_ap, isLst_ap, mutl_ap, mutm_ap, sraise_ap, slcL_ap, slc_ap, pno_ap, psome_ap, unN_ap, iseq_ap, irng1_ap, irng2_ap, lrng_ap, gAdd_int, gInt_ap, at0, at1, at2, at3, gIx_lst, gIx_tup, gIx_scr, gLen_lst, gLen_tup, gLen_scr, gToInt_int, List.getElem?_cons_zero, List.getElem?_cons_succ, List.set_cons_zero, List.set_cons_succ, List.length_cons, List.length_nil, ite_true, ite_false, if_true, if_false, Bool.true_and, Bool.and_true, Bool.false_and, Bool.and_false, decide_true, decide_false, Option.map_some, Option.map_none, Bool.not_true, Bool.not_false, reduceIte, Nat.reduceAdd, Nat.reduceLeDiff, Bool.false_eq_true, Bool.true_eq_false, Bool.false_or, Bool.true_or, Bool.or_false, Bool.or_true, gMod_ok hd, gEq_int, Int.emod_eq_zero_of_dvd c.1, Int.emod_eq_zero_of_dvd c.2, beq_self_eq_true, Bool.xor_false, e]
    · obtain ⟨h', z', H', e⟩ := low_loop (t := t) (b := b) n (k + 1) h (.val (.int (1 + (k : Int)))) ⟨h1, h2, h3, fun d d0 hle dt db => by
        rw [ek] at hle
        by_cases q : d = 1 + (k : Int)
        · subst q; exact absurd ⟨dt, db⟩ c
        · exact h4 d d0 (by omega) dt db⟩
      refine ⟨h', z', by rw [ek] at H'; rw [show ((k : Int) + ((n + 1 : Nat) : Int)) = (k : Int) + 1 + n by omega]; exact H', ?_⟩
      by_cases c1 : (1 + (k : Int)) ∣ t
      · have c2 : ¬ b % (1 + (k : Int)) = 0 := fun q => c ⟨c1, Int.dvd_of_emod_eq_zero q⟩
        have c3 : (b % (1 + (k : Int)) == 0) = false := by simpa using c2
        simp only [bind_ok, bind_exn, bind_bad, s_ok, s_exn, s_bad, rd_ap, pk_ap, cst_ap, lift_some, lift_none, bin_ap, has_ap, binL_ap, un_ap, anil_ap, acons_ap, mkTup_ap, mkLst_ap, asB_bl, tv_ap, tnot_ap, tand_ap, tor_ap, vand_ap, vor_ap, vnot_ap, vif_ap, vchain_ap, sasg_ap, sown_ap, sif_ap, sret_ap, sexp_ap, snx_ap, sseq_ap, spar_ap, stg_ap, gnm_ap, gnil_ap, gcons_ap, gtp_ap, call_ap, doF_ok, doF_exn, callB_ap, apk_ap, doFB_ok, isOwn_ap, callI_ap, doI_ap, putOwn_ap, setD_ap, sset_ap, isLst_ap, mutl_ap, mutm_ap, sraise_ap, slcL_ap, slc_ap, pno_ap, psome_ap, unN_ap, iseq_ap, irng1_ap, irng2_ap, lrng_ap, gAdd_int, gInt_ap, at0, at1, at2, at3, gIx_lst, gIx_tup, gIx_scr, gLen_lst, gLen_tup, gLen_scr, gToInt_int, List.getElem?_cons_zero, List.getElem?_cons_succ, List.set_cons_zero, List.set_cons_succ, List.length_cons, List.length_nil, ite_true, ite_false, if_true, if_false, Bool.true_and, Bool.and_true, Bool.false_and, Bool.and_false, decide_true, decide_false, Option.map_some, Option.map_none, Bool.not_true, Bool.not_false, reduceIte, Nat.reduceAdd, Nat.reduceLeDiff, Bool.false_eq_true, Bool.true_eq_false, Bool.false_or, Bool.true_or, Bool.or_false, Bool.or_true, gMod_ok hd, gEq_int, Int.emod_eq_zero_of_dvd c1, c3, beq_self_eq_true, Bool.xor_false, e]
      · have c2 : ¬ t % (1 + (k : Int)) = 0 := fun q => c1 (Int.dvd_of_emod_eq_zero q)
        have c3 : (t % (1 + (k : Int)) == 0) = false := by simpa using c2
        simp only [bind_ok, bind_exn, bind_bad, s_ok, s_exn, s_bad, rd_ap, pk_ap, cst_ap, lift_some, lift_none, bin_ap, has_ap, binL_ap, un_ap, anil_ap, acons_ap, mkTup_ap, mkLst_ap, asB_bl, tv_ap, tnot_ap, tand_ap, tor_ap, vand_ap, vor_ap, vnot_ap, vif_ap, vchain_ap, sasg_ap, sown_ap, sif_ap, sret_ap, sexp_ap, snx_ap, sseq_ap, spar_ap, stg_ap, gnm_ap, gnil_ap, gcons_ap, gtp_ap, call_ap, doF_ok, doF_exn, callB_ap, apk_ap, doFB_ok, isOwn_ap, callI_ap, doI_ap, putOwn_ap, setD_ap, sset_ap, isLst_ap, mutl_ap, mutm_ap, sraise_ap, slcL_ap, slc_ap, pno_ap, psome_ap, unN_ap, iseq_ap, irng1_ap, irng2_ap, lrng_ap, gAdd_int, gInt_ap, at0, at1, at2, at3, gIx_lst, gIx_tup, gIx_scr, gLen_lst, gLen_tup, gLen_scr, gToInt_int, List.getElem?_cons_zero, List.getElem?_cons_succ, List.set_cons_zero, List.set_cons_succ, List.length_cons, List.length_nil, ite_true, ite_false, if_true, if_false, Bool.true_and, Bool.and_true, Bool.false_and, Bool.and_false, decide_true, decide_false, Option.map_some, Option.map_none, Bool.not_true, Bool.not_false, reduceIte, Nat.reduceAdd, Nat.reduceLeDiff, Bool.false_eq_true, Bool.true_eq_false, Bool.false_or, Bool.true_or, Bool.or_false, Bool.or_true, gMod_ok hd, gEq_int, c3, beq_self_eq_true, Bool.xor_false, e]
theorem lo_gc {t b h : Int} (hb : 0 < b) (H : Lo t b b h) : h = gc t b := by
  obtain ⟨h1, h2, h3, h4⟩ := H
  have g0 := gc_pos (t := t) hb
  have le1 := h4 (gc t b) g0 (gc_le hb) (gc_l t b) (gc_r t b)
  have d1 : h.natAbs ∣ Nat.gcd t.natAbs b.natAbs := Nat.dvd_gcd (Int.natAbs_dvd_natAbs.mpr h2) (Int.natAbs_dvd_natAbs.mpr h3)
  have p : 0 < Nat.gcd t.natAbs b.natAbs := Nat.gcd_pos_of_pos_right _ (by omega)
  have le2 := Nat.le_of_dvd p d1
  have : gc t b = (Nat.gcd t.natAbs b.natAbs : Int) := rfl
  omega
theorem r_low {t b : Int} (hb : 0 < b) (hs : b ≤ 100000000) : R__law_low [.int t, .int b] = .ok (fr (red t b)) .non := by
  have L0 : Lo t b ((0 : Nat) : Int) 1 := ⟨by decide, Int.one_dvd t, Int.one_dvd b, fun d h1 h2 _ _ => by omega⟩
  obtain ⟨h', z', H, e⟩ := low_loop (t := t) (b := b) b.toNat 0 1 .un L0
  rw [show ((0 : Nat) : Int) + (b.toNat : Int) = b by omega] at H
  have eh := lo_gc hb H
  subst eh
  rw [← List.range_eq_range'] at e
  have s1 : small 1 = true := rfl
  have s2 : small (b + 1) = true := small_of (by omega) (by omega)
  have et : ((b + 1) - 1).toNat = b.toNat := by omega
  have hk : bt 40 (gc t b) := by
    have := gc_le (t := t) hb
    have := gc_pos (t := t) hb
    unfold bt; omega
  have d1 : ∀ a : Int, gDiv (.int a) (.int (gc t b)) = some (.int (a / gc t b)) := fun a => gDiv_ok (gc_pos hb) hk (by decide)
  have l2 : (2 : Nat) ≤ LIM := by decide
  show runP 4 2 b__law_low _ = _
  rw [runP2]
  unfold b__law_low
  simp only [bind_ok, bind_exn, bind_bad, s_ok, s_exn, s_bad, rd_ap, pk_ap, cst_ap, lift_some, lift_none, bin_ap, has_ap, binL_ap, un_ap, anil_ap, acons_ap, mkTup_ap, mkLst_ap, asB_bl, tv_ap, tnot_ap, tand_ap, tor_ap, vand_ap, vor_ap, vnot_ap, vif_ap, vchain_ap, sasg_ap, sown_ap, sif_ap, sret_ap, sexp_ap, snx_ap, sseq_ap, spar_ap, stg_ap, gnm_ap, gnil_ap, gcons_ap, gtp_ap, call_ap, doF_ok, doF_exn, callB_ap, apk_ap, doFB_ok, isOwn_ap, callI_ap, doI_ap, putOwn_ap, setD_ap, sset_ap, isLst_ap, mutl_ap, mutm_ap, sraise_ap, slcL_ap, slc_ap, pno_ap, psome_ap, unN_ap, iseq_ap, irng1_ap, irng2_ap, lrng_ap, gAdd_int, gInt_ap, at0, at1, at2, at3, gIx_lst, gIx_tup, gIx_scr, gLen_lst, gLen_tup, gLen_scr, gToInt_int, List.getElem?_cons_zero, List.getElem?_cons_succ, List.set_cons_zero, List.set_cons_succ, List.length_cons, List.length_nil, ite_true, ite_false, if_true, if_false, Bool.true_and, Bool.and_true, Bool.false_and, Bool.and_false, decide_true, decide_false, Option.map_some, Option.map_none, Bool.not_true, Bool.not_false, reduceIte, Nat.reduceAdd, Nat.reduceLeDiff, Bool.false_eq_true, Bool.true_eq_false, Bool.false_or, Bool.true_or, Bool.or_false, Bool.or_true, List.map_cons, List.map_nil, List.cons_append, List.nil_append, List.replicate, Nat.reduceSub, sfor_ap, s1, s2, rngL_map, et, e, d1, l2]
  rfl
/-! ### total -/
def stp (w x : Int × Int) : Int × Int := red (w.1 * x.2 + x.1 * w.2) (w.2 * x.2)
def tot (w : Int × Int) (xs : List (Int × Int)) : Int × Int := xs.foldl stp w
theorem stp_pos {w x : Int × Int} (hw : 0 < w.2) (hx : 0 < x.2) : 0 < (stp w x).2 := red_pos (Int.mul_pos hw hx)
theorem stp_b1 {w x : Int × Int} {j k : Nat} (hw : 0 < w.2) (hx : 0 < x.2) (b1 : bt j w.1) (b2 : bt j w.2) (b3 : bt k x.1) (b4 : bt k x.2) : bt (j + k + 1) (stp w x).1 :=
  (red_bt (Int.mul_pos hw hx) ((b1.mul b4).add (b3.mul b2))).le (by omega)
theorem stp_b2 {w x : Int × Int} {j k : Nat} (hw : 0 < w.2) (hx : 0 < x.2) (b2 : bt j w.2) (b4 : bt k x.2) : bt (j + k + 1) (stp w x).2 :=
  (red_bt2 (Int.mul_pos hw hx) (b2.mul b4)).le (by omega)
/-- good parts: above 0 below, so many bits -/
def Gd (k : Nat) (xs : List (Int × Int)) : Prop := ∀ x ∈ xs, 0 < x.2 ∧ bt k x.1 ∧ bt k x.2
theorem total_loop {a0 : Sl} : ∀ (xs : List (Int × Int)) (w : Int × Int) (z : Sl) (j : Nat), 0 < w.2 → bt j w.1 → bt j w.2 → Gd 12 xs → j + 13 * xs.length < 7000 →
    ∃ z', forL (xs.map fr) (gnm 2) (sasg 1 (call R_plus (acons (rd 1) (acons (rd 2) anil)))) [a0, .val (fr w), z] = .nx [a0, .val (fr (tot w xs)), z']
  | [], w, z, j, _, _, _, _, _ => ⟨z, rfl⟩
  | x :: xs, w, z, j, hw, b1, b2, hg, hl => by
    obtain ⟨hx, b3, b4⟩ := hg x List.mem_cons_self
    rw [List.length_cons] at hl
    obtain ⟨z', e⟩ := total_loop (a0 := a0) xs (stp w x) (.val (fr x)) (j + 12 + 1) (stp_pos hw hx) (stp_b1 hw hx b1 b2 b3 b4) (stp_b2 hw hx b2 b4) (fun y hy => hg y (List.mem_cons_of_mem _ hy)) (by omega)
    have hp := r_plus hw hx b1 b2 b3 b4 (by omega)
    refine ⟨z', ?_⟩
    rw [List.map_cons, forL_cons]
    have e2 : forL (xs.map fr) (gnm 2) (sasg 1 (call R_plus (acons (rd 1) (acons (rd 2) anil)))) [a0, .val (fr (red (w.1 * x.2 + x.1 * w.2) (w.2 * x.2))), .val (fr x)] = .nx [a0, .val (fr (tot w (x :: xs))), z'] := e
    simp only [bind_ok, bind_exn, bind_bad, s_ok, s_exn, s_bad, rd_ap, pk_ap, cst_ap, lift_some, lift_none, bin_ap, has_ap, binL_ap, un_ap, anil_ap, acons_ap, mkTup_ap, mkLst_ap, asB_bl, tv_ap, tnot_ap, tand_ap, tor_ap, vand_ap, vor_ap, vnot_ap, vif_ap, vchain_ap, sasg_ap, sown_ap, sif_ap, sret_ap, sexp_ap, snx_ap, sseq_ap, spar_ap, stg_ap, gnm_ap, gnil_ap, gcons_ap, gtp_ap, call_ap, doF_ok, doF_exn, callB_ap, apk_ap, doFB_ok, isOwn_ap, callI_ap, doI_ap, putOwn_ap, setD_ap, sset_ap, isLst_ap, mutl_ap, mutm_ap, sraise_ap, slcL_ap, slc_ap, pno_ap, psome_ap, unN_ap, iseq_ap, irng1_ap, irng2_ap, lrng_ap, gAdd_int, gInt_ap, at0, at1, at2, at3, gIx_lst, gIx_tup, gIx_scr, gLen_lst, gLen_tup, gLen_scr, gToInt_int, List.getElem?_cons_zero, List.getElem?_cons_succ, List.set_cons_zero, List.set_cons_succ, List.length_cons, List.length_nil, ite_true, ite_false, if_true, if_false, Bool.true_and, Bool.and_true, Bool.false_and, Bool.and_false, decide_true, decide_false, Option.map_some, Option.map_none, Bool.not_true, Bool.not_false, reduceIte, Nat.reduceAdd, Nat.reduceLeDiff, Bool.false_eq_true, Bool.true_eq_false, Bool.false_or, Bool.true_or, Bool.or_false, Bool.or_true, hp, e2]
theorem gSeq_lst {xs : List D} : gSeq (.lst xs) = some xs := rfl
theorem r_total {xs : List (Int × Int)} (hg : Gd 12 xs) (hl : xs.length ≤ 100) : R_total [.lst (xs.map fr)] = .ok (fr (tot (0, 1) xs)) .non := by
  obtain ⟨z', e⟩ := total_loop (a0 := .val (.lst (xs.map fr))) xs (0, 1) .un 1 (by decide) (by unfold bt; decide) (by unfold bt; decide) hg (by omega)
  have e2 : forL (xs.map fr) (gnm 2) (sasg 1 (call R_plus (acons (rd 1) (acons (rd 2) anil)))) [.val (.lst (xs.map fr)), .val (.tup [.int 0, .int 1]), .un] = .nx [.val (.lst (xs.map fr)), .val (fr (tot (0, 1) xs)), z'] := e
  have l2 : (2 : Nat) ≤ LIM := by decide
  show runP 3 1 b_total _ = _
  rw [runP1]
  unfold b_total
  simp only [bind_ok, bind_exn, bind_bad, s_ok, s_exn, s_bad, rd_ap, pk_ap, cst_ap, lift_some, lift_none, bin_ap, has_ap, binL_ap, un_ap, anil_ap, acons_ap, mkTup_ap, mkLst_ap, asB_bl, tv_ap, tnot_ap, tand_ap, tor_ap, vand_ap, vor_ap, vnot_ap, vif_ap, vchain_ap, sasg_ap, sown_ap, sif_ap, sret_ap, sexp_ap, snx_ap, sseq_ap, spar_ap, stg_ap, gnm_ap, gnil_ap, gcons_ap, gtp_ap, call_ap, doF_ok, doF_exn, callB_ap, apk_ap, doFB_ok, isOwn_ap, callI_ap, doI_ap, putOwn_ap, setD_ap, sset_ap, isLst_ap, mutl_ap, mutm_ap, sraise_ap, slcL_ap, slc_ap, pno_ap, psome_ap, unN_ap, iseq_ap, irng1_ap, irng2_ap, lrng_ap, gAdd_int, gInt_ap, at0, at1, at2, at3, gIx_lst, gIx_tup, gIx_scr, gLen_lst, gLen_tup, gLen_scr, gToInt_int, List.getElem?_cons_zero, List.getElem?_cons_succ, List.set_cons_zero, List.set_cons_succ, List.length_cons, List.length_nil, ite_true, ite_false, if_true, if_false, Bool.true_and, Bool.and_true, Bool.false_and, Bool.and_false, decide_true, decide_false, Option.map_some, Option.map_none, Bool.not_true, Bool.not_false, reduceIte, Nat.reduceAdd, Nat.reduceLeDiff, Bool.false_eq_true, Bool.true_eq_false, Bool.false_or, Bool.true_or, Bool.or_false, Bool.or_true, List.map_cons, List.map_nil, List.cons_append, List.nil_append, List.replicate, Nat.reduceSub, sfor_ap, gSeq_lst, l2, e2]
/-! ### median -/
def lt (x y : Int × Int) : Bool := decide (x.1 * y.2 < y.1 * x.2)
def le (x y : Int × Int) : Prop := x.1 * y.2 ≤ y.1 * x.2
def pos (x : Int × Int) : Prop := 0 < x.2
theorem lt_le {x a o : Int × Int} (hx : pos x) (ha : pos a) (ho : pos o) (h1 : lt x a = true) (h2 : le a o) : lt x o = true := by
  have h1 := of_decide_eq_true h1
  refine decide_eq_true ?_
  have e1 : x.1 * a.2 * o.2 < a.1 * x.2 * o.2 := Int.mul_lt_mul_of_pos_right h1 ho
  have e2 : a.1 * o.2 * x.2 ≤ o.1 * a.2 * x.2 := Int.mul_le_mul_of_nonneg_right h2 (Int.le_of_lt hx)
  have e3 : x.1 * o.2 * a.2 < o.1 * x.2 * a.2 := by
    rw [Int.mul_right_comm x.1 o.2 a.2, Int.mul_right_comm o.1 x.2 a.2]
    rw [Int.mul_right_comm a.1 x.2 o.2] at e1
    omega
  exact Int.lt_of_mul_lt_mul_right e3 (Int.le_of_lt ha)
theorem le_tr {x a o : Int × Int} (hx : pos x) (ha : pos a) (ho : pos o) (h1 : le x a) (h2 : le a o) : le x o := by
  have e1 : x.1 * a.2 * o.2 ≤ a.1 * x.2 * o.2 := Int.mul_le_mul_of_nonneg_right h1 (Int.le_of_lt ho)
  have e2 : a.1 * o.2 * x.2 ≤ o.1 * a.2 * x.2 := Int.mul_le_mul_of_nonneg_right h2 (Int.le_of_lt hx)
  have e3 : x.1 * o.2 * a.2 ≤ o.1 * x.2 * a.2 := by
    rw [Int.mul_right_comm x.1 o.2 a.2, Int.mul_right_comm o.1 x.2 a.2]
    rw [Int.mul_right_comm a.1 x.2 o.2] at e1
    omega
  exact Int.le_of_mul_le_mul_right e3 ha
theorem lt_false {x y : Int × Int} : lt x y = false ↔ le y x := by
  unfold lt le
  rw [decide_eq_false_iff_not, Int.not_lt]
theorem le_of_lt {x y : Int × Int} (h : lt x y = true) : le x y := Int.le_of_lt (of_decide_eq_true h)
def ins (x : Int × Int) (L : List (Int × Int)) : List (Int × Int) := L.take (L.filter fun o => !lt x o).length ++ [x] ++ L.drop (L.filter fun o => !lt x o).length
theorem ins_perm (x : Int × Int) (L : List (Int × Int)) : (ins x L).Perm (x :: L) := by
  unfold ins
  rw [List.append_assoc, List.singleton_append]
  refine (List.perm_middle).trans ?_
  rw [List.take_append_drop]
theorem ins_sorted {x : Int × Int} (hx : pos x) : ∀ {L : List (Int × Int)}, (∀ y ∈ L, pos y) → L.Pairwise le → (ins x L).Pairwise le
  | [], _, _ => by simp [ins]
  | a :: l, hp, hs => by
    have ha := hp a List.mem_cons_self
    rw [List.pairwise_cons] at hs
    cases c : lt x a with
    | false =>
      have ih := ins_sorted hx (L := l) (fun y hy => hp y (List.mem_cons_of_mem _ hy)) hs.2
      have e : ins x (a :: l) = a :: ins x l := by
        unfold ins
        rw [List.filter_cons_of_pos (by rw [c]; rfl), List.length_cons, List.take_succ_cons, List.drop_succ_cons]
        rfl
      rw [e, List.pairwise_cons]
      refine ⟨fun y hy => ?_, ih⟩
      rcases List.mem_cons.mp ((ins_perm x l).mem_iff.mp hy) with q | q
      · subst q; exact lt_false.mp c
      · exact hs.1 y q
    | true =>
      have e0 : ((a :: l).filter fun o => !lt x o) = [] := by
        rw [List.filter_eq_nil_iff]
        intro o ho
        rcases List.mem_cons.mp ho with q | q
        · subst q; rw [c]; decide
        · rw [lt_le hx ha (hp o (List.mem_cons_of_mem _ q)) c (hs.1 o q)]; decide
      have e : ins x (a :: l) = x :: a :: l := by
        unfold ins
        rw [e0]; rfl
      rw [e, List.pairwise_cons]
      refine ⟨fun y hy => ?_, List.pairwise_cons.mpr hs⟩
      rcases List.mem_cons.mp hy with q | q
      · subst q; exact le_of_lt c
      · exact le_of_lt (lt_le hx ha (hp y (List.mem_cons_of_mem _ q)) c (hs.1 y q))
def srt (L xs : List (Int × Int)) : List (Int × Int) := xs.foldl (fun L x => ins x L) L
theorem srt_perm : ∀ (xs L : List (Int × Int)), (srt L xs).Perm (L ++ xs)
  | [], L => by rw [List.append_nil]; exact List.Perm.refl _
  | x :: xs, L => by
    have ih := srt_perm xs (ins x L)
    refine ih.trans ?_
    refine ((ins_perm x L).append_right xs).trans ?_
    rw [List.cons_append]
    exact List.perm_middle.symm
theorem srt_sorted : ∀ (xs L : List (Int × Int)), (∀ y ∈ xs, pos y) → (∀ y ∈ L, pos y) → L.Pairwise le → (srt L xs).Pairwise le
  | [], L, _, _, h => h
  | x :: xs, L, hx, hL, h => srt_sorted xs (ins x L) (fun y hy => hx y (List.mem_cons_of_mem _ hy)) (fun y hy => by
      rcases List.mem_cons.mp ((ins_perm x L).mem_iff.mp hy) with q | q
      · subst q; exact hx y List.mem_cons_self
      · exact hL y q) (ins_sorted (hx x List.mem_cons_self) hL h)
theorem gInsert_ap {xs : List D} {i : Int} {d : D} (h : xs.length < LIM) (h0 : 0 ≤ i) (h1 : small i = true) : gInsert (.lst xs) [.int i, d] = some (.non, .lst (xs.take i.toNat ++ [d] ++ xs.drop i.toNat)) := by
  show (if xs.length < LIM ∧ 0 ≤ i ∧ small i = true then _ else _) = _
  rw [if_pos ⟨h, h0, h1⟩]
theorem med_loop {a0 u4 u5 : Sl} {k : Nat} (hk : k < 4000) : ∀ (xs L : List (Int × Int)) (z2 z3 : Sl), Gd k xs → Gd k L → L.length + xs.length ≤ 1000 →
    ∃ z2' z3', forL (xs.map fr) (gnm 2) (sseq (sasg 3 (un gLen (lcompB 1 (gnm 6) (tnot (tv (call R_is_less (acons (rd 2) (acons (rd 6) anil))))) (rd 6) [6]))) (sexp (mutl 1 gInsert (acons (rd 3) (acons (rd 2) anil)))))
      [a0, .own (.lst (L.map fr)), z2, z3, u4, u5, .un] = .nx [a0, .own (.lst ((srt L xs).map fr)), z2', z3', u4, u5, .un]
  | [], L, z2, z3, _, _, _ => ⟨z2, z3, rfl⟩
  | x :: xs, L, z2, z3, hx, hL, hl => by
    obtain ⟨x0, b1, b2⟩ := hx x List.mem_cons_self
    rw [List.length_cons] at hl
    have hp := ins_perm x L
    have hlen : (ins x L).length = L.length + 1 := by rw [hp.length_eq, List.length_cons]
    obtain ⟨z2', z3', e⟩ := med_loop hk xs (ins x L) (.val (fr x)) (.val (.int ((L.filter fun o => !lt x o).length : Nat))) (fun y hy => hx y (List.mem_cons_of_mem _ hy)) (fun y hy => by
      rcases List.mem_cons.mp (hp.mem_iff.mp hy) with q | q
      · subst q; exact hx y List.mem_cons_self
      · exact hL y q) (by rw [hlen]; omega)
    refine ⟨z2', z3', ?_⟩
    rw [List.map_cons, forL_cons]
    have lc : lcompB 1 (gnm 6) (tnot (tv (call R_is_less (acons (rd 2) (acons (rd 6) anil))))) (rd 6) [6] [a0, .own (.lst (L.map fr)), .val (fr x), z3, u4, u5, .un] = .ok (.lst ((L.filter fun o => !lt x o).map fr)) [a0, .own (.lst (L.map fr)), .val (fr x), z3, u4, u5, .un] := by
      refine lcompB_pure (φ := fr) (p := fun o => !lt x o) (f := fr) L rfl rfl rfl (by decide) (by have : LIM = 1000000 := rfl; omega) (fun o ho => ?_) (fun o ho _ => rfl)
      obtain ⟨o0, c1, c2⟩ := hL o ho
      have hr := r_is_less (x := x) (y := o) b1 b2 c1 c2 (by omega)
      simp only [bind_ok, bind_exn, bind_bad, s_ok, s_exn, s_bad, rd_ap, pk_ap, cst_ap, lift_some, lift_none, bin_ap, has_ap, binL_ap, un_ap, anil_ap, acons_ap, mkTup_ap, mkLst_ap, asB_bl, tv_ap, tnot_ap, tand_ap, tor_ap, vand_ap, vor_ap, vnot_ap, vif_ap, vchain_ap, sasg_ap, sown_ap, sif_ap, sret_ap, sexp_ap, snx_ap, sseq_ap, spar_ap, stg_ap, gnm_ap, gnil_ap, gcons_ap, gtp_ap, call_ap, doF_ok, doF_exn, callB_ap, apk_ap, doFB_ok, isOwn_ap, callI_ap, doI_ap, putOwn_ap, setD_ap, sset_ap, isLst_ap, mutl_ap, mutm_ap, sraise_ap, slcL_ap, slc_ap, pno_ap, psome_ap, unN_ap, iseq_ap, irng1_ap, irng2_ap, lrng_ap, gAdd_int, gInt_ap, at0, at1, at2, at3, gIx_lst, gIx_tup, gIx_scr, gLen_lst, gLen_tup, gLen_scr, gToInt_int, List.getElem?_cons_zero, List.getElem?_cons_succ, List.set_cons_zero, List.set_cons_succ, List.length_cons, List.length_nil, ite_true, ite_false, if_true, if_false, Bool.true_and, Bool.and_true, Bool.false_and, Bool.and_false, decide_true, decide_false, Option.map_some, Option.map_none, Bool.not_true, Bool.not_false, reduceIte, Nat.reduceAdd, Nat.reduceLeDiff, Bool.false_eq_true, Bool.true_eq_false, Bool.false_or, Bool.true_or, Bool.or_false, Bool.or_true, hr]
      rfl
    have hi : gInsert (.lst (L.map fr)) [.int ((L.filter fun o => !lt x o).length : Nat), fr x] = some (.non, .lst ((ins x L).map fr)) := by
      have hf := List.length_filter_le (fun o => !lt x o) L
      rw [gInsert_ap (by rw [List.length_map]; have : LIM = 1000000 := rfl; omega) (by omega) (small_of (by omega) (by omega))]
      congr 3
      unfold ins
      rw [List.map_append, List.map_append, List.map_take, List.map_drop]
      rfl
    have e2 : forL (xs.map fr) (gnm 2) (sseq (sasg 3 (un gLen (lcompB 1 (gnm 6) (tnot (tv (call R_is_less (acons (rd 2) (acons (rd 6) anil))))) (rd 6) [6]))) (sexp (mutl 1 gInsert (acons (rd 3) (acons (rd 2) anil)))))
      [a0, .own (.lst ((ins x L).map fr)), .val (fr x), .val (.int ((L.filter fun o => !lt x o).length : Nat)), u4, u5, .un] = .nx [a0, .own (.lst ((srt L (x :: xs)).map fr)), z2', z3', u4, u5, .un] := e
    simp only [bind_ok, bind_exn, bind_bad, s_ok, s_exn, s_bad, rd_ap, pk_ap, cst_ap, lift_some, lift_none, bin_ap, has_ap, binL_ap, un_ap, anil_ap, acons_ap, mkTup_ap, mkLst_ap, asB_bl, tv_ap, tnot_ap, tand_ap, tor_ap, vand_ap, vor_ap, vnot_ap, vif_ap, vchain_ap, sasg_ap, sown_ap, sif_ap, sret_ap, sexp_ap, snx_ap, sseq_ap, spar_ap, stg_ap, gnm_ap, gnil_ap, gcons_ap, gtp_ap, call_ap, doF_ok, doF_exn, callB_ap, apk_ap, doFB_ok, isOwn_ap, callI_ap, doI_ap, putOwn_ap, setD_ap, sset_ap, isLst_ap, mutl_ap, mutm_ap, sraise_ap, slcL_ap, slc_ap, pno_ap, psome_ap, unN_ap, iseq_ap, irng1_ap, irng2_ap, lrng_ap, gAdd_int, gInt_ap, at0, at1, at2, at3, gIx_lst, gIx_tup, gIx_scr, gLen_lst, gLen_tup, gLen_scr, gToInt_int, List.getElem?_cons_zero, List.getElem?_cons_succ, List.set_cons_zero, List.set_cons_succ, List.length_cons, List.length_nil, ite_true, ite_false, if_true, if_false, Bool.true_and, Bool.and_true, Bool.false_and, Bool.and_false, decide_true, decide_false, Option.map_some, Option.map_none, Bool.not_true, Bool.not_false, reduceIte, Nat.reduceAdd, Nat.reduceLeDiff, Bool.false_eq_true, Bool.true_eq_false, Bool.false_or, Bool.true_or, Bool.or_false, Bool.or_true, lc, List.length_map, hi, e2]
theorem gSl_tail {x : D} {xs : List D} : gSl (some 1) none (.lst (x :: xs)) = some (.lst xs) := by
  show some (D.lst (cut (x :: xs) (some 1) none)) = _
  rw [cut_tail]
/-- the middle of a sorted row -/
def mid (L : List (Int × Int)) : Int × Int := let f := L.getD ((L.length - 1) / 2) (0, 1); let s := L.getD (L.length / 2) (0, 1); let h := red (f.1 * s.2 + s.1 * f.2) (f.2 * s.2); red (h.1 * 1) (h.2 * 2)
theorem atI_of {α : Type} {xs : List α} {z : Int} {i : Nat} {x : α} (e : z = (i : Int)) (h : xs[i]? = some x) : atI xs z = some x := by
  subst e
  have := atI_nat h
  rwa [Int.zero_add] at this
theorem r_median {x : Int × Int} {xs : List (Int × Int)} {k : Nat} (hk : k < 3000) (hg : Gd k (x :: xs)) (hl : xs.length ≤ 900) : R_median [.lst ((x :: xs).map fr)] = .ok (fr (mid (srt [x] xs))) .non := by
  obtain ⟨x0, b1, b2⟩ := hg x List.mem_cons_self
  obtain ⟨z2, z3, e⟩ := med_loop (a0 := .val (.lst ((x :: xs).map fr))) (u4 := .un) (u5 := .un) (k := k) (by omega) xs [x] .un .un (fun y hy => hg y (List.mem_cons_of_mem _ hy)) (fun y hy => by
    rw [List.mem_singleton] at hy; subst hy; exact hg y List.mem_cons_self) (by simp; omega)
  have hp := srt_perm xs [x]
  have hlen : (srt [x] xs).length = xs.length + 1 := by rw [hp.length_eq, List.length_append, List.length_singleton]; omega
  generalize hL : srt [x] xs = L at *
  have hgL : Gd k L := fun y hy => hg y (by have := hp.mem_iff.mp hy; simpa using this)
  have n0 : 0 < L.length := by omega
  have i1 : (L.length - 1) / 2 < L.length := by omega
  have i2 : L.length / 2 < L.length := by omega
  have q1 : L[(L.length - 1) / 2]? = some L[(L.length - 1) / 2] := List.getElem?_eq_getElem i1
  have q2 : L[L.length / 2]? = some L[L.length / 2] := List.getElem?_eq_getElem i2
  obtain ⟨f0, c1, c2⟩ := hgL _ (List.getElem_mem i1)
  obtain ⟨s0, c3, c4⟩ := hgL _ (List.getElem_mem i2)
  have a1 : atI (L.map fr) (((L.length : Int) - 1) / 2) = some (fr L[(L.length - 1) / 2]) := atI_of (i := (L.length - 1) / 2) (by omega) (by rw [List.getElem?_map, q1]; rfl)
  have a2 : atI (L.map fr) ((L.length : Int) / 2) = some (fr L[L.length / 2]) := atI_of (i := L.length / 2) (by omega) (by rw [List.getElem?_map, q2]; rfl)
  have d2 : ∀ a : Int, gDiv (.int a) (.int 2) = some (.int (a / 2)) := fun a => gDiv_ok (k := 3) (by decide) (by unfold bt; decide) (by decide)
  have hpl := r_plus f0 s0 c1 c2 c3 c4 (by omega)
  have h0 : 0 < (red (L[(L.length - 1) / 2].1 * L[L.length / 2].2 + L[L.length / 2].1 * L[(L.length - 1) / 2].2) (L[(L.length - 1) / 2].2 * L[L.length / 2].2)).2 := red_pos (Int.mul_pos f0 s0)
  have htm := r_times (x := red (L[(L.length - 1) / 2].1 * L[L.length / 2].2 + L[L.length / 2].1 * L[(L.length - 1) / 2].2) (L[(L.length - 1) / 2].2 * L[L.length / 2].2)) (y := (1, 2)) (j := k + k + 1) (k := 3) h0 (by decide)
    ((red_bt (Int.mul_pos f0 s0) ((c1.mul c4).add (c3.mul c2))).le (by omega)) ((red_bt2 (Int.mul_pos f0 s0) (c2.mul c4)).le (by omega)) (by unfold bt; decide) (by unfold bt; decide) (by omega)
  have hm : mid L = red ((red (L[(L.length - 1) / 2].1 * L[L.length / 2].2 + L[L.length / 2].1 * L[(L.length - 1) / 2].2) (L[(L.length - 1) / 2].2 * L[L.length / 2].2)).1 * 1) ((red (L[(L.length - 1) / 2].1 * L[L.length / 2].2 + L[L.length / 2].1 * L[(L.length - 1) / 2].2) (L[(L.length - 1) / 2].2 * L[L.length / 2].2)).2 * 2) := by
    unfold mid
    simp only [List.getD_eq_getElem?_getD, q1, q2, Option.getD_some]
  have l1 : (1 : Nat) ≤ LIM := by decide
  have l2 : (2 : Nat) ≤ LIM := by decide
  have e12 : D.tup [.int 1, .int 2] = fr (1, 2) := rfl
  have e' : forL (xs.map fr) (gnm 2) (sseq (sasg 3 (un gLen (lcompB 1 (gnm 6) (tnot (tv (call R_is_less (acons (rd 2) (acons (rd 6) anil))))) (rd 6) [6]))) (sexp (mutl 1 gInsert (acons (rd 3) (acons (rd 2) anil)))))
      [.val (.lst (fr x :: xs.map fr)), .own (.lst [fr x]), .un, .un, .un, .un, .un] = .nx [.val (.lst (fr x :: xs.map fr)), .own (.lst (L.map fr)), z2, z3, .un, .un, .un] := e
  show runP 7 1 b_median _ = _
  rw [runP1, hm]
  unfold b_median
  simp only [bind_ok, bind_exn, bind_bad, s_ok, s_exn, s_bad, rd_ap, pk_ap, cst_ap, lift_some, lift_none, bin_ap, has_ap, binL_ap, un_ap, anil_ap, acons_ap, mkTup_ap, mkLst_ap, asB_bl, tv_ap, tnot_ap, tand_ap, tor_ap, vand_ap, vor_ap, vnot_ap, vif_ap, vchain_ap, sasg_ap, sown_ap, sif_ap, sret_ap, sexp_ap, snx_ap, sseq_ap, spar_ap, stg_ap, gnm_ap, gnil_ap, gcons_ap, gtp_ap, call_ap, doF_ok, doF_exn, callB_ap, apk_ap, doFB_ok, isOwn_ap, callI_ap, doI_ap, putOwn_ap, setD_ap, sset_ap, isLst_ap, mutl_ap, mutm_ap, sraise_ap, slcL_ap, slc_ap, pno_ap, psome_ap, unN_ap, iseq_ap, irng1_ap, irng2_ap, lrng_ap, gAdd_int, gInt_ap, at0, at1, at2, at3, gIx_lst, gIx_tup, gIx_scr, gLen_lst, gLen_tup, gLen_scr, gToInt_int, List.getElem?_cons_zero, List.getElem?_cons_succ, List.set_cons_zero, List.set_cons_succ, List.length_cons, List.length_nil, ite_true, ite_false, if_true, if_false, Bool.true_and, Bool.and_true, Bool.false_and, Bool.and_false, decide_true, decide_false, Option.map_some, Option.map_none, Bool.not_true, Bool.not_false, reduceIte, Nat.reduceAdd, Nat.reduceLeDiff, Bool.false_eq_true, Bool.true_eq_false, Bool.false_or, Bool.true_or, Bool.or_false, Bool.or_true, List.map_cons, List.map_nil, List.cons_append, List.nil_append, List.replicate, Nat.reduceSub, sfor_ap, gSeq_lst, l1, l2, gSl_tail, e', List.length_map, d2, a1, a2, hpl, e12, htm]
/-! what the middle is -/
theorem flt_drop {α : Type} {p : α → Bool} {L : List α} {j : Nat} (h : ∀ x ∈ L.drop j, p x = false) : (L.filter p).length ≤ j := by
  have e : L.filter p = (L.take j).filter p ++ (L.drop j).filter p := by rw [← List.filter_append, List.take_append_drop]
  have e2 : (L.drop j).filter p = [] := List.filter_eq_nil_iff.mpr fun x hx => by rw [h x hx]; decide
  rw [e, e2, List.append_nil]
  exact Nat.le_trans (List.length_filter_le _ _) (List.length_take_le _ _)
theorem flt_take {α : Type} {p : α → Bool} {L : List α} {j : Nat} (h : ∀ x ∈ L.take j, p x = false) : (L.filter p).length ≤ L.length - j := by
  have e : L.filter p = (L.take j).filter p ++ (L.drop j).filter p := by rw [← List.filter_append, List.take_append_drop]
  have e2 : (L.take j).filter p = [] := List.filter_eq_nil_iff.mpr fun x hx => by rw [h x hx]; decide
  rw [e, e2, List.nil_append]
  refine Nat.le_trans (List.length_filter_le _ _) ?_
  rw [List.length_drop]
  exact Nat.le_refl _
theorem red_cross {t b : Int} : (red t b).1 * b = t * (red t b).2 := by
  have h1 := red_l t b
  have h2 := red_r t b
  generalize (red t b).1 = u at *
  generalize (red t b).2 = v at *
  generalize gc t b = g at *
  subst h1
  grind
theorem mid_is {L : List (Int × Int)} {f s : Int × Int} (hf : pos f) (hs : pos s) (q1 : L[(L.length - 1) / 2]? = some f) (q2 : L[L.length / 2]? = some s) : mid L = red (f.1 * s.2 + s.1 * f.2) (f.2 * s.2 * 2) := by
  have hD : 0 < f.2 * s.2 := Int.mul_pos hf hs
  have g0 := gc_pos (t := f.1 * s.2 + s.1 * f.2) hD
  unfold mid
  simp only [List.getD_eq_getElem?_getD, q1, q2, Option.getD_some]
  have h1 := red_l (f.1 * s.2 + s.1 * f.2) (f.2 * s.2)
  have h2 := red_r (f.1 * s.2 + s.1 * f.2) (f.2 * s.2)
  rw [← red_mul (t := (red (f.1 * s.2 + s.1 * f.2) (f.2 * s.2)).1 * 1) (b := (red (f.1 * s.2 + s.1 * f.2) (f.2 * s.2)).2 * 2) g0]
  congr 1
  · rw [Int.mul_one, Int.mul_comm]; exact h1
  · rw [← Int.mul_assoc, Int.mul_comm (gc _ _)]; exact congrArg (· * 2) h2
theorem le_refl' (x : Int × Int) : le x x := Int.le_refl _
theorem mid_le {f s : Int × Int} (hf : pos f) (hs : pos s) (h : le f s) : pos (red (f.1 * s.2 + s.1 * f.2) (f.2 * s.2 * 2)) ∧ le f (red (f.1 * s.2 + s.1 * f.2) (f.2 * s.2 * 2)) ∧ le (red (f.1 * s.2 + s.1 * f.2) (f.2 * s.2 * 2)) s := by
  have hD : 0 < f.2 * s.2 * 2 := Int.mul_pos (Int.mul_pos hf hs) (by decide)
  have hm : pos (red (f.1 * s.2 + s.1 * f.2) (f.2 * s.2 * 2)) := red_pos hD
  have cr := red_cross (t := f.1 * s.2 + s.1 * f.2) (b := f.2 * s.2 * 2)
  have e1 : le (red (f.1 * s.2 + s.1 * f.2) (f.2 * s.2 * 2)) (f.1 * s.2 + s.1 * f.2, f.2 * s.2 * 2) := Int.le_of_eq cr
  have e2 : le (f.1 * s.2 + s.1 * f.2, f.2 * s.2 * 2) (red (f.1 * s.2 + s.1 * f.2) (f.2 * s.2 * 2)) := Int.le_of_eq cr.symm
  have hd : pos (f.1 * s.2 + s.1 * f.2, f.2 * s.2 * 2) := hD
  have f1 : le f (f.1 * s.2 + s.1 * f.2, f.2 * s.2 * 2) := by
    have z : (f.1 * s.2 + f.1 * s.2) * f.2 ≤ (f.1 * s.2 + s.1 * f.2) * f.2 := Int.mul_le_mul_of_nonneg_right (by have h' : f.1 * s.2 ≤ s.1 * f.2 := h; omega) (Int.le_of_lt hf)
    show f.1 * (f.2 * s.2 * 2) ≤ (f.1 * s.2 + s.1 * f.2) * f.2
    have e : f.1 * (f.2 * s.2 * 2) = (f.1 * s.2 + f.1 * s.2) * f.2 := by grind
    rw [e]; exact z
  have s1 : le (f.1 * s.2 + s.1 * f.2, f.2 * s.2 * 2) s := by
    have z : (f.1 * s.2 + s.1 * f.2) * s.2 ≤ (s.1 * f.2 + s.1 * f.2) * s.2 := Int.mul_le_mul_of_nonneg_right (by have h' : f.1 * s.2 ≤ s.1 * f.2 := h; omega) (Int.le_of_lt hs)
    show (f.1 * s.2 + s.1 * f.2) * s.2 ≤ s.1 * (f.2 * s.2 * 2)
    have e : s.1 * (f.2 * s.2 * 2) = (s.1 * f.2 + s.1 * f.2) * s.2 := by grind
    rw [e]; exact z
  exact ⟨hm, le_tr hf hd hm f1 e2, le_tr hm hd hs e1 s1⟩
/-- what the law asks of the middle -/
theorem mid_law {L : List (Int × Int)} (n0 : 0 < L.length) (hp : ∀ y ∈ L, pos y) (hs : L.Pairwise le) (hr : ∀ y ∈ L, red y.1 y.2 = y) :
    2 * (L.filter fun x => lt x (mid L)).length ≤ L.length ∧ 2 * (L.filter fun x => lt (mid L) x).length ≤ L.length ∧ (L.length % 2 = 1 → mid L ∈ L) ∧ pos (mid L) := by
  have i1 : (L.length - 1) / 2 < L.length := by omega
  have i2 : L.length / 2 < L.length := by omega
  have q1 : L[(L.length - 1) / 2]? = some L[(L.length - 1) / 2] := List.getElem?_eq_getElem i1
  have q2 : L[L.length / 2]? = some L[L.length / 2] := List.getElem?_eq_getElem i2
  have hf := hp _ (List.getElem_mem i1)
  have hs2 := hp _ (List.getElem_mem i2)
  have hm := mid_is hf hs2 q1 q2
  have sorted : ∀ (i j : Nat) (hi : i < L.length) (hj : j < L.length), i ≤ j → le L[i] L[j] := fun i j hi hj hij => by
    rcases Nat.lt_or_eq_of_le hij with z | z
    · exact List.pairwise_iff_getElem.mp hs i j hi hj z
    · subst z; exact le_refl' _
  obtain ⟨m0, m1, m2⟩ := mid_le hf hs2 (sorted _ _ i1 i2 (by omega))
  rw [← hm] at m0 m1 m2
  refine ⟨?_, ?_, fun ho => ?_, m0⟩
  · have := flt_drop (L := L) (p := fun x => lt x (mid L)) (j := L.length / 2) fun x hx => by
      obtain ⟨k, hk, e⟩ := List.mem_iff_getElem.mp hx
      rw [List.getElem_drop] at e
      rw [List.length_drop] at hk
      have hk' : L.length / 2 + k < L.length := by omega
      refine lt_false.mpr ?_
      rw [← e]
      exact le_tr m0 hs2 (hp _ (List.getElem_mem hk')) m2 (sorted _ _ i2 hk' (by omega))
    omega
  · have := flt_take (L := L) (p := fun x => lt (mid L) x) (j := (L.length - 1) / 2 + 1) fun x hx => by
      obtain ⟨k, hk, e⟩ := List.mem_iff_getElem.mp hx
      rw [List.getElem_take] at e
      rw [List.length_take] at hk
      have hk' : k < L.length := by omega
      refine lt_false.mpr ?_
      rw [← e]
      exact le_tr (hp _ (List.getElem_mem hk')) hf m0 (sorted _ _ hk' i1 (by omega)) m1
    omega
  · have e : L.length / 2 = (L.length - 1) / 2 := by omega
    have q3 : L[L.length / 2]? = some L[(L.length - 1) / 2] := by rw [e]; exact q1
    have hm2 := mid_is hf hf q1 q3
    rw [hm2]
    generalize hx : L[(L.length - 1) / 2] = x at *
    have hxm : x ∈ L := by rw [← hx]; exact List.getElem_mem i1
    have : red (x.1 * x.2 + x.1 * x.2) (x.2 * x.2 * 2) = red x.1 x.2 := red_of (x := (x.1 * x.2 + x.1 * x.2, x.2 * x.2 * 2)) (y := x) (Int.mul_pos (Int.mul_pos hf hf) (by decide)) hf (by
      show (x.1 * x.2 + x.1 * x.2) * x.2 = x.1 * (x.2 * x.2 * 2)
      grind)
    rw [this, hr x hxm]
    exact hxm
/-! ### the law's own parts -/
theorem taken_eq : R__law_taken = takenF := rfl
theorem alike_eq : ∀ n, R__law_alike n = alikeF n
  | 0 => rfl
  | n + 1 => by
    show runP 3 2 (b__law_alike (R__law_alike n)) = runP 3 2 (alikeB (alikeF n))
    rw [alike_eq n]; rfl
theorem r_truth {x : Bool} : R__law_truth [.bl x, .bl x] = .ok (.bl true) .non := by
  cases x <;> rfl
theorem fr_okl (x : Int × Int) : okl 1 (fr x) = true := rfl
theorem alike_fr (x : Int × Int) : R__law_alike 24 [fr x, fr x] = .ok (.bl true) .non := by
  rw [alike_eq]; exact alike_refl 1 24 _ (fr_okl x) (by decide) (by decide)
theorem alike_ok {d : D} (h : okl 5 d = true) : R__law_alike 24 [d, d] = .ok (.bl true) .non := by
  rw [alike_eq]; exact alike_refl 5 24 _ h (by decide) (by decide)
theorem gMax_ok {ns : List Int} {m : Int} (h : m ∈ ns) (hm : ∀ y ∈ ns, y ≤ m) : gMax (.lst (ns.map D.int)) = some (.int m) := by
  show (toInts (ns.map D.int)).bind (fun ns => if ns = [] then none else some (D.int (maxL ns))) = _
  rw [toInts_map]
  show (if ns = [] then none else some (D.int (maxL ns))) = _
  rw [if_neg (by intro z; subst z; cases h), maxL_spec h hm]
theorem gMin_ok {ns : List Int} {m : Int} (h : m ∈ ns) (hm : ∀ y ∈ ns, m ≤ y) : gMin (.lst (ns.map D.int)) = some (.int m) := by
  show (toInts (ns.map D.int)).bind (fun ns => if ns = [] then none else some (D.int (minL ns))) = _
  rw [toInts_map]
  show (if ns = [] then none else some (D.int (minL ns))) = _
  rw [if_neg (by intro z; subst z; cases h), minL_spec h hm]
theorem w_is {v : Int} (h1 : -61 ≤ v) (h2 : v ≤ 61) : ∃ i ∈ List.range 123, -61 + ((i : Nat) : Int) = v := ⟨(v + 61).toNat, List.mem_range.mpr (by omega), by omega⟩
theorem pick_max {p : Nat → Bool} {v : Int} (h1 : -61 ≤ v) (h2 : v ≤ 61) (hp : ∀ i : Nat, -61 + (i : Int) = v → p i = true) (hm : ∀ i : Nat, p i = true → -61 + (i : Int) ≤ v) : gMax (.lst (((List.range 123).filter p).map fun (i : Nat) => D.int (-61 + (i : Int)))) = some (.int v) := by
  have e : ((List.range 123).filter p).map (fun (i : Nat) => D.int (-61 + (i : Int))) = (((List.range 123).filter p).map fun i => -61 + ((i : Nat) : Int)).map D.int := by rw [List.map_map]; rfl
  rw [e]
  obtain ⟨i, hi, ei⟩ := w_is h1 h2
  refine gMax_ok (List.mem_map.mpr ⟨i, List.mem_filter.mpr ⟨hi, hp i ei⟩, ei⟩) fun y hy => ?_
  obtain ⟨k, hk, rfl⟩ := List.mem_map.mp hy
  exact hm k (List.mem_filter.mp hk).2
theorem pick_min {p : Nat → Bool} {v : Int} (h1 : -61 ≤ v) (h2 : v ≤ 61) (hp : ∀ i : Nat, -61 + (i : Int) = v → p i = true) (hm : ∀ i : Nat, p i = true → v ≤ -61 + (i : Int)) : gMin (.lst (((List.range 123).filter p).map fun (i : Nat) => D.int (-61 + (i : Int)))) = some (.int v) := by
  have e : ((List.range 123).filter p).map (fun (i : Nat) => D.int (-61 + (i : Int))) = (((List.range 123).filter p).map fun i => -61 + ((i : Nat) : Int)).map D.int := by rw [List.map_map]; rfl
  rw [e]
  obtain ⟨i, hi, ei⟩ := w_is h1 h2
  refine gMin_ok (List.mem_map.mpr ⟨i, List.mem_filter.mpr ⟨hi, hp i ei⟩, ei⟩) fun y hy => ?_
  obtain ⟨k, hk, rfl⟩ := List.mem_map.mp hy
  exact hm k (List.mem_filter.mp hk).2
theorem wh_is {r : List Sl} : lrng (un gNeg (cst (.int 61))) (cst (.int 62)) r = .ok (.lst ((List.range 123).map fun (i : Nat) => D.int (-61 + (i : Int)))) r := rfl
section
variable {a0 a1 a4 a5 a6 a7 a9 a10 a11 a12 a13 a14 a15 a16 a17 : Sl} {a b : Int}
/-- the frame while the wholes are walked -/
def fw (a0 a1 a4 a5 a6 a7 a9 a10 a11 a12 a13 a14 a15 a16 a17 : Sl) (a b : Int) : List Sl := [a0, a1, .val (.int a), .val (.int b), a4, a5, a6, a7, .val (.lst ((List.range 123).map fun (i : Nat) => D.int (-61 + (i : Int)))), a9, a10, a11, a12, a13, a14, a15, a16, a17, .un]
theorem wb {i : Nat} (hi : i ∈ List.range 123) : bt 10 (-61 + (i : Int)) := by
  have := List.mem_range.mp hi
  unfold bt; omega
theorem c_le (hb : bt 10 b) : lcomp (iseq (rd 8)) (gnm 18) (tv (bin gLe (bin gMulI (rd 18) (pk 3)) (pk 2))) (rd 18) [18] (fw a0 a1 a4 a5 a6 a7 a9 a10 a11 a12 a13 a14 a15 a16 a17 a b) = .ok (.lst (((List.range 123).filter fun (i : Nat) => decide ((-61 + (i : Int)) * b ≤ a)).map fun (i : Nat) => D.int (-61 + (i : Int)))) (fw a0 a1 a4 a5 a6 a7 a9 a10 a11 a12 a13 a14 a15 a16 a17 a b) :=
  lcomp_pure (φ := fun (i : Nat) => D.int (-61 + (i : Int))) (p := fun (i : Nat) => decide ((-61 + (i : Int)) * b ≤ a)) (f := fun (i : Nat) => D.int (-61 + (i : Int))) (List.range 123) rfl rfl (by rw [List.length_range]; decide) (fun i hi => by
    have m := gMulI_ok (wb hi) hb (by decide)
    unfold fw
    simp only [bind_ok, bind_exn, bind_bad, s_ok, s_exn, s_bad, rd_ap, pk_ap, cst_ap, lift_some, lift_none, bin_ap, has_ap, binL_ap, un_ap, anil_ap, acons_ap, mkTup_ap, mkLst_ap, asB_bl, tv_ap, tnot_ap, tand_ap, tor_ap, vand_ap, vor_ap, vnot_ap, vif_ap, vchain_ap, sasg_ap, sown_ap, sif_ap, sret_ap, sexp_ap, snx_ap, sseq_ap, spar_ap, stg_ap, gnm_ap, gnil_ap, gcons_ap, gtp_ap, call_ap, doF_ok, doF_exn, callB_ap, apk_ap, doFB_ok, isOwn_ap, callI_ap, doI_ap, putOwn_ap, setD_ap, sset_ap, isLst_ap, mutl_ap, mutm_ap, sraise_ap, slcL_ap, slc_ap, pno_ap, psome_ap, unN_ap, iseq_ap, irng1_ap, irng2_ap, lrng_ap, gAdd_int, gInt_ap, at0, at1, at2, at3, gIx_lst, gIx_tup, gIx_scr, gLen_lst, gLen_tup, gLen_scr, gToInt_int, List.getElem?_cons_zero, List.getElem?_cons_succ, List.set_cons_zero, List.set_cons_succ, List.length_cons, List.length_nil, ite_true, ite_false, if_true, if_false, Bool.true_and, Bool.and_true, Bool.false_and, Bool.and_false, decide_true, decide_false, Option.map_some, Option.map_none, Bool.not_true, Bool.not_false, reduceIte, Nat.reduceAdd, Nat.reduceLeDiff, Bool.false_eq_true, Bool.true_eq_false, Bool.false_or, Bool.true_or, Bool.or_false, Bool.or_true, m]) fun i hi _ => rfl
theorem c_ge (hb : bt 10 b) : lcomp (iseq (rd 8)) (gnm 18) (tv (bin gGe (bin gMulI (rd 18) (pk 3)) (pk 2))) (rd 18) [18] (fw a0 a1 a4 a5 a6 a7 a9 a10 a11 a12 a13 a14 a15 a16 a17 a b) = .ok (.lst (((List.range 123).filter fun (i : Nat) => decide (a ≤ (-61 + (i : Int)) * b)).map fun (i : Nat) => D.int (-61 + (i : Int)))) (fw a0 a1 a4 a5 a6 a7 a9 a10 a11 a12 a13 a14 a15 a16 a17 a b) :=
  lcomp_pure (φ := fun (i : Nat) => D.int (-61 + (i : Int))) (p := fun (i : Nat) => decide (a ≤ (-61 + (i : Int)) * b)) (f := fun (i : Nat) => D.int (-61 + (i : Int))) (List.range 123) rfl rfl (by rw [List.length_range]; decide) (fun i hi => by
    have m := gMulI_ok (wb hi) hb (by decide)
    unfold fw
    simp only [bind_ok, bind_exn, bind_bad, s_ok, s_exn, s_bad, rd_ap, pk_ap, cst_ap, lift_some, lift_none, bin_ap, has_ap, binL_ap, un_ap, anil_ap, acons_ap, mkTup_ap, mkLst_ap, asB_bl, tv_ap, tnot_ap, tand_ap, tor_ap, vand_ap, vor_ap, vnot_ap, vif_ap, vchain_ap, sasg_ap, sown_ap, sif_ap, sret_ap, sexp_ap, snx_ap, sseq_ap, spar_ap, stg_ap, gnm_ap, gnil_ap, gcons_ap, gtp_ap, call_ap, doF_ok, doF_exn, callB_ap, apk_ap, doFB_ok, isOwn_ap, callI_ap, doI_ap, putOwn_ap, setD_ap, sset_ap, isLst_ap, mutl_ap, mutm_ap, sraise_ap, slcL_ap, slc_ap, pno_ap, psome_ap, unN_ap, iseq_ap, irng1_ap, irng2_ap, lrng_ap, gAdd_int, gInt_ap, at0, at1, at2, at3, gIx_lst, gIx_tup, gIx_scr, gLen_lst, gLen_tup, gLen_scr, gToInt_int, List.getElem?_cons_zero, List.getElem?_cons_succ, List.set_cons_zero, List.set_cons_succ, List.length_cons, List.length_nil, ite_true, ite_false, if_true, if_false, Bool.true_and, Bool.and_true, Bool.false_and, Bool.and_false, decide_true, decide_false, Option.map_some, Option.map_none, Bool.not_true, Bool.not_false, reduceIte, Nat.reduceAdd, Nat.reduceLeDiff, Bool.false_eq_true, Bool.true_eq_false, Bool.false_or, Bool.true_or, Bool.or_false, Bool.or_true, m]) fun i hi _ => rfl
theorem c_nr (ha : bt 10 a) (hb : bt 10 b) : lcomp (iseq (rd 8)) (gnm 18) (tv (bin gLe (bin gMulI (bin gSub (bin gMulI (cst (.int 2)) (pk 18)) (cst (.int 1))) (pk 3)) (bin gMulI (cst (.int 2)) (pk 2)))) (rd 18) [18] (fw a0 a1 a4 a5 a6 a7 a9 a10 a11 a12 a13 a14 a15 a16 a17 a b) = .ok (.lst (((List.range 123).filter fun (i : Nat) => decide ((2 * (-61 + (i : Int)) - 1) * b ≤ 2 * a)).map fun (i : Nat) => D.int (-61 + (i : Int)))) (fw a0 a1 a4 a5 a6 a7 a9 a10 a11 a12 a13 a14 a15 a16 a17 a b) :=
  lcomp_pure (φ := fun (i : Nat) => D.int (-61 + (i : Int))) (p := fun (i : Nat) => decide ((2 * (-61 + (i : Int)) - 1) * b ≤ 2 * a)) (f := fun (i : Nat) => D.int (-61 + (i : Int))) (List.range 123) rfl rfl (by rw [List.length_range]; decide) (fun i hi => by
    have c2 : bt 2 (2 : Int) := by unfold bt; decide
    have c1 : bt 2 (1 : Int) := by unfold bt; decide
    have m0 := gMulI_ok c2 (wb hi) (by decide)
    have m1 := gMulI_ok ((c2.mul (wb hi)).sub c1) hb (by decide)
    have m2 := gMulI_ok c2 ha (by decide)
    unfold fw
    simp only [bind_ok, bind_exn, bind_bad, s_ok, s_exn, s_bad, rd_ap, pk_ap, cst_ap, lift_some, lift_none, bin_ap, has_ap, binL_ap, un_ap, anil_ap, acons_ap, mkTup_ap, mkLst_ap, asB_bl, tv_ap, tnot_ap, tand_ap, tor_ap, vand_ap, vor_ap, vnot_ap, vif_ap, vchain_ap, sasg_ap, sown_ap, sif_ap, sret_ap, sexp_ap, snx_ap, sseq_ap, spar_ap, stg_ap, gnm_ap, gnil_ap, gcons_ap, gtp_ap, call_ap, doF_ok, doF_exn, callB_ap, apk_ap, doFB_ok, isOwn_ap, callI_ap, doI_ap, putOwn_ap, setD_ap, sset_ap, isLst_ap, mutl_ap, mutm_ap, sraise_ap, slcL_ap, slc_ap, pno_ap, psome_ap, unN_ap, iseq_ap, irng1_ap, irng2_ap, lrng_ap, gAdd_int, gInt_ap, at0, at1, at2, at3, gIx_lst, gIx_tup, gIx_scr, gLen_lst, gLen_tup, gLen_scr, gToInt_int, List.getElem?_cons_zero, List.getElem?_cons_succ, List.set_cons_zero, List.set_cons_succ, List.length_cons, List.length_nil, ite_true, ite_false, if_true, if_false, Bool.true_and, Bool.and_true, Bool.false_and, Bool.and_false, decide_true, decide_false, Option.map_some, Option.map_none, Bool.not_true, Bool.not_false, reduceIte, Nat.reduceAdd, Nat.reduceLeDiff, Bool.false_eq_true, Bool.true_eq_false, Bool.false_or, Bool.true_or, Bool.or_false, Bool.or_true, m0, m1, m2]) fun i hi _ => rfl
end
/-! ### the rows -/
def Pt (k : Int) (x : Int × Int) : Prop := 0 < x.2 ∧ x.2 ≤ k ∧ bt 12 x.1 ∧ bt 12 x.2 ∧ red x.1 x.2 = x
theorem pt_red {t b k : Int} (hb : 0 < b) (hk : b ≤ k) (hk2 : k ≤ 60) (ht : -60 ≤ t ∧ t ≤ 60) : Pt k (red t b) :=
  ⟨red_pos hb, Int.le_trans (red_le hb) hk, red_bt hb (by unfold bt; omega), red_bt2 hb (by unfold bt; omega), red_red hb⟩
theorem all_fr {k : Int} : ∀ {ys : List D}, (∀ y ∈ ys, ∃ x, Pt k x ∧ y = fr x) → ∃ xs : List (Int × Int), ys = xs.map fr ∧ ∀ x ∈ xs, Pt k x
  | [], _ => ⟨[], rfl, fun x hx => nomatch hx⟩
  | y :: ys, h => by
    obtain ⟨x, px, rfl⟩ := h y List.mem_cons_self
    obtain ⟨xs, rfl, pxs⟩ := all_fr (ys := ys) fun z hz => h z (List.mem_cons_of_mem _ hz)
    exact ⟨x :: xs, rfl, fun z hz => by
      rcases List.mem_cons.mp hz with q | q
      · subst q; exact px
      · exact pxs z q⟩
section
variable {a0 a2 a3 a4 a5 a6 a7 a8 a9 a10 a11 a12 a13 a14 a15 a16 a17 : Sl} {ns : List Int}
theorem draw_rows {p s t : Int} (ok : OkR p s t) : ∃ (p' s' t' : Int) (xs : List (Int × Int)), OkR p' s' t' ∧ xs.length ≤ 4 ∧ (∀ x ∈ xs, Pt 6 x) ∧
    (lcomp (irng1 (callI 1 R__law_taken (acons (cst (.int 5)) anil))) (gnm 18) tyes (call R_reduced (acons (bin gSub (callI 1 R__law_taken (acons (cst (.int 40)) anil)) (cst (.int 20))) (acons (bin gAdd (cst (.int 1)) (callI 1 R__law_taken (acons (cst (.int 6)) anil))) anil))) [18]) [a0, .own (rowD ns p s t), a2, a3, a4, a5, a6, a7, a8, a9, a10, a11, a12, a13, a14, a15, a16, a17, .un] = .ok (.lst (xs.map fr)) [a0, .own (rowD ns p' s' t'), a2, a3, a4, a5, a6, a7, a8, a9, a10, a11, a12, a13, a14, a15, a16, a17, .un] := by
  obtain ⟨n, p1, s1, t1, e1, ok1, n0, n5⟩ := taken_ok (ns := ns) (m := 5) ok (by decide) (by unfold bt; decide)
  obtain ⟨ys, st, okst, hl, hq, e⟩ := lcL_ex (v := 18) (ft := tyes) (fe := call R_reduced (acons (bin gSub (callI 1 R__law_taken (acons (cst (.int 40)) anil)) (cst (.int 20))) (acons (bin gAdd (cst (.int 1)) (callI 1 R__law_taken (acons (cst (.int 6)) anil))) anil))) (σ := Int × Int × Int)
    (fun st => [a0, .own (rowD ns st.1 st.2.1 st.2.2), a2, a3, a4, a5, a6, a7, a8, a9, a10, a11, a12, a13, a14, a15, a16, a17, .un]) (fun st => OkR st.1 st.2.1 st.2.2) (fun y => ∃ x, Pt 6 x ∧ y = fr x) (rngL 0 n) [] (p1, s1, t1) (fun d _ st hst => by
      obtain ⟨x, p2, s2, t2, e2, ok2, x0, x1⟩ := taken_ok (ns := ns) (m := 40) hst (by decide) (by unfold bt; decide)
      obtain ⟨y, p3, s3, t3, e3, ok3, y0, y1⟩ := taken_ok (ns := ns) (m := 6) ok2 (by decide) (by unfold bt; decide)
      have hr := r_reduced (t := x - 20) (b := 1 + y) (k := 12) (by omega) (by unfold bt; omega) (by decide)
      refine ⟨fr (red (x - 20) (1 + y)), (p3, s3, t3), ok3, ⟨_, pt_red (by omega) (by omega) (by decide) ⟨by omega, by omega⟩, rfl⟩, rfl, ?_⟩
      rw [taken_eq]
      have gs : gSub (.int x) (.int 20) = some (.int (x - 20)) := rfl
      simp only [bind_ok, bind_exn, bind_bad, s_ok, s_exn, s_bad, rd_ap, pk_ap, cst_ap, lift_some, lift_none, bin_ap, has_ap, binL_ap, un_ap, anil_ap, acons_ap, mkTup_ap, mkLst_ap, asB_bl, tv_ap, tnot_ap, tand_ap, tor_ap, vand_ap, vor_ap, vnot_ap, vif_ap, vchain_ap, sasg_ap, sown_ap, sif_ap, sret_ap, sexp_ap, snx_ap, sseq_ap, spar_ap, stg_ap, gnm_ap, gnil_ap, gcons_ap, gtp_ap, call_ap, doF_ok, doF_exn, callB_ap, apk_ap, doFB_ok, isOwn_ap, callI_ap, doI_ap, putOwn_ap, setD_ap, sset_ap, isLst_ap, mutl_ap, mutm_ap, sraise_ap, slcL_ap, slc_ap, pno_ap, psome_ap, unN_ap, iseq_ap, irng1_ap, irng2_ap, lrng_ap, gAdd_int, gInt_ap, at0, at1, at2, at3, gIx_lst, gIx_tup, gIx_scr, gLen_lst, gLen_tup, gLen_scr, gToInt_int, List.getElem?_cons_zero, List.getElem?_cons_succ, List.set_cons_zero, List.set_cons_succ, List.length_cons, List.length_nil, ite_true, ite_false, if_true, if_false, Bool.true_and, Bool.and_true, Bool.false_and, Bool.and_false, decide_true, decide_false, Option.map_some, Option.map_none, Bool.not_true, Bool.not_false, reduceIte, Nat.reduceAdd, Nat.reduceLeDiff, Bool.false_eq_true, Bool.true_eq_false, Bool.false_or, Bool.true_or, Bool.or_false, Bool.or_true, e2, e3, gs, hr]) ok1 (by
      have : LIM = 1000000 := rfl
      have : (rngL 0 n).length = (n - 0).toNat := by rw [rngL_map]; simp
      simp only [List.length_nil]; omega)
  obtain ⟨xs, rfl, px⟩ := all_fr hq
  have hl2 : xs.length = (n - 0).toNat := by
    rw [List.length_map] at hl
    rw [hl, rngL_map]; simp
  refine ⟨st.1, st.2.1, st.2.2, xs, okst, by omega, px, ?_⟩
  have hs : small n = true := small_of (by omega) (by omega)
  have hi : irng1 (callI 1 R__law_taken (acons (cst (.int 5)) anil)) [a0, .own (rowD ns p s t), a2, a3, a4, a5, a6, a7, a8, a9, a10, a11, a12, a13, a14, a15, a16, a17, .un] = .ok (rngL 0 n) [a0, .own (rowD ns p1 s1 t1), a2, a3, a4, a5, a6, a7, a8, a9, a10, a11, a12, a13, a14, a15, a16, a17, .un] := by
    rw [taken_eq]
    simp only [bind_ok, bind_exn, bind_bad, s_ok, s_exn, s_bad, rd_ap, pk_ap, cst_ap, lift_some, lift_none, bin_ap, has_ap, binL_ap, un_ap, anil_ap, acons_ap, mkTup_ap, mkLst_ap, asB_bl, tv_ap, tnot_ap, tand_ap, tor_ap, vand_ap, vor_ap, vnot_ap, vif_ap, vchain_ap, sasg_ap, sown_ap, sif_ap, sret_ap, sexp_ap, snx_ap, sseq_ap, spar_ap, stg_ap, gnm_ap, gnil_ap, gcons_ap, gtp_ap, call_ap, doF_ok, doF_exn, callB_ap, apk_ap, doFB_ok, isOwn_ap, callI_ap, doI_ap, putOwn_ap, setD_ap, sset_ap, isLst_ap, mutl_ap, mutm_ap, sraise_ap, slcL_ap, slc_ap, pno_ap, psome_ap, unN_ap, iseq_ap, irng1_ap, irng2_ap, lrng_ap, gAdd_int, gInt_ap, at0, at1, at2, at3, gIx_lst, gIx_tup, gIx_scr, gLen_lst, gLen_tup, gLen_scr, gToInt_int, List.getElem?_cons_zero, List.getElem?_cons_succ, List.set_cons_zero, List.set_cons_succ, List.length_cons, List.length_nil, ite_true, ite_false, if_true, if_false, Bool.true_and, Bool.and_true, Bool.false_and, Bool.and_false, decide_true, decide_false, Option.map_some, Option.map_none, Bool.not_true, Bool.not_false, reduceIte, Nat.reduceAdd, Nat.reduceLeDiff, Bool.false_eq_true, Bool.true_eq_false, Bool.false_or, Bool.true_or, Bool.or_false, Bool.or_true, e1, hs]
  have e' : lcL (gnm 18) tyes (call R_reduced (acons (bin gSub (callI 1 R__law_taken (acons (cst (.int 40)) anil)) (cst (.int 20))) (acons (bin gAdd (cst (.int 1)) (callI 1 R__law_taken (acons (cst (.int 6)) anil))) anil))) [18] (rngL 0 n) [] (wipeR [a0, .own (rowD ns p1 s1 t1), a2, a3, a4, a5, a6, a7, a8, a9, a10, a11, a12, a13, a14, a15, a16, a17, .un] [18]) = .ok (xs.map fr) [a0, .own (rowD ns st.1 st.2.1 st.2.2), a2, a3, a4, a5, a6, a7, a8, a9, a10, a11, a12, a13, a14, a15, a16, a17, .un] := e
  rw [lcomp_ap, hi, bind_ok, if_pos (show noOwn _ [18] = true from rfl), e']
  rfl
end
/-- nothing, or data -/
def plS : Sl → Bool
  | .un => true
  | .val _ => true
  | _ => false
def dprod (xs : List (Int × Int)) : Int := xs.foldr (fun x y => x.2 * y) 1
theorem dprod_pos : ∀ {xs : List (Int × Int)}, (∀ x ∈ xs, 0 < x.2) → 0 < dprod xs
  | [], _ => by decide
  | x :: xs, h => Int.mul_pos (h x List.mem_cons_self) (dprod_pos fun y hy => h y (List.mem_cons_of_mem _ hy))
theorem dprod_6 : ∀ {xs : List (Int × Int)}, (∀ x ∈ xs, 0 < x.2 ∧ x.2 ≤ 6) → dprod xs ≤ 6 ^ xs.length
  | [], _ => by decide
  | x :: xs, h => by
    have h1 := h x List.mem_cons_self
    have ih := dprod_6 (xs := xs) fun y hy => h y (List.mem_cons_of_mem _ hy)
    have hp := dprod_pos (xs := xs) fun y hy => (h y (List.mem_cons_of_mem _ hy)).1
    show x.2 * dprod xs ≤ 6 ^ (xs.length + 1)
    rw [Int.pow_succ, Int.mul_comm (6 ^ xs.length)]
    exact Int.le_trans (Int.mul_le_mul_of_nonneg_right h1.2 (Int.le_of_lt hp)) (Int.mul_le_mul_of_nonneg_left ih (by decide))
section
variable {a0 a1 a2 a3 a4 a5 a6 a7 a8 a9 a10 a11 a12 a15 a16 a17 a18 : Sl}
theorem whole_loop : ∀ (xs : List (Int × Int)) (w : Int × Int) (z : Sl) (j : Nat), plS z = true → 0 < w.2 → bt j w.1 → bt j w.2 → Gd 12 xs → j + 13 * xs.length < 7000 → w.2 * dprod xs ≤ 100000000 →
    ∃ z', plS z' = true ∧ forL (xs.map fr) (gnm 14) (sasg 13 (call R__law_low (acons (bin gAdd (bin gMulI (binL gIx 13 (cst (.int 0))) (binL gIx 14 (cst (.int 1)))) (bin gMulI (binL gIx 14 (cst (.int 0))) (binL gIx 13 (cst (.int 1))))) (acons (bin gMulI (binL gIx 13 (cst (.int 1))) (binL gIx 14 (cst (.int 1)))) anil)))) [a0, a1, a2, a3, a4, a5, a6, a7, a8, a9, a10, a11, a12, .val (fr w), z, a15, a16, a17, a18] = .nx [a0, a1, a2, a3, a4, a5, a6, a7, a8, a9, a10, a11, a12, .val (fr (tot w xs)), z', a15, a16, a17, a18]
  | [], w, z, j, hz, _, _, _, _, _, _ => ⟨z, hz, rfl⟩
  | x :: xs, w, z, j, hz, hw, b1, b2, hg, hl, hd => by
    obtain ⟨hx, b3, b4⟩ := hg x List.mem_cons_self
    rw [List.length_cons] at hl
    have hdp := dprod_pos (xs := xs) fun y hy => (hg y (List.mem_cons_of_mem _ hy)).1
    have hwx : 0 < w.2 * x.2 := Int.mul_pos hw hx
    have hd' : w.2 * x.2 * dprod xs ≤ 100000000 := by rw [Int.mul_assoc]; exact hd
    have hlow : w.2 * x.2 ≤ 100000000 := by
      have : w.2 * x.2 * 1 ≤ w.2 * x.2 * dprod xs := Int.mul_le_mul_of_nonneg_left hdp (Int.le_of_lt hwx)
      omega
    obtain ⟨z', hz', e⟩ := whole_loop xs (stp w x) (.val (fr x)) (j + 12 + 1) rfl (stp_pos hw hx) (stp_b1 hw hx b1 b2 b3 b4) (stp_b2 hw hx b2 b4) (fun y hy => hg y (List.mem_cons_of_mem _ hy)) (by omega)
      (Int.le_trans (Int.mul_le_mul_of_nonneg_right (red_le hwx) (Int.le_of_lt hdp)) hd')
    have hp := r_low (t := w.1 * x.2 + x.1 * w.2) hwx hlow
    have m1 := gMulI_ok b1 b4 (by omega)
    have m2 := gMulI_ok b3 b2 (by omega)
    have m3 := gMulI_ok b2 b4 (by omega)
    refine ⟨z', hz', ?_⟩
    rw [List.map_cons, forL_cons]
    have e2 : forL (xs.map fr) (gnm 14) (sasg 13 (call R__law_low (acons (bin gAdd (bin gMulI (binL gIx 13 (cst (.int 0))) (binL gIx 14 (cst (.int 1)))) (bin gMulI (binL gIx 14 (cst (.int 0))) (binL gIx 13 (cst (.int 1))))) (acons (bin gMulI (binL gIx 13 (cst (.int 1))) (binL gIx 14 (cst (.int 1)))) anil)))) [a0, a1, a2, a3, a4, a5, a6, a7, a8, a9, a10, a11, a12, .val (fr (red (w.1 * x.2 + x.1 * w.2) (w.2 * x.2))), .val (fr x), a15, a16, a17, a18] = .nx [a0, a1, a2, a3, a4, a5, a6, a7, a8, a9, a10, a11, a12, .val (fr (tot w (x :: xs))), z', a15, a16, a17, a18] := e
    simp only [bind_ok, bind_exn, bind_bad, s_ok, s_exn, s_bad, rd_ap, pk_ap, cst_ap, lift_some, lift_none, bin_ap, has_ap, binL_ap, un_ap, anil_ap, acons_ap, mkTup_ap, mkLst_ap, asB_bl, tv_ap, tnot_ap, tand_ap, tor_ap, vand_ap, vor_ap, vnot_ap, vif_ap, vchain_ap, sasg_ap, sown_ap, sif_ap, sret_ap, sexp_ap, snx_ap, sseq_ap, spar_ap, stg_ap, gnm_ap, gnil_ap, gcons_ap, gtp_ap, call_ap, doF_ok, doF_exn, callB_ap, apk_ap, doFB_ok, isOwn_ap, callI_ap, doI_ap, putOwn_ap, setD_ap, sset_ap, isLst_ap, mutl_ap, mutm_ap, sraise_ap, slcL_ap, slc_ap, pno_ap, psome_ap, unN_ap, iseq_ap, irng1_ap, irng2_ap, lrng_ap, gAdd_int, gInt_ap, at0, at1, at2, at3, gIx_lst, gIx_tup, gIx_scr, gLen_lst, gLen_tup, gLen_scr, gToInt_int, List.getElem?_cons_zero, List.getElem?_cons_succ, List.set_cons_zero, List.set_cons_succ, List.length_cons, List.length_nil, ite_true, ite_false, if_true, if_false, Bool.true_and, Bool.and_true, Bool.false_and, Bool.and_false, decide_true, decide_false, Option.map_some, Option.map_none, Bool.not_true, Bool.not_false, reduceIte, Nat.reduceAdd, Nat.reduceLeDiff, Bool.false_eq_true, Bool.true_eq_false, Bool.false_or, Bool.true_or, Bool.or_false, Bool.or_true, ix0, ix1, m1, m2, m3, hp, e2]
end
section
variable {a0 a1 a2 a3 a4 a5 a6 a7 a8 a9 a10 a11 a12 a13 a16 a17 a18 : Sl} {m : Int × Int}
theorem c_bel {a14 : Sl} {k j : Nat} (ho : plS a14 = true) (hj : j + k < 8000) (m1 : bt j m.1) (m2 : bt j m.2) (xs : List (Int × Int)) (hg : Gd k xs) (hl : xs.length ≤ 1000) : lcomp (iseq (rd 12)) (gnm 14) (tv (bin gLt (bin gMulI (binL gIx 14 (cst (.int 0))) (binL gIx 15 (cst (.int 1)))) (bin gMulI (binL gIx 15 (cst (.int 0))) (binL gIx 14 (cst (.int 1)))))) (cst (.int 1)) [14] [a0, a1, a2, a3, a4, a5, a6, a7, a8, a9, a10, a11, .val (.lst (xs.map fr)), a13, a14, .val (fr m), a16, a17, a18] = .ok (.lst ((xs.filter fun x => lt x m).map fun _ => D.int 1)) [a0, a1, a2, a3, a4, a5, a6, a7, a8, a9, a10, a11, .val (.lst (xs.map fr)), a13, a14, .val (fr m), a16, a17, a18] :=
  lcomp_pure (φ := fr) (p := fun x => lt x m) (f := fun _ => D.int 1) xs rfl (by cases a14 <;> first | rfl | cases ho) (by have : LIM = 1000000 := rfl; omega) (fun x hx => by
    obtain ⟨_, b1, b2⟩ := hg x hx
    have e1 := gMulI_ok b1 m2 (by omega)
    have e2 := gMulI_ok m1 b2 (by omega)
    simp only [bind_ok, bind_exn, bind_bad, s_ok, s_exn, s_bad, rd_ap, pk_ap, cst_ap, lift_some, lift_none, bin_ap, has_ap, binL_ap, un_ap, anil_ap, acons_ap, mkTup_ap, mkLst_ap, asB_bl, tv_ap, tnot_ap, tand_ap, tor_ap, vand_ap, vor_ap, vnot_ap, vif_ap, vchain_ap, sasg_ap, sown_ap, sif_ap, sret_ap, sexp_ap, snx_ap, sseq_ap, spar_ap, stg_ap, gnm_ap, gnil_ap, gcons_ap, gtp_ap, call_ap, doF_ok, doF_exn, callB_ap, apk_ap, doFB_ok, isOwn_ap, callI_ap, doI_ap, putOwn_ap, setD_ap, sset_ap, isLst_ap, mutl_ap, mutm_ap, sraise_ap, slcL_ap, slc_ap, pno_ap, psome_ap, unN_ap, iseq_ap, irng1_ap, irng2_ap, lrng_ap, gAdd_int, gInt_ap, at0, at1, at2, at3, gIx_lst, gIx_tup, gIx_scr, gLen_lst, gLen_tup, gLen_scr, gToInt_int, List.getElem?_cons_zero, List.getElem?_cons_succ, List.set_cons_zero, List.set_cons_succ, List.length_cons, List.length_nil, ite_true, ite_false, if_true, if_false, Bool.true_and, Bool.and_true, Bool.false_and, Bool.and_false, decide_true, decide_false, Option.map_some, Option.map_none, Bool.not_true, Bool.not_false, reduceIte, Nat.reduceAdd, Nat.reduceLeDiff, Bool.false_eq_true, Bool.true_eq_false, Bool.false_or, Bool.true_or, Bool.or_false, Bool.or_true, ix0, ix1, e1, e2]
    rfl) fun x hx _ => rfl
theorem c_abv {a14 : Sl} {k j : Nat} (ho : plS a14 = true) (hj : j + k < 8000) (m1 : bt j m.1) (m2 : bt j m.2) (xs : List (Int × Int)) (hg : Gd k xs) (hl : xs.length ≤ 1000) : lcomp (iseq (rd 12)) (gnm 14) (tv (bin gGt (bin gMulI (binL gIx 14 (cst (.int 0))) (binL gIx 15 (cst (.int 1)))) (bin gMulI (binL gIx 15 (cst (.int 0))) (binL gIx 14 (cst (.int 1)))))) (cst (.int 1)) [14] [a0, a1, a2, a3, a4, a5, a6, a7, a8, a9, a10, a11, .val (.lst (xs.map fr)), a13, a14, .val (fr m), a16, a17, a18] = .ok (.lst ((xs.filter fun x => lt m x).map fun _ => D.int 1)) [a0, a1, a2, a3, a4, a5, a6, a7, a8, a9, a10, a11, .val (.lst (xs.map fr)), a13, a14, .val (fr m), a16, a17, a18] :=
  lcomp_pure (φ := fr) (p := fun x => lt m x) (f := fun _ => D.int 1) xs rfl (by cases a14 <;> first | rfl | cases ho) (by have : LIM = 1000000 := rfl; omega) (fun x hx => by
    obtain ⟨_, b1, b2⟩ := hg x hx
    have e1 := gMulI_ok b1 m2 (by omega)
    have e2 := gMulI_ok m1 b2 (by omega)
    simp only [bind_ok, bind_exn, bind_bad, s_ok, s_exn, s_bad, rd_ap, pk_ap, cst_ap, lift_some, lift_none, bin_ap, has_ap, binL_ap, un_ap, anil_ap, acons_ap, mkTup_ap, mkLst_ap, asB_bl, tv_ap, tnot_ap, tand_ap, tor_ap, vand_ap, vor_ap, vnot_ap, vif_ap, vchain_ap, sasg_ap, sown_ap, sif_ap, sret_ap, sexp_ap, snx_ap, sseq_ap, spar_ap, stg_ap, gnm_ap, gnil_ap, gcons_ap, gtp_ap, call_ap, doF_ok, doF_exn, callB_ap, apk_ap, doFB_ok, isOwn_ap, callI_ap, doI_ap, putOwn_ap, setD_ap, sset_ap, isLst_ap, mutl_ap, mutm_ap, sraise_ap, slcL_ap, slc_ap, pno_ap, psome_ap, unN_ap, iseq_ap, irng1_ap, irng2_ap, lrng_ap, gAdd_int, gInt_ap, at0, at1, at2, at3, gIx_lst, gIx_tup, gIx_scr, gLen_lst, gLen_tup, gLen_scr, gToInt_int, List.getElem?_cons_zero, List.getElem?_cons_succ, List.set_cons_zero, List.set_cons_succ, List.length_cons, List.length_nil, ite_true, ite_false, if_true, if_false, Bool.true_and, Bool.and_true, Bool.false_and, Bool.and_false, decide_true, decide_false, Option.map_some, Option.map_none, Bool.not_true, Bool.not_false, reduceIte, Nat.reduceAdd, Nat.reduceLeDiff, Bool.false_eq_true, Bool.true_eq_false, Bool.false_or, Bool.true_or, Bool.or_false, Bool.or_true, ix0, ix1, e1, e2]
    rfl) fun x hx _ => rfl
end
theorem gIn_fr {m : Int × Int} {xs : List (Int × Int)} (h : m ∈ xs) : gIn true (fr m) (.lst (xs.map fr)) = some (.bl false) := by
  show (if (okd 20 (fr m) && (xs.map fr).all (okd 20)) = true then some (D.bl ((xs.map fr).any (fun y => y.eqb (fr m)) ^^ true)) else none) = _
  have h1 : (xs.map fr).all (okd 20) = true := by
    rw [List.all_eq_true]
    intro d hd
    obtain ⟨x, _, rfl⟩ := List.mem_map.mp hd
    rfl
  have h2 : (xs.map fr).any (fun y => y.eqb (fr m)) = true := by
    rw [List.any_eq_true]
    exact ⟨fr m, List.mem_map.mpr ⟨m, h, rfl⟩, eqb_refl 20 _ rfl⟩
  rw [h1, h2]
  rfl
theorem r_want_bad {v : D} (h : R_is_fraction [v] = .ok (.bl false) .non) : R_want_fraction [v] = .exn ⟨"BadNumber", ["value"], [v]⟩ .non := by
  show runP 1 1 b_want_fraction _ = _
  rw [runP1]
  unfold b_want_fraction
  simp only [bind_ok, bind_exn, bind_bad, s_ok, s_exn, s_bad, rd_ap, pk_ap, cst_ap, lift_some, lift_none, bin_ap, has_ap, binL_ap, un_ap, anil_ap, acons_ap, mkTup_ap, mkLst_ap, asB_bl, tv_ap, tnot_ap, tand_ap, tor_ap, vand_ap, vor_ap, vnot_ap, vif_ap, vchain_ap, sasg_ap, sown_ap, sif_ap, sret_ap, sexp_ap, snx_ap, sseq_ap, spar_ap, stg_ap, gnm_ap, gnil_ap, gcons_ap, gtp_ap, call_ap, doF_ok, doF_exn, callB_ap, apk_ap, doFB_ok, isOwn_ap, callI_ap, doI_ap, putOwn_ap, setD_ap, sset_ap, isLst_ap, mutl_ap, mutm_ap, sraise_ap, slcL_ap, slc_ap, pno_ap, psome_ap, unN_ap, iseq_ap, irng1_ap, irng2_ap, lrng_ap, gAdd_int, gInt_ap, at0, at1, at2, at3, gIx_lst, gIx_tup, gIx_scr, gLen_lst, gLen_tup, gLen_scr, gToInt_int, List.getElem?_cons_zero, List.getElem?_cons_succ, List.set_cons_zero, List.set_cons_succ, List.length_cons, List.length_nil, ite_true, ite_false, if_true, if_false, Bool.true_and, Bool.and_true, Bool.false_and, Bool.and_false, decide_true, decide_false, Option.map_some, Option.map_none, Bool.not_true, Bool.not_false, reduceIte, Nat.reduceAdd, Nat.reduceLeDiff, Bool.false_eq_true, Bool.true_eq_false, Bool.false_or, Bool.true_or, Bool.or_false, Bool.or_true, List.map_cons, List.map_nil, List.cons_append, List.nil_append, List.replicate, Nat.reduceSub, h]
theorem r_want_list {x : Int × Int} {j : Nat} (hx : 0 < x.2) (b2 : bt j x.2) (hj : j < 9000) (hr : red x.1 x.2 = x) : R_want_fraction [.lst [.int x.1, .int x.2]] = .ok (fr x) .non := by
  have i0 : gIx (.lst [.int x.1, .int x.2]) (.int 0) = some (.int x.1) := at0
  have i1 : gIx (.lst [.int x.1, .int x.2]) (.int 1) = some (.int x.2) := at1
  have hred := r_reduced (t := x.1) hx b2 hj
  have hn : ¬ x.2 < 1 := by omega
  have e : D.tup [.int x.1, .int x.2] = fr x := rfl
  have l2 : (2 : Nat) ≤ LIM := by decide
  have row : R_is_row [.lst [.int x.1, .int x.2]] = .ok (.bl true) .non := rfl
  have gl : gLen (.lst [.int x.1, .int x.2]) = some (.int 2) := rfl
  have h : R_is_fraction [.lst [.int x.1, .int x.2]] = .ok (.bl true) .non := by
    show runP 1 1 b_is_fraction _ = _
    rw [runP1]
    unfold b_is_fraction
    simp only [bind_ok, bind_exn, bind_bad, s_ok, s_exn, s_bad, rd_ap, pk_ap, cst_ap, lift_some, lift_none, bin_ap, has_ap, binL_ap, un_ap, anil_ap, acons_ap, mkTup_ap, mkLst_ap, asB_bl, tv_ap, tnot_ap, tand_ap, tor_ap, vand_ap, vor_ap, vnot_ap, vif_ap, vchain_ap, sasg_ap, sown_ap, sif_ap, sret_ap, sexp_ap, snx_ap, sseq_ap, spar_ap, stg_ap, gnm_ap, gnil_ap, gcons_ap, gtp_ap, call_ap, doF_ok, doF_exn, callB_ap, apk_ap, doFB_ok, isOwn_ap, callI_ap, doI_ap, putOwn_ap, setD_ap, sset_ap, isLst_ap, mutl_ap, mutm_ap, sraise_ap, slcL_ap, slc_ap, pno_ap, psome_ap, unN_ap, iseq_ap, irng1_ap, irng2_ap, lrng_ap, gAdd_int, gInt_ap, at0, at1, at2, at3, gIx_lst, gIx_tup, gIx_scr, gLen_lst, gLen_tup, gLen_scr, gToInt_int, List.getElem?_cons_zero, List.getElem?_cons_succ, List.set_cons_zero, List.set_cons_succ, List.length_cons, List.length_nil, ite_true, ite_false, if_true, if_false, Bool.true_and, Bool.and_true, Bool.false_and, Bool.and_false, decide_true, decide_false, Option.map_some, Option.map_none, Bool.not_true, Bool.not_false, reduceIte, Nat.reduceAdd, Nat.reduceLeDiff, Bool.false_eq_true, Bool.true_eq_false, Bool.false_or, Bool.true_or, Bool.or_false, Bool.or_true, List.map_cons, List.map_nil, List.cons_append, List.nil_append, List.replicate, Nat.reduceSub, i0, i1, row, gl, r_is_whole_int, gEq_int, beq_self_eq_true, Bool.xor_true, hn, hred, l2, e, gEq_fr, Bool.xor_false, hr]
  have gt : gTuple (.lst [.int x.1, .int x.2]) = some (fr x) := rfl
  show runP 1 1 b_want_fraction _ = _
  rw [runP1]
  unfold b_want_fraction
  simp only [bind_ok, bind_exn, bind_bad, s_ok, s_exn, s_bad, rd_ap, pk_ap, cst_ap, lift_some, lift_none, bin_ap, has_ap, binL_ap, un_ap, anil_ap, acons_ap, mkTup_ap, mkLst_ap, asB_bl, tv_ap, tnot_ap, tand_ap, tor_ap, vand_ap, vor_ap, vnot_ap, vif_ap, vchain_ap, sasg_ap, sown_ap, sif_ap, sret_ap, sexp_ap, snx_ap, sseq_ap, spar_ap, stg_ap, gnm_ap, gnil_ap, gcons_ap, gtp_ap, call_ap, doF_ok, doF_exn, callB_ap, apk_ap, doFB_ok, isOwn_ap, callI_ap, doI_ap, putOwn_ap, setD_ap, sset_ap, isLst_ap, mutl_ap, mutm_ap, sraise_ap, slcL_ap, slc_ap, pno_ap, psome_ap, unN_ap, iseq_ap, irng1_ap, irng2_ap, lrng_ap, gAdd_int, gInt_ap, at0, at1, at2, at3, gIx_lst, gIx_tup, gIx_scr, gLen_lst, gLen_tup, gLen_scr, gToInt_int, List.getElem?_cons_zero, List.getElem?_cons_succ, List.set_cons_zero, List.set_cons_succ, List.length_cons, List.length_nil, ite_true, ite_false, if_true, if_false, Bool.true_and, Bool.and_true, Bool.false_and, Bool.and_false, decide_true, decide_false, Option.map_some, Option.map_none, Bool.not_true, Bool.not_false, reduceIte, Nat.reduceAdd, Nat.reduceLeDiff, Bool.false_eq_true, Bool.true_eq_false, Bool.false_or, Bool.true_or, Bool.or_false, Bool.or_true, List.map_cons, List.map_nil, List.cons_append, List.nil_append, List.replicate, Nat.reduceSub, h, gt]
/-! ### the law -/
theorem repr_non (h : (okd 20 .non && (toPy .non).showable && decide ((toPy .non).shown.length ≤ LIM) && !(toPy .non).hasDict) = true) : gRepr .non = some (.str "None") := by unfold gRepr; rw [if_pos h]
theorem repr_tup {xs : List D} (h : (okd 20 (.tup xs) && (toPy (.tup xs)).showable && decide ((toPy (.tup xs)).shown.length ≤ LIM) && !(toPy (.tup xs)).hasDict) = true) : gRepr (.tup xs) = some (.str (toPy (.tup xs)).shown) := by unfold gRepr; rw [if_pos h]
theorem repr_lst {xs : List D} (h : (okd 20 (.lst xs) && (toPy (.lst xs)).showable && decide ((toPy (.lst xs)).shown.length ≤ LIM) && !(toPy (.lst xs)).hasDict) = true) : gRepr (.lst xs) = some (.str (toPy (.lst xs)).shown) := by unfold gRepr; rw [if_pos h]
theorem repr_int {i : Int} (h : (okd 20 (.int i) && (toPy (.int i)).showable && decide ((toPy (.int i)).shown.length ≤ LIM) && !(toPy (.int i)).hasDict) = true) (h2 : i.natAbs.log2 < 1000) : gRepr (.int i) = some (.str (toString i)) := by unfold gRepr; rw [if_pos h]; show (if i.natAbs.log2 < 1000 then _ else _) = _; rw [if_pos h2]
section
variable {ns : List Int} {a b c d : Int}
def Bd (a b c d : Int) : Prop := (-60 ≤ a ∧ a ≤ 60) ∧ (1 ≤ b ∧ b ≤ 60) ∧ (-60 ≤ c ∧ c ≤ 60) ∧ (1 ≤ d ∧ d ≤ 60)
theorem st4 {p4 s4 t4 : Int} (h : Bd a b c d) : (sif (tor (tnot (tv (call (R__law_alike 24) (acons (mkTup (acons (rd 6) (acons (rd 7) anil))) (acons (mkTup (acons (call R__law_low (acons (rd 2) (acons (rd 3) anil))) (acons (call R__law_low (acons (rd 4) (acons (rd 5) anil))) anil))) anil))))) (tor (tnot (tv (call R_is_fraction (acons (rd 6) anil)))) (tv (call R_is_fraction (acons (mkTup (acons (bin gMulI (rd 2) (cst (.int 2))) (acons (bin gMulI (rd 3) (cst (.int 2))) anil))) anil))))) (sret (cst (.bl false))) snx) [.val (.scr ns), .own (rowD ns p4 s4 t4), .val (.int a), .val (.int b), .val (.int c), .val (.int d), .val (fr (red a b)), .val (fr (red c d)), .un, .un, .un, .un, .un, .un, .un, .un, .un, .un, .un] = .nx [.val (.scr ns), .own (rowD ns p4 s4 t4), .val (.int a), .val (.int b), .val (.int c), .val (.int d), .val (fr (red a b)), .val (fr (red c d)), .un, .un, .un, .un, .un, .un, .un, .un, .un, .un, .un] := by
  obtain ⟨ha, hb, hc, hd⟩ := h
  have l1 := r_low (t := a) (b := b) (by omega) (by omega)
  have l2 := r_low (t := c) (b := d) (by omega) (by omega)
  have al : R__law_alike 24 [.tup [fr (red a b), fr (red c d)], .tup [fr (red a b), fr (red c d)]] = .ok (.bl true) .non := alike_ok rfl
  have f1 := r_is_fraction (x := red a b) (j := 12) (red_pos (by omega)) (red_bt2 (by omega) (by unfold bt; omega)) (by decide)
  rw [red_red (by omega), decide_eq_true rfl] at f1
  have f2 := r_is_fraction (x := (a * 2, b * 2)) (j := 12) (by show 0 < b * 2; omega) (by show bt 12 (b * 2); unfold bt; omega) (by decide)
  have nf : ¬ red (a * 2) (b * 2) = (a * 2, b * 2) := fun e => by
    rw [Int.mul_comm a 2, Int.mul_comm b 2, red_mul (by decide)] at e
    have h1 := red_le (t := a) (b := b) (by omega)
    rw [e] at h1
    have h2 : 2 * b ≤ b := h1
    omega
  rw [decide_eq_false nf] at f2
  have f2' : R_is_fraction [.tup [.int (a * 2), .int (b * 2)]] = .ok (.bl false) .non := f2
  have c2 : bt 2 (2 : Int) := by unfold bt; decide
  have m1 := gMulI_ok (a := a) (j := 12) (by unfold bt; omega) c2 (by decide)
  have m2 := gMulI_ok (a := b) (j := 12) (by unfold bt; omega) c2 (by decide)
  have z2 : (2 : Nat) ≤ LIM := by decide
  simp only [bind_ok, bind_exn, bind_bad, s_ok, s_exn, s_bad, rd_ap, pk_ap, cst_ap, lift_some, lift_none, bin_ap, has_ap, binL_ap, un_ap, anil_ap, acons_ap, mkTup_ap, mkLst_ap, asB_bl, tv_ap, tnot_ap, tand_ap, tor_ap, vand_ap, vor_ap, vnot_ap, vif_ap, vchain_ap, sasg_ap, sown_ap, sif_ap, sret_ap, sexp_ap, snx_ap, sseq_ap, spar_ap, stg_ap, gnm_ap, gnil_ap, gcons_ap, gtp_ap, call_ap, doF_ok, doF_exn, callB_ap, apk_ap, doFB_ok, isOwn_ap, callI_ap, doI_ap, putOwn_ap, setD_ap, sset_ap, isLst_ap, mutl_ap, mutm_ap, sraise_ap, slcL_ap, slc_ap, pno_ap, psome_ap, unN_ap, iseq_ap, irng1_ap, irng2_ap, lrng_ap, gAdd_int, gInt_ap, at0, at1, at2, at3, gIx_lst, gIx_tup, gIx_scr, gLen_lst, gLen_tup, gLen_scr, gToInt_int, List.getElem?_cons_zero, List.getElem?_cons_succ, List.set_cons_zero, List.set_cons_succ, List.length_cons, List.length_nil, ite_true, ite_false, if_true, if_false, Bool.true_and, Bool.and_true, Bool.false_and, Bool.and_false, decide_true, decide_false, Option.map_some, Option.map_none, Bool.not_true, Bool.not_false, reduceIte, Nat.reduceAdd, Nat.reduceLeDiff, Bool.false_eq_true, Bool.true_eq_false, Bool.false_or, Bool.true_or, Bool.or_false, Bool.or_true, l1, l2, al, f1, f2', m1, m2, z2]
theorem st5 {p4 s4 t4 : Int} (h : Bd a b c d) : (sif (tnot (tv (call (R__law_alike 24) (acons (mkTup (acons (call R_plus (acons (rd 6) (acons (rd 7) anil))) (acons (call R_minus (acons (rd 6) (acons (rd 7) anil))) (acons (call R_times (acons (rd 6) (acons (rd 7) anil))) anil)))) (acons (mkTup (acons (call R__law_low (acons (bin gAdd (bin gMulI (rd 2) (pk 5)) (bin gMulI (rd 4) (pk 3))) (acons (bin gMulI (rd 3) (pk 5)) anil))) (acons (call R__law_low (acons (bin gSub (bin gMulI (rd 2) (pk 5)) (bin gMulI (rd 4) (pk 3))) (acons (bin gMulI (rd 3) (pk 5)) anil))) (acons (call R__law_low (acons (bin gMulI (rd 2) (pk 4)) (acons (bin gMulI (rd 3) (pk 5)) anil))) anil)))) anil))))) (sret (cst (.bl false))) snx) [.val (.scr ns), .own (rowD ns p4 s4 t4), .val (.int a), .val (.int b), .val (.int c), .val (.int d), .val (fr (red a b)), .val (fr (red c d)), .un, .un, .un, .un, .un, .un, .un, .un, .un, .un, .un] = .nx [.val (.scr ns), .own (rowD ns p4 s4 t4), .val (.int a), .val (.int b), .val (.int c), .val (.int d), .val (fr (red a b)), .val (fr (red c d)), .un, .un, .un, .un, .un, .un, .un, .un, .un, .un, .un] := by
  obtain ⟨ha, hb, hc, hd⟩ := h
  have hb0 : 0 < b := by omega
  have hd0 : 0 < d := by omega
  have bb : 0 < b * d := Int.mul_pos hb0 hd0
  have bdle : b * d ≤ 100000000 := by
    have : b * d ≤ 60 * 60 := Int.mul_le_mul hb.2 hd.2 (by omega) (by decide)
    omega
  have ba : bt 12 a := by unfold bt; omega
  have bb1 : bt 12 b := by unfold bt; omega
  have bc : bt 12 c := by unfold bt; omega
  have bd : bt 12 d := by unfold bt; omega
  have h1 := red_l a b
  have h2 := red_r a b
  have h3 := red_l c d
  have h4 := red_r c d
  have g1 := gc_pos (t := a) hb0
  have g2 := gc_pos (t := c) hd0
  have x0 := red_pos (t := a) hb0
  have y0 := red_pos (t := c) hd0
  have pl := r_plus (x := red a b) (y := red c d) (j := 12) (k := 12) x0 y0 (red_bt hb0 ba) (red_bt2 hb0 bb1) (red_bt hd0 bc) (red_bt2 hd0 bd) (by decide)
  have mi := r_minus (x := red a b) (y := red c d) (j := 12) (k := 12) x0 y0 (red_bt hb0 ba) (red_bt2 hb0 bb1) (red_bt hd0 bc) (red_bt2 hd0 bd) (by decide)
  have ti := r_times (x := red a b) (y := red c d) (j := 12) (k := 12) x0 y0 (red_bt hb0 ba) (red_bt2 hb0 bb1) (red_bt hd0 bc) (red_bt2 hd0 bd) (by decide)
  have e2 : gc a b * gc c d * ((red a b).2 * (red c d).2) = b * d := by
    generalize (red a b).2 = x2 at *
    generalize (red c d).2 = y2 at *
    rw [← h2, ← h4]; grind
  have ep : red ((red a b).1 * (red c d).2 + (red c d).1 * (red a b).2) ((red a b).2 * (red c d).2) = red (a * d + c * b) (b * d) := by
    rw [← red_mul (k := gc a b * gc c d) (Int.mul_pos g1 g2), e2]
    congr 1
    generalize (red a b).1 = x1 at *
    generalize (red a b).2 = x2 at *
    generalize (red c d).1 = y1 at *
    generalize (red c d).2 = y2 at *
    generalize gc a b = g at *
    generalize gc c d = k at *
    subst h1 h2 h3 h4
    grind
  have em : red ((red a b).1 * (red c d).2 - (red c d).1 * (red a b).2) ((red a b).2 * (red c d).2) = red (a * d - c * b) (b * d) := by
    rw [← red_mul (k := gc a b * gc c d) (Int.mul_pos g1 g2), e2]
    congr 1
    generalize (red a b).1 = x1 at *
    generalize (red a b).2 = x2 at *
    generalize (red c d).1 = y1 at *
    generalize (red c d).2 = y2 at *
    generalize gc a b = g at *
    generalize gc c d = k at *
    subst h1 h2 h3 h4
    grind
  have et : red ((red a b).1 * (red c d).1) ((red a b).2 * (red c d).2) = red (a * c) (b * d) := by
    rw [← red_mul (k := gc a b * gc c d) (Int.mul_pos g1 g2), e2]
    congr 1
    generalize (red a b).1 = x1 at *
    generalize (red a b).2 = x2 at *
    generalize (red c d).1 = y1 at *
    generalize (red c d).2 = y2 at *
    generalize gc a b = g at *
    generalize gc c d = k at *
    subst h1 h2 h3 h4
    grind
  rw [ep] at pl
  rw [em] at mi
  rw [et] at ti
  have l1 := r_low (t := a * d + c * b) bb bdle
  have l2 := r_low (t := a * d - c * b) bb bdle
  have l3 := r_low (t := a * c) bb bdle
  have m1 := gMulI_ok ba bd (by decide)
  have m2 := gMulI_ok bc bb1 (by decide)
  have m3 := gMulI_ok bb1 bd (by decide)
  have m4 := gMulI_ok ba bc (by decide)
  have gs : gSub (.int (a * d)) (.int (c * b)) = some (.int (a * d - c * b)) := rfl
  have al : R__law_alike 24 [.tup [fr (red (a * d + c * b) (b * d)), fr (red (a * d - c * b) (b * d)), fr (red (a * c) (b * d))], .tup [fr (red (a * d + c * b) (b * d)), fr (red (a * d - c * b) (b * d)), fr (red (a * c) (b * d))]] = .ok (.bl true) .non := alike_ok rfl
  have z3 : (3 : Nat) ≤ LIM := by decide
  simp only [bind_ok, bind_exn, bind_bad, s_ok, s_exn, s_bad, rd_ap, pk_ap, cst_ap, lift_some, lift_none, bin_ap, has_ap, binL_ap, un_ap, anil_ap, acons_ap, mkTup_ap, mkLst_ap, asB_bl, tv_ap, tnot_ap, tand_ap, tor_ap, vand_ap, vor_ap, vnot_ap, vif_ap, vchain_ap, sasg_ap, sown_ap, sif_ap, sret_ap, sexp_ap, snx_ap, sseq_ap, spar_ap, stg_ap, gnm_ap, gnil_ap, gcons_ap, gtp_ap, call_ap, doF_ok, doF_exn, callB_ap, apk_ap, doFB_ok, isOwn_ap, callI_ap, doI_ap, putOwn_ap, setD_ap, sset_ap, isLst_ap, mutl_ap, mutm_ap, sraise_ap, slcL_ap, slc_ap, pno_ap, psome_ap, unN_ap, iseq_ap, irng1_ap, irng2_ap, lrng_ap, gAdd_int, gInt_ap, at0, at1, at2, at3, gIx_lst, gIx_tup, gIx_scr, gLen_lst, gLen_tup, gLen_scr, gToInt_int, List.getElem?_cons_zero, List.getElem?_cons_succ, List.set_cons_zero, List.set_cons_succ, List.length_cons, List.length_nil, ite_true, ite_false, if_true, if_false, Bool.true_and, Bool.and_true, Bool.false_and, Bool.and_false, decide_true, decide_false, Option.map_some, Option.map_none, Bool.not_true, Bool.not_false, reduceIte, Nat.reduceAdd, Nat.reduceLeDiff, Bool.false_eq_true, Bool.true_eq_false, Bool.false_or, Bool.true_or, Bool.or_false, Bool.or_true, pl, mi, ti, l1, l2, l3, m1, m2, m3, m4, gs, al, z3]
theorem st6 {p4 s4 t4 : Int} (h : Bd a b c d) : (sif (tor (tand (tv (bin gGt (rd 4) (cst (.int 0)))) (tnot (tv (call (R__law_alike 24) (acons (call R_over (acons (rd 6) (acons (rd 7) anil))) (acons (call R__law_low (acons (bin gMulI (rd 2) (pk 5)) (acons (bin gMulI (rd 3) (pk 4)) anil))) anil)))))) (tnot (tv (call R__law_truth (acons (call R_is_less (acons (rd 6) (acons (rd 7) anil))) (acons (bin gLt (bin gMulI (rd 2) (pk 5)) (bin gMulI (rd 4) (pk 3))) anil)))))) (sret (cst (.bl false))) snx) [.val (.scr ns), .own (rowD ns p4 s4 t4), .val (.int a), .val (.int b), .val (.int c), .val (.int d), .val (fr (red a b)), .val (fr (red c d)), .un, .un, .un, .un, .un, .un, .un, .un, .un, .un, .un] = .nx [.val (.scr ns), .own (rowD ns p4 s4 t4), .val (.int a), .val (.int b), .val (.int c), .val (.int d), .val (fr (red a b)), .val (fr (red c d)), .un, .un, .un, .un, .un, .un, .un, .un, .un, .un, .un] := by
  obtain ⟨ha, hb, hc, hd⟩ := h
  have hb0 : 0 < b := by omega
  have hd0 : 0 < d := by omega
  have ba : bt 12 a := by unfold bt; omega
  have bb1 : bt 12 b := by unfold bt; omega
  have bc : bt 12 c := by unfold bt; omega
  have bd : bt 12 d := by unfold bt; omega
  have h1 := red_l a b
  have h2 := red_r a b
  have h3 := red_l c d
  have h4 := red_r c d
  have g1 := gc_pos (t := a) hb0
  have g2 := gc_pos (t := c) hd0
  have x0 := red_pos (t := a) hb0
  have y0 := red_pos (t := c) hd0
  have hlt : decide ((red a b).1 * (red c d).2 < (red c d).1 * (red a b).2) = decide (a * d < c * b) := by
    have e1 : a * d = (red a b).1 * (red c d).2 * (gc a b * gc c d) := by
      have e : a * d = (red a b).1 * gc a b * ((red c d).2 * gc c d) := by rw [h1, h4]
      rw [e]; grind
    have e2 : c * b = (red c d).1 * (red a b).2 * (gc a b * gc c d) := by
      have e : c * b = (red c d).1 * gc c d * ((red a b).2 * gc a b) := by rw [h2, h3]
      rw [e]; grind
    rw [e1, e2]
    exact decide_eq_decide.mpr ⟨fun q => Int.mul_lt_mul_of_pos_right q (Int.mul_pos g1 g2), fun q => Int.lt_of_mul_lt_mul_right q (Int.le_of_lt (Int.mul_pos g1 g2))⟩
  have il := r_is_less (x := red a b) (y := red c d) (j := 12) (k := 12) (red_bt hb0 ba) (red_bt2 hb0 bb1) (red_bt hd0 bc) (red_bt2 hd0 bd) (by decide)
  rw [hlt] at il
  have m1 := gMulI_ok ba bd (by decide)
  have m2 := gMulI_ok bc bb1 (by decide)
  have m3 := gMulI_ok bb1 bc (by decide)
  have tr := r_truth (x := decide (a * d < c * b))
  by_cases c0 : 0 < c
  · have y1 : 0 < (red c d).1 := by
      rcases Int.lt_trichotomy 0 (red c d).1 with z | z | z
      · exact z
      · rw [← z, Int.zero_mul] at h3; omega
      · have := Int.mul_neg_of_neg_of_pos z g2; omega
    have ov := r_over (x := red a b) (y := red c d) (j := 12) (k := 12) x0 y1 (red_bt hb0 ba) (red_bt2 hb0 bb1) (red_bt hd0 bc) (red_bt2 hd0 bd) (by decide)
    have eo : red ((red a b).1 * (red c d).2) ((red a b).2 * (red c d).1) = red (a * d) (b * c) := by
      rw [← red_mul (k := gc a b * gc c d) (Int.mul_pos g1 g2)]
      generalize (red a b).1 = x1 at *
      generalize (red a b).2 = x2 at *
      generalize (red c d).1 = y1 at *
      generalize (red c d).2 = y2 at *
      generalize gc a b = g at *
      generalize gc c d = k at *
      subst h1 h2 h3 h4
      congr 1 <;> grind
    rw [eo] at ov
    have bcle : b * c ≤ 100000000 := by
      have : b * c ≤ 60 * 60 := Int.mul_le_mul hb.2 hc.2 (by omega) (by decide)
      omega
    have l1 := r_low (t := a * d) (Int.mul_pos hb0 c0) bcle
    have al := alike_fr (red (a * d) (b * c))
    simp only [bind_ok, bind_exn, bind_bad, s_ok, s_exn, s_bad, rd_ap, pk_ap, cst_ap, lift_some, lift_none, bin_ap, has_ap, binL_ap, un_ap, anil_ap, acons_ap, mkTup_ap, mkLst_ap, asB_bl, tv_ap, tnot_ap, tand_ap, tor_ap, vand_ap, vor_ap, vnot_ap, vif_ap, vchain_ap, sasg_ap, sown_ap, sif_ap, sret_ap, sexp_ap, snx_ap, sseq_ap, spar_ap, stg_ap, gnm_ap, gnil_ap, gcons_ap, gtp_ap, call_ap, doF_ok, doF_exn, callB_ap, apk_ap, doFB_ok, isOwn_ap, callI_ap, doI_ap, putOwn_ap, setD_ap, sset_ap, isLst_ap, mutl_ap, mutm_ap, sraise_ap, slcL_ap, slc_ap, pno_ap, psome_ap, unN_ap, iseq_ap, irng1_ap, irng2_ap, lrng_ap, gAdd_int, gInt_ap, at0, at1, at2, at3, gIx_lst, gIx_tup, gIx_scr, gLen_lst, gLen_tup, gLen_scr, gToInt_int, List.getElem?_cons_zero, List.getElem?_cons_succ, List.set_cons_zero, List.set_cons_succ, List.length_cons, List.length_nil, ite_true, ite_false, if_true, if_false, Bool.true_and, Bool.and_true, Bool.false_and, Bool.and_false, decide_true, decide_false, Option.map_some, Option.map_none, Bool.not_true, Bool.not_false, reduceIte, Nat.reduceAdd, Nat.reduceLeDiff, Bool.false_eq_true, Bool.true_eq_false, Bool.false_or, Bool.true_or, Bool.or_false, Bool.or_true, c0, ov, m1, m2, m3, l1, al, il, tr]
  · simp only [bind_ok, bind_exn, bind_bad, s_ok, s_exn, s_bad, rd_ap, pk_ap, cst_ap, lift_some, lift_none, bin_ap, has_ap, binL_ap, un_ap, anil_ap, acons_ap, mkTup_ap, mkLst_ap, asB_bl, tv_ap, tnot_ap, tand_ap, tor_ap, vand_ap, vor_ap, vnot_ap, vif_ap, vchain_ap, sasg_ap, sown_ap, sif_ap, sret_ap, sexp_ap, snx_ap, sseq_ap, spar_ap, stg_ap, gnm_ap, gnil_ap, gcons_ap, gtp_ap, call_ap, doF_ok, doF_exn, callB_ap, apk_ap, doFB_ok, isOwn_ap, callI_ap, doI_ap, putOwn_ap, setD_ap, sset_ap, isLst_ap, mutl_ap, mutm_ap, sraise_ap, slcL_ap, slc_ap, pno_ap, psome_ap, unN_ap, iseq_ap, irng1_ap, irng2_ap, lrng_ap, gAdd_int, gInt_ap, at0, at1, at2, at3, gIx_lst, gIx_tup, gIx_scr, gLen_lst, gLen_tup, gLen_scr, gToInt_int, List.getElem?_cons_zero, List.getElem?_cons_succ, List.set_cons_zero, List.set_cons_succ, List.length_cons, List.length_nil, ite_true, ite_false, if_true, if_false, Bool.true_and, Bool.and_true, Bool.false_and, Bool.and_false, decide_true, decide_false, Option.map_some, Option.map_none, Bool.not_true, Bool.not_false, reduceIte, Nat.reduceAdd, Nat.reduceLeDiff, Bool.false_eq_true, Bool.true_eq_false, Bool.false_or, Bool.true_or, Bool.or_false, Bool.or_true, c0, m1, m2, il, tr]
theorem st10 {p4 s4 t4 : Int} (h : Bd a b c d) : (sif (tnot (tv (call (R__law_alike 24) (acons (mkTup (acons (call R_floor_of (acons (rd 6) anil)) (acons (call R_ceiling_of (acons (rd 6) anil)) (acons (call R_nearest (acons (rd 6) anil)) anil)))) (acons (mkTup (acons (rd 9) (acons (rd 10) (acons (rd 11) anil)))) anil))))) (sret (cst (.bl false))) snx) [.val (.scr ns), .own (rowD ns p4 s4 t4), .val (.int a), .val (.int b), .val (.int c), .val (.int d), .val (fr (red a b)), .val (fr (red c d)), .val (.lst ((List.range 123).map fun (i : Nat) => D.int (-61 + (i : Int)))), .val (.int (a / b)), .val (.int (-(-a / b))), .val (.int ((2 * a + b) / (2 * b))), .un, .un, .un, .un, .un, .un, .un] = .nx [.val (.scr ns), .own (rowD ns p4 s4 t4), .val (.int a), .val (.int b), .val (.int c), .val (.int d), .val (fr (red a b)), .val (fr (red c d)), .val (.lst ((List.range 123).map fun (i : Nat) => D.int (-61 + (i : Int)))), .val (.int (a / b)), .val (.int (-(-a / b))), .val (.int ((2 * a + b) / (2 * b))), .un, .un, .un, .un, .un, .un, .un] := by
  obtain ⟨ha, hb, hc, hd⟩ := h
  have hb0 : 0 < b := by omega
  have ba : bt 12 a := by unfold bt; omega
  have bb1 : bt 12 b := by unfold bt; omega
  have h1 := red_l a b
  have h2 := red_r a b
  have g1 := gc_pos (t := a) hb0
  have x0 := red_pos (t := a) hb0
  have f := r_floor (x := red a b) (j := 12) x0 (red_bt2 hb0 bb1) (by decide)
  have ce := r_ceiling (x := red a b) (j := 12) x0 (red_bt2 hb0 bb1) (by decide)
  have ne := r_nearest (x := red a b) (j := 12) x0 (red_bt hb0 ba) (red_bt2 hb0 bb1) (by decide)
  have ef : (red a b).1 / (red a b).2 = a / b := by
    have := Int.mul_ediv_mul_of_pos_left (red a b).1 (red a b).2 g1
    rw [h1, h2] at this
    exact this.symm
  have ec : -(red a b).1 / (red a b).2 = -a / b := by
    have := Int.mul_ediv_mul_of_pos_left (-(red a b).1) (red a b).2 g1
    rw [Int.neg_mul, h1, h2] at this
    exact this.symm
  have en : (2 * (red a b).1 + (red a b).2) / (2 * (red a b).2) = (2 * a + b) / (2 * b) := by
    have := Int.mul_ediv_mul_of_pos_left (2 * (red a b).1 + (red a b).2) (2 * (red a b).2) g1
    rw [Int.add_mul, Int.mul_assoc, Int.mul_assoc, h1, h2] at this
    exact this.symm
  rw [ef] at f
  rw [ec] at ce
  rw [en] at ne
  have al : R__law_alike 24 [.tup [.int (a / b), .int (-(-a / b)), .int ((2 * a + b) / (2 * b))], .tup [.int (a / b), .int (-(-a / b)), .int ((2 * a + b) / (2 * b))]] = .ok (.bl true) .non := alike_ok rfl
  have z3 : (3 : Nat) ≤ LIM := by decide
  simp only [bind_ok, bind_exn, bind_bad, s_ok, s_exn, s_bad, rd_ap, pk_ap, cst_ap, lift_some, lift_none, bin_ap, has_ap, binL_ap, un_ap, anil_ap, acons_ap, mkTup_ap, mkLst_ap, asB_bl, tv_ap, tnot_ap, tand_ap, tor_ap, vand_ap, vor_ap, vnot_ap, vif_ap, vchain_ap, sasg_ap, sown_ap, sif_ap, sret_ap, sexp_ap, snx_ap, sseq_ap, spar_ap, stg_ap, gnm_ap, gnil_ap, gcons_ap, gtp_ap, call_ap, doF_ok, doF_exn, callB_ap, apk_ap, doFB_ok, isOwn_ap, callI_ap, doI_ap, putOwn_ap, setD_ap, sset_ap, isLst_ap, mutl_ap, mutm_ap, sraise_ap, slcL_ap, slc_ap, pno_ap, psome_ap, unN_ap, iseq_ap, irng1_ap, irng2_ap, lrng_ap, gAdd_int, gInt_ap, at0, at1, at2, at3, gIx_lst, gIx_tup, gIx_scr, gLen_lst, gLen_tup, gLen_scr, gToInt_int, List.getElem?_cons_zero, List.getElem?_cons_succ, List.set_cons_zero, List.set_cons_succ, List.length_cons, List.length_nil, ite_true, ite_false, if_true, if_false, Bool.true_and, Bool.and_true, Bool.false_and, Bool.and_false, decide_true, decide_false, Option.map_some, Option.map_none, Bool.not_true, Bool.not_false, reduceIte, Nat.reduceAdd, Nat.reduceLeDiff, Bool.false_eq_true, Bool.true_eq_false, Bool.false_or, Bool.true_or, Bool.or_false, Bool.or_true, f, ce, ne, al, z3]
theorem st2 : ∃ (a b c d p4 s4 t4 : Int), Bd a b c d ∧ OkR p4 s4 t4 ∧ (stg (mkTup (acons (bin gSub (callI 1 R__law_taken (acons (cst (.int 121)) anil)) (cst (.int 60))) (acons (bin gAdd (cst (.int 1)) (callI 1 R__law_taken (acons (cst (.int 60)) anil))) (acons (bin gSub (callI 1 R__law_taken (acons (cst (.int 121)) anil)) (cst (.int 60))) (acons (bin gAdd (cst (.int 1)) (callI 1 R__law_taken (acons (cst (.int 60)) anil))) anil))))) (gtp 4 (gcons (gnm 2) (gcons (gnm 3) (gcons (gnm 4) (gcons (gnm 5) gnil)))))) [.val (.scr ns), .own (rowD ns 0 61 0), .un, .un, .un, .un, .un, .un, .un, .un, .un, .un, .un, .un, .un, .un, .un, .un, .un] = .nx [.val (.scr ns), .own (rowD ns p4 s4 t4), .val (.int a), .val (.int b), .val (.int c), .val (.int d), .un, .un, .un, .un, .un, .un, .un, .un, .un, .un, .un, .un, .un] := by
  obtain ⟨x1, p1, s1, t1, e1, ok1, l1, h1⟩ := taken_ok (ns := ns) (p := 0) (s := 61) (t := 0) (m := 121) ⟨by decide, by decide, by decide, by decide⟩ (by decide) (by unfold bt; decide)
  obtain ⟨x2, p2, s2, t2, e2, ok2, l2, h2⟩ := taken_ok (ns := ns) (m := 60) ok1 (by decide) (by unfold bt; decide)
  obtain ⟨x3, p3, s3, t3, e3, ok3, l3, h3⟩ := taken_ok (ns := ns) (m := 121) ok2 (by decide) (by unfold bt; decide)
  obtain ⟨x4, p4, s4, t4, e4, ok4, l4, h4⟩ := taken_ok (ns := ns) (m := 60) ok3 (by decide) (by unfold bt; decide)
  refine ⟨x1 - 60, 1 + x2, x3 - 60, 1 + x4, p4, s4, t4, ⟨⟨by omega, by omega⟩, ⟨by omega, by omega⟩, ⟨by omega, by omega⟩, by omega, by omega⟩, ok4, ?_⟩
  have gs : ∀ x : Int, gSub (.int x) (.int 60) = some (.int (x - 60)) := fun _ => rfl
  have z4 : (4 : Nat) ≤ LIM := by decide
  rw [taken_eq]
  simp only [bind_ok, bind_exn, bind_bad, s_ok, s_exn, s_bad, rd_ap, pk_ap, cst_ap, lift_some, lift_none, bin_ap, has_ap, binL_ap, un_ap, anil_ap, acons_ap, mkTup_ap, mkLst_ap, asB_bl, tv_ap, tnot_ap, tand_ap, tor_ap, vand_ap, vor_ap, vnot_ap, vif_ap, vchain_ap, sasg_ap, sown_ap, sif_ap, sret_ap, sexp_ap, snx_ap, sseq_ap, spar_ap, stg_ap, gnm_ap, gnil_ap, gcons_ap, gtp_ap, call_ap, doF_ok, doF_exn, callB_ap, apk_ap, doFB_ok, isOwn_ap, callI_ap, doI_ap, putOwn_ap, setD_ap, sset_ap, isLst_ap, mutl_ap, mutm_ap, sraise_ap, slcL_ap, slc_ap, pno_ap, psome_ap, unN_ap, iseq_ap, irng1_ap, irng2_ap, lrng_ap, gAdd_int, gInt_ap, at0, at1, at2, at3, gIx_lst, gIx_tup, gIx_scr, gLen_lst, gLen_tup, gLen_scr, gToInt_int, List.getElem?_cons_zero, List.getElem?_cons_succ, List.set_cons_zero, List.set_cons_succ, List.length_cons, List.length_nil, ite_true, ite_false, if_true, if_false, Bool.true_and, Bool.and_true, Bool.false_and, Bool.and_false, decide_true, decide_false, Option.map_some, Option.map_none, Bool.not_true, Bool.not_false, reduceIte, Nat.reduceAdd, Nat.reduceLeDiff, Bool.false_eq_true, Bool.true_eq_false, Bool.false_or, Bool.true_or, Bool.or_false, Bool.or_true, e1, e2, e3, e4, gs, z4]
theorem st3 {p4 s4 t4 : Int} (h : Bd a b c d) : (spar 6 7 (acons (call R_reduced (acons (rd 2) (acons (rd 3) anil))) (acons (call R_reduced (acons (rd 4) (acons (rd 5) anil))) anil))) [.val (.scr ns), .own (rowD ns p4 s4 t4), .val (.int a), .val (.int b), .val (.int c), .val (.int d), .un, .un, .un, .un, .un, .un, .un, .un, .un, .un, .un, .un, .un] = .nx [.val (.scr ns), .own (rowD ns p4 s4 t4), .val (.int a), .val (.int b), .val (.int c), .val (.int d), .val (fr (red a b)), .val (fr (red c d)), .un, .un, .un, .un, .un, .un, .un, .un, .un, .un, .un] := by
  obtain ⟨ha, hb, hc, hd⟩ := h
  have h1 := r_reduced (t := a) (b := b) (k := 12) (by omega) (by unfold bt; omega) (by decide)
  have h2 := r_reduced (t := c) (b := d) (k := 12) (by omega) (by unfold bt; omega) (by decide)
  simp only [bind_ok, bind_exn, bind_bad, s_ok, s_exn, s_bad, rd_ap, pk_ap, cst_ap, lift_some, lift_none, bin_ap, has_ap, binL_ap, un_ap, anil_ap, acons_ap, mkTup_ap, mkLst_ap, asB_bl, tv_ap, tnot_ap, tand_ap, tor_ap, vand_ap, vor_ap, vnot_ap, vif_ap, vchain_ap, sasg_ap, sown_ap, sif_ap, sret_ap, sexp_ap, snx_ap, sseq_ap, spar_ap, stg_ap, gnm_ap, gnil_ap, gcons_ap, gtp_ap, call_ap, doF_ok, doF_exn, callB_ap, apk_ap, doFB_ok, isOwn_ap, callI_ap, doI_ap, putOwn_ap, setD_ap, sset_ap, isLst_ap, mutl_ap, mutm_ap, sraise_ap, slcL_ap, slc_ap, pno_ap, psome_ap, unN_ap, iseq_ap, irng1_ap, irng2_ap, lrng_ap, gAdd_int, gInt_ap, at0, at1, at2, at3, gIx_lst, gIx_tup, gIx_scr, gLen_lst, gLen_tup, gLen_scr, gToInt_int, List.getElem?_cons_zero, List.getElem?_cons_succ, List.set_cons_zero, List.set_cons_succ, List.length_cons, List.length_nil, ite_true, ite_false, if_true, if_false, Bool.true_and, Bool.and_true, Bool.false_and, Bool.and_false, decide_true, decide_false, Option.map_some, Option.map_none, Bool.not_true, Bool.not_false, reduceIte, Nat.reduceAdd, Nat.reduceLeDiff, Bool.false_eq_true, Bool.true_eq_false, Bool.false_or, Bool.true_or, Bool.or_false, Bool.or_true, h1, h2]
theorem st8 {p4 s4 t4 : Int} (h : Bd a b c d) : (spar 9 10 (acons (un gMax (lcomp (iseq (rd 8)) (gnm 18) (tv (bin gLe (bin gMulI (rd 18) (pk 3)) (pk 2))) (rd 18) [18])) (acons (un gMin (lcomp (iseq (rd 8)) (gnm 18) (tv (bin gGe (bin gMulI (rd 18) (pk 3)) (pk 2))) (rd 18) [18])) anil))) [.val (.scr ns), .own (rowD ns p4 s4 t4), .val (.int a), .val (.int b), .val (.int c), .val (.int d), .val (fr (red a b)), .val (fr (red c d)), .val (.lst ((List.range 123).map fun (i : Nat) => D.int (-61 + (i : Int)))), .un, .un, .un, .un, .un, .un, .un, .un, .un, .un] = .nx [.val (.scr ns), .own (rowD ns p4 s4 t4), .val (.int a), .val (.int b), .val (.int c), .val (.int d), .val (fr (red a b)), .val (fr (red c d)), .val (.lst ((List.range 123).map fun (i : Nat) => D.int (-61 + (i : Int)))), .val (.int (a / b)), .val (.int (-(-a / b))), .un, .un, .un, .un, .un, .un, .un, .un] := by
  obtain ⟨ha, hb, hc, hd⟩ := h
  have hb0 : 0 < b := by omega
  have bb : bt 10 b := by unfold bt; omega
  have lo : -60 ≤ a / b ∧ a / b ≤ 60 := ⟨(Int.le_ediv_iff_mul_le hb0).mpr (by omega), by
    have : a / b < 61 := Int.ediv_lt_of_lt_mul hb0 (by omega)
    omega⟩
  have up : -60 ≤ -a / b ∧ -a / b ≤ 60 := ⟨(Int.le_ediv_iff_mul_le hb0).mpr (by omega), by
    have : -a / b < 61 := Int.ediv_lt_of_lt_mul hb0 (by omega)
    omega⟩
  have c1 := c_le (a0 := .val (.scr ns)) (a1 := .own (rowD ns p4 s4 t4)) (a4 := .val (.int c)) (a5 := .val (.int d)) (a6 := .val (fr (red a b))) (a7 := .val (fr (red c d))) (a9 := .un) (a10 := .un) (a11 := .un) (a12 := .un) (a13 := .un) (a14 := .un) (a15 := .un) (a16 := .un) (a17 := .un) (a := a) (b := b) bb
  have c2 := c_ge (a0 := .val (.scr ns)) (a1 := .own (rowD ns p4 s4 t4)) (a4 := .val (.int c)) (a5 := .val (.int d)) (a6 := .val (fr (red a b))) (a7 := .val (fr (red c d))) (a9 := .un) (a10 := .un) (a11 := .un) (a12 := .un) (a13 := .un) (a14 := .un) (a15 := .un) (a16 := .un) (a17 := .un) (a := a) (b := b) bb
  unfold fw at c1 c2
  have m1 := pick_max (p := fun (i : Nat) => decide ((-61 + (i : Int)) * b ≤ a)) (v := a / b) (by omega) (by omega) (fun i e => decide_eq_true (by rw [e]; exact (Int.le_ediv_iff_mul_le hb0).mp (Int.le_refl _))) (fun i e => (Int.le_ediv_iff_mul_le hb0).mpr (of_decide_eq_true e))
  have m2 := pick_min (p := fun (i : Nat) => decide (a ≤ (-61 + (i : Int)) * b)) (v := -(-a / b)) (by omega) (by omega) (fun i e => decide_eq_true (by
    rw [e, Int.neg_mul]
    have := (Int.le_ediv_iff_mul_le hb0).mp (Int.le_refl (-a / b))
    omega)) (fun i e => by
    have h1 := of_decide_eq_true e
    have h2 : -(-61 + (i : Int)) ≤ -a / b := (Int.le_ediv_iff_mul_le hb0).mpr (by rw [Int.neg_mul]; omega)
    omega)
  simp only [bind_ok, bind_exn, bind_bad, s_ok, s_exn, s_bad, rd_ap, pk_ap, cst_ap, lift_some, lift_none, bin_ap, has_ap, binL_ap, un_ap, anil_ap, acons_ap, mkTup_ap, mkLst_ap, asB_bl, tv_ap, tnot_ap, tand_ap, tor_ap, vand_ap, vor_ap, vnot_ap, vif_ap, vchain_ap, sasg_ap, sown_ap, sif_ap, sret_ap, sexp_ap, snx_ap, sseq_ap, spar_ap, stg_ap, gnm_ap, gnil_ap, gcons_ap, gtp_ap, call_ap, doF_ok, doF_exn, callB_ap, apk_ap, doFB_ok, isOwn_ap, callI_ap, doI_ap, putOwn_ap, setD_ap, sset_ap, isLst_ap, mutl_ap, mutm_ap, sraise_ap, slcL_ap, slc_ap, pno_ap, psome_ap, unN_ap, iseq_ap, irng1_ap, irng2_ap, lrng_ap, gAdd_int, gInt_ap, at0, at1, at2, at3, gIx_lst, gIx_tup, gIx_scr, gLen_lst, gLen_tup, gLen_scr, gToInt_int, List.getElem?_cons_zero, List.getElem?_cons_succ, List.set_cons_zero, List.set_cons_succ, List.length_cons, List.length_nil, ite_true, ite_false, if_true, if_false, Bool.true_and, Bool.and_true, Bool.false_and, Bool.and_false, decide_true, decide_false, Option.map_some, Option.map_none, Bool.not_true, Bool.not_false, reduceIte, Nat.reduceAdd, Nat.reduceLeDiff, Bool.false_eq_true, Bool.true_eq_false, Bool.false_or, Bool.true_or, Bool.or_false, Bool.or_true, c1, c2, m1, m2]
theorem st9 {p4 s4 t4 : Int} (h : Bd a b c d) : (sasg 11 (un gMax (lcomp (iseq (rd 8)) (gnm 18) (tv (bin gLe (bin gMulI (bin gSub (bin gMulI (cst (.int 2)) (pk 18)) (cst (.int 1))) (pk 3)) (bin gMulI (cst (.int 2)) (pk 2)))) (rd 18) [18]))) [.val (.scr ns), .own (rowD ns p4 s4 t4), .val (.int a), .val (.int b), .val (.int c), .val (.int d), .val (fr (red a b)), .val (fr (red c d)), .val (.lst ((List.range 123).map fun (i : Nat) => D.int (-61 + (i : Int)))), .val (.int (a / b)), .val (.int (-(-a / b))), .un, .un, .un, .un, .un, .un, .un, .un] = .nx [.val (.scr ns), .own (rowD ns p4 s4 t4), .val (.int a), .val (.int b), .val (.int c), .val (.int d), .val (fr (red a b)), .val (fr (red c d)), .val (.lst ((List.range 123).map fun (i : Nat) => D.int (-61 + (i : Int)))), .val (.int (a / b)), .val (.int (-(-a / b))), .val (.int ((2 * a + b) / (2 * b))), .un, .un, .un, .un, .un, .un, .un] := by
  obtain ⟨ha, hb, hc, hd⟩ := h
  have hb0 : 0 < 2 * b := by omega
  have bb : bt 10 b := by unfold bt; omega
  have ba : bt 10 a := by unfold bt; omega
  have lo : -60 ≤ (2 * a + b) / (2 * b) ∧ (2 * a + b) / (2 * b) ≤ 60 := ⟨(Int.le_ediv_iff_mul_le hb0).mpr (by omega), by
    have : (2 * a + b) / (2 * b) < 61 := Int.ediv_lt_of_lt_mul hb0 (by omega)
    omega⟩
  have c1 := c_nr (a0 := .val (.scr ns)) (a1 := .own (rowD ns p4 s4 t4)) (a4 := .val (.int c)) (a5 := .val (.int d)) (a6 := .val (fr (red a b))) (a7 := .val (fr (red c d))) (a9 := .val (.int (a / b))) (a10 := .val (.int (-(-a / b)))) (a11 := .un) (a12 := .un) (a13 := .un) (a14 := .un) (a15 := .un) (a16 := .un) (a17 := .un) (a := a) (b := b) ba bb
  unfold fw at c1
  have key : ∀ k : Int, (2 * k - 1) * b ≤ 2 * a ↔ k * (2 * b) ≤ 2 * a + b := fun k => by
    have e : (2 * k - 1) * b = k * (2 * b) - b := by grind
    rw [e]; omega
  have m1 := pick_max (p := fun (i : Nat) => decide ((2 * (-61 + (i : Int)) - 1) * b ≤ 2 * a)) (v := (2 * a + b) / (2 * b)) (by omega) (by omega) (fun i e => decide_eq_true (by rw [e]; exact (key _).mpr ((Int.le_ediv_iff_mul_le hb0).mp (Int.le_refl _)))) (fun i e => (Int.le_ediv_iff_mul_le hb0).mpr ((key _).mp (of_decide_eq_true e)))
  simp only [bind_ok, bind_exn, bind_bad, s_ok, s_exn, s_bad, rd_ap, pk_ap, cst_ap, lift_some, lift_none, bin_ap, has_ap, binL_ap, un_ap, anil_ap, acons_ap, mkTup_ap, mkLst_ap, asB_bl, tv_ap, tnot_ap, tand_ap, tor_ap, vand_ap, vor_ap, vnot_ap, vif_ap, vchain_ap, sasg_ap, sown_ap, sif_ap, sret_ap, sexp_ap, snx_ap, sseq_ap, spar_ap, stg_ap, gnm_ap, gnil_ap, gcons_ap, gtp_ap, call_ap, doF_ok, doF_exn, callB_ap, apk_ap, doFB_ok, isOwn_ap, callI_ap, doI_ap, putOwn_ap, setD_ap, sset_ap, isLst_ap, mutl_ap, mutm_ap, sraise_ap, slcL_ap, slc_ap, pno_ap, psome_ap, unN_ap, iseq_ap, irng1_ap, irng2_ap, lrng_ap, gAdd_int, gInt_ap, at0, at1, at2, at3, gIx_lst, gIx_tup, gIx_scr, gLen_lst, gLen_tup, gLen_scr, gToInt_int, List.getElem?_cons_zero, List.getElem?_cons_succ, List.set_cons_zero, List.set_cons_succ, List.length_cons, List.length_nil, ite_true, ite_false, if_true, if_false, Bool.true_and, Bool.and_true, Bool.false_and, Bool.and_false, decide_true, decide_false, Option.map_some, Option.map_none, Bool.not_true, Bool.not_false, reduceIte, Nat.reduceAdd, Nat.reduceLeDiff, Bool.false_eq_true, Bool.true_eq_false, Bool.false_or, Bool.true_or, Bool.or_false, Bool.or_true, c1, m1]
theorem st11 {p4 s4 t4 : Int} (ok : OkR p4 s4 t4) : ∃ (p5 s5 t5 : Int) (xs : List (Int × Int)), xs.length ≤ 4 ∧ (∀ x ∈ xs, Pt 6 x) ∧ (spar 12 13 (acons (bin gAdd (mkLst (acons (rd 6) (acons (rd 7) anil))) (lcomp (irng1 (callI 1 R__law_taken (acons (cst (.int 5)) anil))) (gnm 18) tyes (call R_reduced (acons (bin gSub (callI 1 R__law_taken (acons (cst (.int 40)) anil)) (cst (.int 20))) (acons (bin gAdd (cst (.int 1)) (callI 1 R__law_taken (acons (cst (.int 6)) anil))) anil))) [18])) (acons (mkTup (acons (cst (.int 0)) (acons (cst (.int 1)) anil))) anil))) [.val (.scr ns), .own (rowD ns p4 s4 t4), .val (.int a), .val (.int b), .val (.int c), .val (.int d), .val (fr (red a b)), .val (fr (red c d)), .val (.lst ((List.range 123).map fun (i : Nat) => D.int (-61 + (i : Int)))), .val (.int (a / b)), .val (.int (-(-a / b))), .val (.int ((2 * a + b) / (2 * b))), .un, .un, .un, .un, .un, .un, .un] = .nx [.val (.scr ns), .own (rowD ns p5 s5 t5), .val (.int a), .val (.int b), .val (.int c), .val (.int d), .val (fr (red a b)), .val (fr (red c d)), .val (.lst ((List.range 123).map fun (i : Nat) => D.int (-61 + (i : Int)))), .val (.int (a / b)), .val (.int (-(-a / b))), .val (.int ((2 * a + b) / (2 * b))), .val (.lst ((red a b :: red c d :: xs).map fr)), .val (fr (0, 1)), .un, .un, .un, .un, .un] := by
  obtain ⟨p5, s5, t5, xs, ok5, hl, px, e⟩ := draw_rows (ns := ns) (a0 := .val (.scr ns)) (a2 := .val (.int a)) (a3 := .val (.int b)) (a4 := .val (.int c)) (a5 := .val (.int d)) (a6 := .val (fr (red a b))) (a7 := .val (fr (red c d))) (a8 := .val (.lst ((List.range 123).map fun (i : Nat) => D.int (-61 + (i : Int))))) (a9 := .val (.int (a / b))) (a10 := .val (.int (-(-a / b)))) (a11 := .val (.int ((2 * a + b) / (2 * b)))) (a12 := .un) (a13 := .un) (a14 := .un) (a15 := .un) (a16 := .un) (a17 := .un) ok
  refine ⟨p5, s5, t5, xs, hl, px, ?_⟩
  have ga : gAdd (.lst [fr (red a b), fr (red c d)]) (.lst (xs.map fr)) = some (.lst ((red a b :: red c d :: xs).map fr)) := by
    show (if [fr (red a b), fr (red c d)].length + (xs.map fr).length ≤ LIM then some (D.lst ([fr (red a b), fr (red c d)] ++ xs.map fr)) else none) = _
    rw [if_pos (by have : LIM = 1000000 := rfl; rw [List.length_map]; simp only [List.length_cons, List.length_nil]; omega)]
    rfl
  have z2 : (2 : Nat) ≤ LIM := by decide
  have f01 : D.tup [.int 0, .int 1] = fr (0, 1) := rfl
  simp only [bind_ok, bind_exn, bind_bad, s_ok, s_exn, s_bad, rd_ap, pk_ap, cst_ap, lift_some, lift_none, bin_ap, has_ap, binL_ap, un_ap, anil_ap, acons_ap, mkTup_ap, mkLst_ap, asB_bl, tv_ap, tnot_ap, tand_ap, tor_ap, vand_ap, vor_ap, vnot_ap, vif_ap, vchain_ap, sasg_ap, sown_ap, sif_ap, sret_ap, sexp_ap, snx_ap, sseq_ap, spar_ap, stg_ap, gnm_ap, gnil_ap, gcons_ap, gtp_ap, call_ap, doF_ok, doF_exn, callB_ap, apk_ap, doFB_ok, isOwn_ap, callI_ap, doI_ap, putOwn_ap, setD_ap, sset_ap, isLst_ap, mutl_ap, mutm_ap, sraise_ap, slcL_ap, slc_ap, pno_ap, psome_ap, unN_ap, iseq_ap, irng1_ap, irng2_ap, lrng_ap, gAdd_int, gInt_ap, at0, at1, at2, at3, gIx_lst, gIx_tup, gIx_scr, gLen_lst, gLen_tup, gLen_scr, gToInt_int, List.getElem?_cons_zero, List.getElem?_cons_succ, List.set_cons_zero, List.set_cons_succ, List.length_cons, List.length_nil, ite_true, ite_false, if_true, if_false, Bool.true_and, Bool.and_true, Bool.false_and, Bool.and_false, decide_true, decide_false, Option.map_some, Option.map_none, Bool.not_true, Bool.not_false, reduceIte, Nat.reduceAdd, Nat.reduceLeDiff, Bool.false_eq_true, Bool.true_eq_false, Bool.false_or, Bool.true_or, Bool.or_false, Bool.or_true, e, ga, z2, f01]
theorem law_true : ∀ ns : List Int, ns.length ≤ 63 → ∃ io, R_law [.scr ns] = .ok (.bl true) io := by
  intro ns _
  obtain ⟨a, b, c, d, p4, s4, t4, bd, ok4, e2⟩ := st2 (ns := ns)
  obtain ⟨p5, s5, t5, xs, hl, px, e11⟩ := st11 (ns := ns) (a := a) (b := b) (c := c) (d := d) ok4
  obtain ⟨ha, hb, hc, hd⟩ := id bd
  have pa : Pt 60 (red a b) := pt_red (by omega) (by omega) (by decide) ha
  have pc : Pt 60 (red c d) := pt_red (by omega) (by omega) (by decide) hc
  have all : ∀ x ∈ (red a b :: red c d :: xs), 0 < x.2 ∧ bt 12 x.1 ∧ bt 12 x.2 ∧ red x.1 x.2 = x := fun x hx => by
    rcases List.mem_cons.mp hx with q | hx
    · subst q; exact ⟨pa.1, pa.2.2.1, pa.2.2.2.1, pa.2.2.2.2⟩
    rcases List.mem_cons.mp hx with q | hx
    · subst q; exact ⟨pc.1, pc.2.2.1, pc.2.2.2.1, pc.2.2.2.2⟩
    · have z := px x hx; exact ⟨z.1, z.2.2.1, z.2.2.2.1, z.2.2.2.2⟩
  have gd : Gd 12 (red a b :: red c d :: xs) := fun x hx => ⟨(all x hx).1, (all x hx).2.1, (all x hx).2.2.1⟩
  have len : (red a b :: red c d :: xs).length = xs.length + 2 := rfl
  have dp : ((0, 1) : Int × Int).2 * dprod (red a b :: red c d :: xs) ≤ 100000000 := by
    have h6 := dprod_6 (xs := xs) fun x hx => ⟨(px x hx).1, (px x hx).2.1⟩
    have h0 := dprod_pos (xs := xs) fun x hx => (px x hx).1
    have h7 : (6 : Int) ^ xs.length ≤ 6 ^ 4 := (show ∀ n : Nat, n ≤ 4 → (6 : Int) ^ n ≤ 6 ^ 4 by decide) _ hl
    have h8 : dprod xs ≤ 1296 := Int.le_trans h6 h7
    have e : ((0, 1) : Int × Int).2 * dprod (red a b :: red c d :: xs) = (red a b).2 * ((red c d).2 * dprod xs) := by show 1 * ((red a b).2 * ((red c d).2 * dprod xs)) = _; rw [Int.one_mul]
    rw [e]
    have h9 : (red c d).2 * dprod xs ≤ 60 * 1296 := Int.mul_le_mul pc.2.1 h8 (Int.le_of_lt h0) (by decide)
    have h10 : 0 < (red c d).2 * dprod xs := Int.mul_pos pc.1 h0
    have h11 : (red a b).2 * ((red c d).2 * dprod xs) ≤ 60 * (60 * 1296) := Int.mul_le_mul pa.2.1 h9 (Int.le_of_lt h10) (by decide)
    omega
  have srp := srt_perm (red c d :: xs) [red a b]
  have srp' : (srt [red a b] (red c d :: xs)).Perm (red a b :: red c d :: xs) := srp
  have srs := srt_sorted (red c d :: xs) [red a b] (fun y hy => (all y (List.mem_cons_of_mem _ hy)).1) (fun y hy => by rw [List.mem_singleton] at hy; subst hy; exact pa.1) (by simp)
  have ml := mid_law (L := srt [red a b] (red c d :: xs)) (by rw [srp'.length_eq, len]; omega) (fun y hy => (all y (srp'.mem_iff.mp hy)).1) srs (fun y hy => (all y (srp'.mem_iff.mp hy)).2.2.2)
  have med := r_median (k := 12) (by decide) gd (by simp only [List.length_cons]; omega)
  obtain ⟨bel, abv, odd, m0⟩ := ml
  rw [(srp'.filter _).length_eq, srp'.length_eq] at bel
  rw [(srp'.filter _).length_eq, srp'.length_eq] at abv
  rw [srp'.length_eq, srp'.mem_iff] at odd
  have mb : bt 40 (mid (srt [red a b] (red c d :: xs))).1 ∧ bt 40 (mid (srt [red a b] (red c d :: xs))).2 := by
    have n0 : 0 < (srt [red a b] (red c d :: xs)).length := by rw [srp'.length_eq, len]; omega
    generalize hL : srt [red a b] (red c d :: xs) = L at *
    have i1 : (L.length - 1) / 2 < L.length := by omega
    have i2 : L.length / 2 < L.length := by omega
    have q1 : L[(L.length - 1) / 2]? = some L[(L.length - 1) / 2] := List.getElem?_eq_getElem i1
    have q2 : L[L.length / 2]? = some L[L.length / 2] := List.getElem?_eq_getElem i2
    have f := all _ (srp'.mem_iff.mp (List.getElem_mem i1))
    have s := all _ (srp'.mem_iff.mp (List.getElem_mem i2))
    rw [mid_is f.1 s.1 q1 q2]
    have c2 : bt 2 (2 : Int) := by unfold bt; decide
    have hD := Int.mul_pos (Int.mul_pos f.1 s.1) (show (0 : Int) < 2 by decide)
    exact ⟨(red_bt hD ((f.2.1.mul s.2.2.1).add (s.2.1.mul f.2.2.1))).le (by decide), (red_bt2 hD ((f.2.2.1.mul s.2.2.1).mul c2)).le (by decide)⟩
  generalize hm : (mid (srt [red a b] (red c d :: xs))) = m at *
  obtain ⟨z14, hz14, wl⟩ := whole_loop (a0 := .val (.scr ns)) (a1 := .own (rowD ns p5 s5 t5)) (a2 := .val (.int a)) (a3 := .val (.int b)) (a4 := .val (.int c)) (a5 := .val (.int d)) (a6 := .val (fr (red a b))) (a7 := .val (fr (red c d))) (a8 := .val (.lst ((List.range 123).map fun (i : Nat) => D.int (-61 + (i : Int))))) (a9 := .val (.int (a / b))) (a10 := .val (.int (-(-a / b)))) (a11 := .val (.int ((2 * a + b) / (2 * b)))) (a12 := .val (.lst ((red a b :: red c d :: xs).map fr))) (a15 := .un) (a16 := .un) (a17 := .un) (a18 := .un)
    (red a b :: red c d :: xs) (0, 1) .un 1 rfl (by decide) (by unfold bt; decide) (by unfold bt; decide) gd (by rw [len]; omega) dp
  have tl := r_total gd (by rw [len]; omega)
  have e1 : (sown 1 (mkLst (acons (rd 0) (acons (cst (.int 0)) (acons (cst (.int 61)) (acons (cst (.int 0)) anil)))))) [.val (.scr ns), .un, .un, .un, .un, .un, .un, .un, .un, .un, .un, .un, .un, .un, .un, .un, .un, .un, .un] = .nx [.val (.scr ns), .own (rowD ns 0 61 0), .un, .un, .un, .un, .un, .un, .un, .un, .un, .un, .un, .un, .un, .un, .un, .un, .un] := rfl
  have e7 : (sasg 8 (lrng (un gNeg (cst (.int 61))) (cst (.int 62)))) [.val (.scr ns), .own (rowD ns p4 s4 t4), .val (.int a), .val (.int b), .val (.int c), .val (.int d), .val (fr (red a b)), .val (fr (red c d)), .un, .un, .un, .un, .un, .un, .un, .un, .un, .un, .un] = .nx [.val (.scr ns), .own (rowD ns p4 s4 t4), .val (.int a), .val (.int b), .val (.int c), .val (.int d), .val (fr (red a b)), .val (fr (red c d)), .val (.lst ((List.range 123).map fun (i : Nat) => D.int (-61 + (i : Int)))), .un, .un, .un, .un, .un, .un, .un, .un, .un, .un] := rfl
  have gl : ∀ xs : List D, gSeq (.lst xs) = some xs := fun _ => rfl
  have e12 : (sfor (iseq (rd 12)) (gnm 14) (sasg 13 (call R__law_low (acons (bin gAdd (bin gMulI (binL gIx 13 (cst (.int 0))) (binL gIx 14 (cst (.int 1)))) (bin gMulI (binL gIx 14 (cst (.int 0))) (binL gIx 13 (cst (.int 1))))) (acons (bin gMulI (binL gIx 13 (cst (.int 1))) (binL gIx 14 (cst (.int 1)))) anil))))) [.val (.scr ns), .own (rowD ns p5 s5 t5), .val (.int a), .val (.int b), .val (.int c), .val (.int d), .val (fr (red a b)), .val (fr (red c d)), .val (.lst ((List.range 123).map fun (i : Nat) => D.int (-61 + (i : Int)))), .val (.int (a / b)), .val (.int (-(-a / b))), .val (.int ((2 * a + b) / (2 * b))), .val (.lst ((red a b :: red c d :: xs).map fr)), .val (fr (0, 1)), .un, .un, .un, .un, .un] = .nx [.val (.scr ns), .own (rowD ns p5 s5 t5), .val (.int a), .val (.int b), .val (.int c), .val (.int d), .val (fr (red a b)), .val (fr (red c d)), .val (.lst ((List.range 123).map fun (i : Nat) => D.int (-61 + (i : Int)))), .val (.int (a / b)), .val (.int (-(-a / b))), .val (.int ((2 * a + b) / (2 * b))), .val (.lst ((red a b :: red c d :: xs).map fr)), .val (fr (tot (0, 1) (red a b :: red c d :: xs))), z14, .un, .un, .un, .un] := by
    rw [sfor_ap, iseq_ap]
    simp only [rd_ap, List.getElem?_cons_zero, List.getElem?_cons_succ, bind_ok, gl, s_ok]
    exact wl
  have al := alike_fr (tot (0, 1) (red a b :: red c d :: xs))
  have e13 : (sif (tnot (tv (call (R__law_alike 24) (acons (call R_total (acons (rd 12) anil)) (acons (rd 13) anil))))) (sret (cst (.bl false))) snx) [.val (.scr ns), .own (rowD ns p5 s5 t5), .val (.int a), .val (.int b), .val (.int c), .val (.int d), .val (fr (red a b)), .val (fr (red c d)), .val (.lst ((List.range 123).map fun (i : Nat) => D.int (-61 + (i : Int)))), .val (.int (a / b)), .val (.int (-(-a / b))), .val (.int ((2 * a + b) / (2 * b))), .val (.lst ((red a b :: red c d :: xs).map fr)), .val (fr (tot (0, 1) (red a b :: red c d :: xs))), z14, .un, .un, .un, .un] = .nx [.val (.scr ns), .own (rowD ns p5 s5 t5), .val (.int a), .val (.int b), .val (.int c), .val (.int d), .val (fr (red a b)), .val (fr (red c d)), .val (.lst ((List.range 123).map fun (i : Nat) => D.int (-61 + (i : Int)))), .val (.int (a / b)), .val (.int (-(-a / b))), .val (.int ((2 * a + b) / (2 * b))), .val (.lst ((red a b :: red c d :: xs).map fr)), .val (fr (tot (0, 1) (red a b :: red c d :: xs))), z14, .un, .un, .un, .un] := by
    simp only [bind_ok, bind_exn, bind_bad, s_ok, s_exn, s_bad, rd_ap, pk_ap, cst_ap, lift_some, lift_none, bin_ap, has_ap, binL_ap, un_ap, anil_ap, acons_ap, mkTup_ap, mkLst_ap, asB_bl, tv_ap, tnot_ap, tand_ap, tor_ap, vand_ap, vor_ap, vnot_ap, vif_ap, vchain_ap, sasg_ap, sown_ap, sif_ap, sret_ap, sexp_ap, snx_ap, sseq_ap, spar_ap, stg_ap, gnm_ap, gnil_ap, gcons_ap, gtp_ap, call_ap, doF_ok, doF_exn, callB_ap, apk_ap, doFB_ok, isOwn_ap, callI_ap, doI_ap, putOwn_ap, setD_ap, sset_ap, isLst_ap, mutl_ap, mutm_ap, sraise_ap, slcL_ap, slc_ap, pno_ap, psome_ap, unN_ap, iseq_ap, irng1_ap, irng2_ap, lrng_ap, gAdd_int, gInt_ap, at0, at1, at2, at3, gIx_lst, gIx_tup, gIx_scr, gLen_lst, gLen_tup, gLen_scr, gToInt_int, List.getElem?_cons_zero, List.getElem?_cons_succ, List.set_cons_zero, List.set_cons_succ, List.length_cons, List.length_nil, ite_true, ite_false, if_true, if_false, Bool.true_and, Bool.and_true, Bool.false_and, Bool.and_false, decide_true, decide_false, Option.map_some, Option.map_none, Bool.not_true, Bool.not_false, reduceIte, Nat.reduceAdd, Nat.reduceLeDiff, Bool.false_eq_true, Bool.true_eq_false, Bool.false_or, Bool.true_or, Bool.or_false, Bool.or_true, tl, al]
  have e14 : (sasg 15 (call R_median (acons (rd 12) anil))) [.val (.scr ns), .own (rowD ns p5 s5 t5), .val (.int a), .val (.int b), .val (.int c), .val (.int d), .val (fr (red a b)), .val (fr (red c d)), .val (.lst ((List.range 123).map fun (i : Nat) => D.int (-61 + (i : Int)))), .val (.int (a / b)), .val (.int (-(-a / b))), .val (.int ((2 * a + b) / (2 * b))), .val (.lst ((red a b :: red c d :: xs).map fr)), .val (fr (tot (0, 1) (red a b :: red c d :: xs))), z14, .un, .un, .un, .un] = .nx [.val (.scr ns), .own (rowD ns p5 s5 t5), .val (.int a), .val (.int b), .val (.int c), .val (.int d), .val (fr (red a b)), .val (fr (red c d)), .val (.lst ((List.range 123).map fun (i : Nat) => D.int (-61 + (i : Int)))), .val (.int (a / b)), .val (.int (-(-a / b))), .val (.int ((2 * a + b) / (2 * b))), .val (.lst ((red a b :: red c d :: xs).map fr)), .val (fr (tot (0, 1) (red a b :: red c d :: xs))), z14, .val (fr m), .un, .un, .un] := by
    simp only [bind_ok, bind_exn, bind_bad, s_ok, s_exn, s_bad, rd_ap, pk_ap, cst_ap, lift_some, lift_none, bin_ap, has_ap, binL_ap, un_ap, anil_ap, acons_ap, mkTup_ap, mkLst_ap, asB_bl, tv_ap, tnot_ap, tand_ap, tor_ap, vand_ap, vor_ap, vnot_ap, vif_ap, vchain_ap, sasg_ap, sown_ap, sif_ap, sret_ap, sexp_ap, snx_ap, sseq_ap, spar_ap, stg_ap, gnm_ap, gnil_ap, gcons_ap, gtp_ap, call_ap, doF_ok, doF_exn, callB_ap, apk_ap, doFB_ok, isOwn_ap, callI_ap, doI_ap, putOwn_ap, setD_ap, sset_ap, isLst_ap, mutl_ap, mutm_ap, sraise_ap, slcL_ap, slc_ap, pno_ap, psome_ap, unN_ap, iseq_ap, irng1_ap, irng2_ap, lrng_ap, gAdd_int, gInt_ap, at0, at1, at2, at3, gIx_lst, gIx_tup, gIx_scr, gLen_lst, gLen_tup, gLen_scr, gToInt_int, List.getElem?_cons_zero, List.getElem?_cons_succ, List.set_cons_zero, List.set_cons_succ, List.length_cons, List.length_nil, ite_true, ite_false, if_true, if_false, Bool.true_and, Bool.and_true, Bool.false_and, Bool.and_false, decide_true, decide_false, Option.map_some, Option.map_none, Bool.not_true, Bool.not_false, reduceIte, Nat.reduceAdd, Nat.reduceLeDiff, Bool.false_eq_true, Bool.true_eq_false, Bool.false_or, Bool.true_or, Bool.or_false, Bool.or_true, med]
  have cb := c_bel (a0 := .val (.scr ns)) (a1 := .own (rowD ns p5 s5 t5)) (a2 := .val (.int a)) (a3 := .val (.int b)) (a4 := .val (.int c)) (a5 := .val (.int d)) (a6 := .val (fr (red a b))) (a7 := .val (fr (red c d))) (a8 := .val (.lst ((List.range 123).map fun (i : Nat) => D.int (-61 + (i : Int))))) (a9 := .val (.int (a / b))) (a10 := .val (.int (-(-a / b)))) (a11 := .val (.int ((2 * a + b) / (2 * b)))) (a13 := .val (fr (tot (0, 1) (red a b :: red c d :: xs)))) (a16 := .un) (a17 := .un) (a18 := .un) hz14 (j := 40) (k := 12) (by decide) mb.1 mb.2 (red a b :: red c d :: xs) gd (by rw [len]; omega)
  have e15 : (sasg 9 (un gLen (lcomp (iseq (rd 12)) (gnm 14) (tv (bin gLt (bin gMulI (binL gIx 14 (cst (.int 0))) (binL gIx 15 (cst (.int 1)))) (bin gMulI (binL gIx 15 (cst (.int 0))) (binL gIx 14 (cst (.int 1)))))) (cst (.int 1)) [14]))) [.val (.scr ns), .own (rowD ns p5 s5 t5), .val (.int a), .val (.int b), .val (.int c), .val (.int d), .val (fr (red a b)), .val (fr (red c d)), .val (.lst ((List.range 123).map fun (i : Nat) => D.int (-61 + (i : Int)))), .val (.int (a / b)), .val (.int (-(-a / b))), .val (.int ((2 * a + b) / (2 * b))), .val (.lst ((red a b :: red c d :: xs).map fr)), .val (fr (tot (0, 1) (red a b :: red c d :: xs))), z14, .val (fr m), .un, .un, .un] = .nx [.val (.scr ns), .own (rowD ns p5 s5 t5), .val (.int a), .val (.int b), .val (.int c), .val (.int d), .val (fr (red a b)), .val (fr (red c d)), .val (.lst ((List.range 123).map fun (i : Nat) => D.int (-61 + (i : Int)))), .val (.int (((red a b :: red c d :: xs).filter fun x => lt x m).length : Nat)), .val (.int (-(-a / b))), .val (.int ((2 * a + b) / (2 * b))), .val (.lst ((red a b :: red c d :: xs).map fr)), .val (fr (tot (0, 1) (red a b :: red c d :: xs))), z14, .val (fr m), .un, .un, .un] := by
    simp only [bind_ok, bind_exn, bind_bad, s_ok, s_exn, s_bad, rd_ap, pk_ap, cst_ap, lift_some, lift_none, bin_ap, has_ap, binL_ap, un_ap, anil_ap, acons_ap, mkTup_ap, mkLst_ap, asB_bl, tv_ap, tnot_ap, tand_ap, tor_ap, vand_ap, vor_ap, vnot_ap, vif_ap, vchain_ap, sasg_ap, sown_ap, sif_ap, sret_ap, sexp_ap, snx_ap, sseq_ap, spar_ap, stg_ap, gnm_ap, gnil_ap, gcons_ap, gtp_ap, call_ap, doF_ok, doF_exn, callB_ap, apk_ap, doFB_ok, isOwn_ap, callI_ap, doI_ap, putOwn_ap, setD_ap, sset_ap, isLst_ap, mutl_ap, mutm_ap, sraise_ap, slcL_ap, slc_ap, pno_ap, psome_ap, unN_ap, iseq_ap, irng1_ap, irng2_ap, lrng_ap, gAdd_int, gInt_ap, at0, at1, at2, at3, gIx_lst, gIx_tup, gIx_scr, gLen_lst, gLen_tup, gLen_scr, gToInt_int, List.getElem?_cons_zero, List.getElem?_cons_succ, List.set_cons_zero, List.set_cons_succ, List.length_cons, List.length_nil, ite_true, ite_false, if_true, if_false, Bool.true_and, Bool.and_true, Bool.false_and, Bool.and_false, decide_true, decide_false, Option.map_some, Option.map_none, Bool.not_true, Bool.not_false, reduceIte, Nat.reduceAdd, Nat.reduceLeDiff, Bool.false_eq_true, Bool.true_eq_false, Bool.false_or, Bool.true_or, Bool.or_false, Bool.or_true, cb, List.length_map]
  have ca := c_abv (a0 := .val (.scr ns)) (a1 := .own (rowD ns p5 s5 t5)) (a2 := .val (.int a)) (a3 := .val (.int b)) (a4 := .val (.int c)) (a5 := .val (.int d)) (a6 := .val (fr (red a b))) (a7 := .val (fr (red c d))) (a8 := .val (.lst ((List.range 123).map fun (i : Nat) => D.int (-61 + (i : Int))))) (a9 := .val (.int (((red a b :: red c d :: xs).filter fun x => lt x m).length : Nat))) (a10 := .val (.int (-(-a / b)))) (a11 := .val (.int ((2 * a + b) / (2 * b)))) (a13 := .val (fr (tot (0, 1) (red a b :: red c d :: xs)))) (a16 := .un) (a17 := .un) (a18 := .un) hz14 (j := 40) (k := 12) (by decide) mb.1 mb.2 (red a b :: red c d :: xs) gd (by rw [len]; omega)
  have e16 : (sasg 10 (un gLen (lcomp (iseq (rd 12)) (gnm 14) (tv (bin gGt (bin gMulI (binL gIx 14 (cst (.int 0))) (binL gIx 15 (cst (.int 1)))) (bin gMulI (binL gIx 15 (cst (.int 0))) (binL gIx 14 (cst (.int 1)))))) (cst (.int 1)) [14]))) [.val (.scr ns), .own (rowD ns p5 s5 t5), .val (.int a), .val (.int b), .val (.int c), .val (.int d), .val (fr (red a b)), .val (fr (red c d)), .val (.lst ((List.range 123).map fun (i : Nat) => D.int (-61 + (i : Int)))), .val (.int (((red a b :: red c d :: xs).filter fun x => lt x m).length : Nat)), .val (.int (-(-a / b))), .val (.int ((2 * a + b) / (2 * b))), .val (.lst ((red a b :: red c d :: xs).map fr)), .val (fr (tot (0, 1) (red a b :: red c d :: xs))), z14, .val (fr m), .un, .un, .un] = .nx [.val (.scr ns), .own (rowD ns p5 s5 t5), .val (.int a), .val (.int b), .val (.int c), .val (.int d), .val (fr (red a b)), .val (fr (red c d)), .val (.lst ((List.range 123).map fun (i : Nat) => D.int (-61 + (i : Int)))), .val (.int (((red a b :: red c d :: xs).filter fun x => lt x m).length : Nat)), .val (.int (((red a b :: red c d :: xs).filter fun x => lt m x).length : Nat)), .val (.int ((2 * a + b) / (2 * b))), .val (.lst ((red a b :: red c d :: xs).map fr)), .val (fr (tot (0, 1) (red a b :: red c d :: xs))), z14, .val (fr m), .un, .un, .un] := by
    simp only [bind_ok, bind_exn, bind_bad, s_ok, s_exn, s_bad, rd_ap, pk_ap, cst_ap, lift_some, lift_none, bin_ap, has_ap, binL_ap, un_ap, anil_ap, acons_ap, mkTup_ap, mkLst_ap, asB_bl, tv_ap, tnot_ap, tand_ap, tor_ap, vand_ap, vor_ap, vnot_ap, vif_ap, vchain_ap, sasg_ap, sown_ap, sif_ap, sret_ap, sexp_ap, snx_ap, sseq_ap, spar_ap, stg_ap, gnm_ap, gnil_ap, gcons_ap, gtp_ap, call_ap, doF_ok, doF_exn, callB_ap, apk_ap, doFB_ok, isOwn_ap, callI_ap, doI_ap, putOwn_ap, setD_ap, sset_ap, isLst_ap, mutl_ap, mutm_ap, sraise_ap, slcL_ap, slc_ap, pno_ap, psome_ap, unN_ap, iseq_ap, irng1_ap, irng2_ap, lrng_ap, gAdd_int, gInt_ap, at0, at1, at2, at3, gIx_lst, gIx_tup, gIx_scr, gLen_lst, gLen_tup, gLen_scr, gToInt_int, List.getElem?_cons_zero, List.getElem?_cons_succ, List.set_cons_zero, List.set_cons_succ, List.length_cons, List.length_nil, ite_true, ite_false, if_true, if_false, Bool.true_and, Bool.and_true, Bool.false_and, Bool.and_false, decide_true, decide_false, Option.map_some, Option.map_none, Bool.not_true, Bool.not_false, reduceIte, Nat.reduceAdd, Nat.reduceLeDiff, Bool.false_eq_true, Bool.true_eq_false, Bool.false_or, Bool.true_or, Bool.or_false, Bool.or_true, ca, List.length_map]
  have e17 : (sif (tor (tv (bin gGt (bin gMulI (cst (.int 2)) (pk 9)) (un gLen (pk 12)))) (tor (tv (bin gGt (bin gMulI (cst (.int 2)) (pk 10)) (un gLen (pk 12)))) (tand (tv (bin (gEq false) (bin gMod (un gLen (pk 12)) (cst (.int 2))) (cst (.int 1)))) (tv (bin (gIn true) (rd 15) (pk 12)))))) (sret (cst (.bl false))) snx) [.val (.scr ns), .own (rowD ns p5 s5 t5), .val (.int a), .val (.int b), .val (.int c), .val (.int d), .val (fr (red a b)), .val (fr (red c d)), .val (.lst ((List.range 123).map fun (i : Nat) => D.int (-61 + (i : Int)))), .val (.int (((red a b :: red c d :: xs).filter fun x => lt x m).length : Nat)), .val (.int (((red a b :: red c d :: xs).filter fun x => lt m x).length : Nat)), .val (.int ((2 * a + b) / (2 * b))), .val (.lst ((red a b :: red c d :: xs).map fr)), .val (fr (tot (0, 1) (red a b :: red c d :: xs))), z14, .val (fr m), .un, .un, .un] = .nx [.val (.scr ns), .own (rowD ns p5 s5 t5), .val (.int a), .val (.int b), .val (.int c), .val (.int d), .val (fr (red a b)), .val (fr (red c d)), .val (.lst ((List.range 123).map fun (i : Nat) => D.int (-61 + (i : Int)))), .val (.int (((red a b :: red c d :: xs).filter fun x => lt x m).length : Nat)), .val (.int (((red a b :: red c d :: xs).filter fun x => lt m x).length : Nat)), .val (.int ((2 * a + b) / (2 * b))), .val (.lst ((red a b :: red c d :: xs).map fr)), .val (fr (tot (0, 1) (red a b :: red c d :: xs))), z14, .val (fr m), .un, .un, .un] := by
    have lle : ∀ p : Int × Int → Bool, ((red a b :: red c d :: xs).filter p).length ≤ 6 := fun p => Nat.le_trans (List.length_filter_le _ _) (by rw [len]; omega)
    have c2 : bt 2 (2 : Int) := by unfold bt; decide
    have q1 := lle fun x => lt x m
    have q2 := lle fun x => lt m x
    have m1 := gMulI_ok c2 (b := (((red a b :: red c d :: xs).filter fun x => lt x m).length : Nat)) (k := 5) (by unfold bt; omega) (by decide)
    have m2 := gMulI_ok c2 (b := (((red a b :: red c d :: xs).filter fun x => lt m x).length : Nat)) (k := 5) (by unfold bt; omega) (by decide)
    have n1 : ¬ (((red a b :: red c d :: xs).length : Nat) : Int) < 2 * ((((red a b :: red c d :: xs).filter fun x => lt x m).length : Nat) : Int) := by omega
    have n2 : ¬ (((red a b :: red c d :: xs).length : Nat) : Int) < 2 * ((((red a b :: red c d :: xs).filter fun x => lt m x).length : Nat) : Int) := by omega
    have gm : gMod (.int ((red a b :: red c d :: xs).length : Nat)) (.int 2) = some (.int ((((red a b :: red c d :: xs).length : Nat) : Int) % 2)) := gMod_ok (by decide)
    have gll : gLen (.lst ((red a b :: red c d :: xs).map fr)) = some (.int ((red a b :: red c d :: xs).length : Nat)) := by rw [gLen_lst, List.length_map]
    generalize hR : (red a b :: red c d :: xs) = R at *
    by_cases od : R.length % 2 = 1
    · have gi := gIn_fr (odd od)
      have od' : ((R.length : Nat) : Int) % 2 = 1 := by omega
      simp only [bind_ok, bind_exn, bind_bad, s_ok, s_exn, s_bad, rd_ap, pk_ap, cst_ap, lift_some, lift_none, bin_ap, has_ap, binL_ap, un_ap, anil_ap, acons_ap, mkTup_ap, mkLst_ap, asB_bl, tv_ap, tnot_ap, tand_ap, tor_ap, vand_ap, vor_ap, vnot_ap, vif_ap, vchain_ap, sasg_ap, sown_ap, sif_ap, sret_ap, sexp_ap, snx_ap, sseq_ap, spar_ap, stg_ap, gnm_ap, gnil_ap, gcons_ap, gtp_ap, call_ap, doF_ok, doF_exn, callB_ap, apk_ap, doFB_ok, isOwn_ap, callI_ap, doI_ap, putOwn_ap, setD_ap, sset_ap, isLst_ap, mutl_ap, mutm_ap, sraise_ap, slcL_ap, slc_ap, pno_ap, psome_ap, unN_ap, iseq_ap, irng1_ap, irng2_ap, lrng_ap, gAdd_int, gInt_ap, at0, at1, at2, at3, gIx_lst, gIx_tup, gIx_scr, gLen_lst, gLen_tup, gLen_scr, gToInt_int, List.getElem?_cons_zero, List.getElem?_cons_succ, List.set_cons_zero, List.set_cons_succ, List.length_cons, List.length_nil, ite_true, ite_false, if_true, if_false, Bool.true_and, Bool.and_true, Bool.false_and, Bool.and_false, decide_true, decide_false, Option.map_some, Option.map_none, Bool.not_true, Bool.not_false, reduceIte, Nat.reduceAdd, Nat.reduceLeDiff, Bool.false_eq_true, Bool.true_eq_false, Bool.false_or, Bool.true_or, Bool.or_false, Bool.or_true, gll, m1, m2, n1, n2, gm, gEq_int, od', beq_self_eq_true, Bool.xor_false, gi]
    · have od' : (((R.length : Nat) : Int) % 2 == 1) = false := by
        have : ¬ ((R.length : Nat) : Int) % 2 = 1 := by omega
        simpa using this
      simp only [bind_ok, bind_exn, bind_bad, s_ok, s_exn, s_bad, rd_ap, pk_ap, cst_ap, lift_some, lift_none, bin_ap, has_ap, binL_ap, un_ap, anil_ap, acons_ap, mkTup_ap, mkLst_ap, asB_bl, tv_ap, tnot_ap, tand_ap, tor_ap, vand_ap, vor_ap, vnot_ap, vif_ap, vchain_ap, sasg_ap, sown_ap, sif_ap, sret_ap, sexp_ap, snx_ap, sseq_ap, spar_ap, stg_ap, gnm_ap, gnil_ap, gcons_ap, gtp_ap, call_ap, doF_ok, doF_exn, callB_ap, apk_ap, doFB_ok, isOwn_ap, callI_ap, doI_ap, putOwn_ap, setD_ap, sset_ap, isLst_ap, mutl_ap, mutm_ap, sraise_ap, slcL_ap, slc_ap, pno_ap, psome_ap, unN_ap, iseq_ap, irng1_ap, irng2_ap, lrng_ap, gAdd_int, gInt_ap, at0, at1, at2, at3, gIx_lst, gIx_tup, gIx_scr, gLen_lst, gLen_tup, gLen_scr, gToInt_int, List.getElem?_cons_zero, List.getElem?_cons_succ, List.set_cons_zero, List.set_cons_succ, List.length_cons, List.length_nil, ite_true, ite_false, if_true, if_false, Bool.true_and, Bool.and_true, Bool.false_and, Bool.and_false, decide_true, decide_false, Option.map_some, Option.map_none, Bool.not_true, Bool.not_false, reduceIte, Nat.reduceAdd, Nat.reduceLeDiff, Bool.false_eq_true, Bool.true_eq_false, Bool.false_or, Bool.true_or, Bool.or_false, Bool.or_true, gll, m1, m2, n1, n2, gm, gEq_int, od', Bool.xor_false]
  have hnx : ∀ v : D, noXc [.val (.scr ns), .own (rowD ns p5 s5 t5), .val (.int a), .val (.int b), .val (.int c), .val (.int d), .val (fr (red a b)), .val (fr (red c d)), .val (.lst ((List.range 123).map fun (i : Nat) => D.int (-61 + (i : Int)))), .val (.int (((red a b :: red c d :: xs).filter fun x => lt x m).length : Nat)), .val (.int (((red a b :: red c d :: xs).filter fun x => lt m x).length : Nat)), .val (.int ((2 * a + b) / (2 * b))), .val (.lst ((red a b :: red c d :: xs).map fr)), .val (fr (tot (0, 1) (red a b :: red c d :: xs))), z14, .val (fr m), .val v, .un, .un] = true := fun v => by cases z14 <;> first | rfl | cases hz14
  have hcat : cat_BadNumber "BadNumber" = some true := by decide +kernel
  have hkn : kn_value "BadNumber" = true := by decide +kernel
  have hlk : ∀ v : D, ((["value"] : List Str).zip [v]).lookup ("value" : Str) = some v := fun v => by simp [List.lookup]
  have turn : ∀ (v : D) (w : Str) (z : Sl), R_is_fraction [v] = .ok (.bl false) .non → gRepr v = some (.str w) → (sseq (sif (tv (call R_is_fraction (acons (rd 16) anil))) (sret (cst (.bl false))) snx) (stry 17 cat_BadNumber (sseq (sexp (call R_want_fraction (acons (rd 16) anil))) (sret (cst (.bl false)))) (sif (tv (bin (gEq true) (un gRepr (xfld 17 kn_value "value")) (un gRepr (pk 16)))) (sret (cst (.bl false))) snx))) [.val (.scr ns), .own (rowD ns p5 s5 t5), .val (.int a), .val (.int b), .val (.int c), .val (.int d), .val (fr (red a b)), .val (fr (red c d)), .val (.lst ((List.range 123).map fun (i : Nat) => D.int (-61 + (i : Int)))), .val (.int (((red a b :: red c d :: xs).filter fun x => lt x m).length : Nat)), .val (.int (((red a b :: red c d :: xs).filter fun x => lt m x).length : Nat)), .val (.int ((2 * a + b) / (2 * b))), .val (.lst ((red a b :: red c d :: xs).map fr)), .val (fr (tot (0, 1) (red a b :: red c d :: xs))), z14, .val (fr m), .val v, .un, .un] = .nx [.val (.scr ns), .own (rowD ns p5 s5 t5), .val (.int a), .val (.int b), .val (.int c), .val (.int d), .val (fr (red a b)), .val (fr (red c d)), .val (.lst ((List.range 123).map fun (i : Nat) => D.int (-61 + (i : Int)))), .val (.int (((red a b :: red c d :: xs).filter fun x => lt x m).length : Nat)), .val (.int (((red a b :: red c d :: xs).filter fun x => lt m x).length : Nat)), .val (.int ((2 * a + b) / (2 * b))), .val (.lst ((red a b :: red c d :: xs).map fr)), .val (fr (tot (0, 1) (red a b :: red c d :: xs))), z14, .val (fr m), .val v, .un, .un] := fun v w z h1 h2 => by
    have h3 := r_want_bad h1
    have h4 := hnx v
    have h5 := hlk v
    have h6 : gEq true (.str w) (.str w) = some (.bl false) := by rw [gEq_str]; simp
    simp only [bind_ok, bind_exn, bind_bad, s_ok, s_exn, s_bad, rd_ap, pk_ap, cst_ap, lift_some, lift_none, bin_ap, has_ap, binL_ap, un_ap, anil_ap, acons_ap, mkTup_ap, mkLst_ap, asB_bl, tv_ap, tnot_ap, tand_ap, tor_ap, vand_ap, vor_ap, vnot_ap, vif_ap, vchain_ap, sasg_ap, sown_ap, sif_ap, sret_ap, sexp_ap, snx_ap, sseq_ap, spar_ap, stg_ap, gnm_ap, gnil_ap, gcons_ap, gtp_ap, call_ap, doF_ok, doF_exn, callB_ap, apk_ap, doFB_ok, isOwn_ap, callI_ap, doI_ap, putOwn_ap, setD_ap, sset_ap, isLst_ap, mutl_ap, mutm_ap, sraise_ap, slcL_ap, slc_ap, pno_ap, psome_ap, unN_ap, iseq_ap, irng1_ap, irng2_ap, lrng_ap, gAdd_int, gInt_ap, at0, at1, at2, at3, gIx_lst, gIx_tup, gIx_scr, gLen_lst, gLen_tup, gLen_scr, gToInt_int, List.getElem?_cons_zero, List.getElem?_cons_succ, List.set_cons_zero, List.set_cons_succ, List.length_cons, List.length_nil, ite_true, ite_false, if_true, if_false, Bool.true_and, Bool.and_true, Bool.false_and, Bool.and_false, decide_true, decide_false, Option.map_some, Option.map_none, Bool.not_true, Bool.not_false, reduceIte, Nat.reduceAdd, Nat.reduceLeDiff, Bool.false_eq_true, Bool.true_eq_false, Bool.false_or, Bool.true_or, Bool.or_false, Bool.or_true, h1, stry_ap, h3, hcat, h4, dropAt, xfld_ap, hkn, h5, h2, h6]
  have e18 : (sfor (iseq (mkLst (acons (cst .non) (acons (mkTup (acons (cst (.int 1)) (acons (cst (.int 0)) anil))) (acons (mkTup (acons (cst (.int 2)) (acons (cst (.int 4)) anil))) (acons (mkTup (acons (cst (.int 0)) (acons (cst (.int 2)) anil))) (acons (mkTup (acons (cst (.int 1)) anil)) (acons (mkTup (acons (cst (.bl true)) (acons (cst (.int 2)) anil))) (acons (mkLst (acons (cst (.int 1)) (acons (cst (.int 2)) (acons (cst (.int 3)) anil)))) (acons (cst (.int 5)) (acons (mkTup (acons (cst (.int 1)) (acons (un gNeg (cst (.int 1))) anil))) anil))))))))))) (gnm 16) (sseq (sif (tv (call R_is_fraction (acons (rd 16) anil))) (sret (cst (.bl false))) snx) (stry 17 cat_BadNumber (sseq (sexp (call R_want_fraction (acons (rd 16) anil))) (sret (cst (.bl false)))) (sif (tv (bin (gEq true) (un gRepr (xfld 17 kn_value "value")) (un gRepr (pk 16)))) (sret (cst (.bl false))) snx)))) [.val (.scr ns), .own (rowD ns p5 s5 t5), .val (.int a), .val (.int b), .val (.int c), .val (.int d), .val (fr (red a b)), .val (fr (red c d)), .val (.lst ((List.range 123).map fun (i : Nat) => D.int (-61 + (i : Int)))), .val (.int (((red a b :: red c d :: xs).filter fun x => lt x m).length : Nat)), .val (.int (((red a b :: red c d :: xs).filter fun x => lt m x).length : Nat)), .val (.int ((2 * a + b) / (2 * b))), .val (.lst ((red a b :: red c d :: xs).map fr)), .val (fr (tot (0, 1) (red a b :: red c d :: xs))), z14, .val (fr m), .un, .un, .un] = .nx [.val (.scr ns), .own (rowD ns p5 s5 t5), .val (.int a), .val (.int b), .val (.int c), .val (.int d), .val (fr (red a b)), .val (fr (red c d)), .val (.lst ((List.range 123).map fun (i : Nat) => D.int (-61 + (i : Int)))), .val (.int (((red a b :: red c d :: xs).filter fun x => lt x m).length : Nat)), .val (.int (((red a b :: red c d :: xs).filter fun x => lt m x).length : Nat)), .val (.int ((2 * a + b) / (2 * b))), .val (.lst ((red a b :: red c d :: xs).map fr)), .val (fr (tot (0, 1) (red a b :: red c d :: xs))), z14, .val (fr m), .val (.tup [.int 1, .int (-1)]), .un, .un] := by
    have v1 : R_is_fraction [.non] = .ok (.bl false) .non := rfl
    have v2 : R_is_fraction [.tup [.int 1, .int 0]] = .ok (.bl false) .non := rfl
    have v3 : R_is_fraction [.tup [.int 2, .int 4]] = .ok (.bl false) .non := r_is_fraction (x := (2, 4)) (j := 10) (by decide) (by unfold bt; decide) (by decide)
    have v4 : R_is_fraction [.tup [.int 0, .int 2]] = .ok (.bl false) .non := r_is_fraction (x := (0, 2)) (j := 10) (by decide) (by unfold bt; decide) (by decide)
    have v5 : R_is_fraction [.tup [.int 1]] = .ok (.bl false) .non := rfl
    have v6 : R_is_fraction [.tup [.bl true, .int 2]] = .ok (.bl false) .non := rfl
    have v7 : R_is_fraction [.lst [.int 1, .int 2, .int 3]] = .ok (.bl false) .non := rfl
    have v8 : R_is_fraction [.int 5] = .ok (.bl false) .non := rfl
    have v9 : R_is_fraction [.tup [.int 1, .int (-1)]] = .ok (.bl false) .non := rfl
    have q1 := turn .non _ .un v1 (repr_non (by decide +kernel))
    have q2 := turn (.tup [.int 1, .int 0]) _ .un v2 (repr_tup (by decide +kernel))
    have q3 := turn (.tup [.int 2, .int 4]) _ .un v3 (repr_tup (by decide +kernel))
    have q4 := turn (.tup [.int 0, .int 2]) _ .un v4 (repr_tup (by decide +kernel))
    have q5 := turn (.tup [.int 1]) _ .un v5 (repr_tup (by decide +kernel))
    have q6 := turn (.tup [.bl true, .int 2]) _ .un v6 (repr_tup (by decide +kernel))
    have q7 := turn (.lst [.int 1, .int 2, .int 3]) _ .un v7 (repr_lst (by decide +kernel))
    have q8 := turn (.int 5) _ .un v8 (repr_int (by decide +kernel) (by decide +kernel))
    have q9 := turn (.tup [.int 1, .int (-1)]) _ .un v9 (repr_tup (by decide +kernel))
    have z1 : (1 : Nat) ≤ LIM := by decide
    have z2 : (2 : Nat) ≤ LIM := by decide
    have z3 : (3 : Nat) ≤ LIM := by decide
    have z9 : (9 : Nat) ≤ LIM := by decide
    have it : (iseq (mkLst (acons (cst .non) (acons (mkTup (acons (cst (.int 1)) (acons (cst (.int 0)) anil))) (acons (mkTup (acons (cst (.int 2)) (acons (cst (.int 4)) anil))) (acons (mkTup (acons (cst (.int 0)) (acons (cst (.int 2)) anil))) (acons (mkTup (acons (cst (.int 1)) anil)) (acons (mkTup (acons (cst (.bl true)) (acons (cst (.int 2)) anil))) (acons (mkLst (acons (cst (.int 1)) (acons (cst (.int 2)) (acons (cst (.int 3)) anil)))) (acons (cst (.int 5)) (acons (mkTup (acons (cst (.int 1)) (acons (un gNeg (cst (.int 1))) anil))) anil))))))))))) [.val (.scr ns), .own (rowD ns p5 s5 t5), .val (.int a), .val (.int b), .val (.int c), .val (.int d), .val (fr (red a b)), .val (fr (red c d)), .val (.lst ((List.range 123).map fun (i : Nat) => D.int (-61 + (i : Int)))), .val (.int (((red a b :: red c d :: xs).filter fun x => lt x m).length : Nat)), .val (.int (((red a b :: red c d :: xs).filter fun x => lt m x).length : Nat)), .val (.int ((2 * a + b) / (2 * b))), .val (.lst ((red a b :: red c d :: xs).map fr)), .val (fr (tot (0, 1) (red a b :: red c d :: xs))), z14, .val (fr m), .un, .un, .un] = .ok [.non, .tup [.int 1, .int 0], .tup [.int 2, .int 4], .tup [.int 0, .int 2], .tup [.int 1], .tup [.bl true, .int 2], .lst [.int 1, .int 2, .int 3], .int 5, .tup [.int 1, .int (-1)]] [.val (.scr ns), .own (rowD ns p5 s5 t5), .val (.int a), .val (.int b), .val (.int c), .val (.int d), .val (fr (red a b)), .val (fr (red c d)), .val (.lst ((List.range 123).map fun (i : Nat) => D.int (-61 + (i : Int)))), .val (.int (((red a b :: red c d :: xs).filter fun x => lt x m).length : Nat)), .val (.int (((red a b :: red c d :: xs).filter fun x => lt m x).length : Nat)), .val (.int ((2 * a + b) / (2 * b))), .val (.lst ((red a b :: red c d :: xs).map fr)), .val (fr (tot (0, 1) (red a b :: red c d :: xs))), z14, .val (fr m), .un, .un, .un] := by
      simp only [bind_ok, bind_exn, bind_bad, s_ok, s_exn, s_bad, rd_ap, pk_ap, cst_ap, lift_some, lift_none, bin_ap, has_ap, binL_ap, un_ap, anil_ap, acons_ap, mkTup_ap, mkLst_ap, asB_bl, tv_ap, tnot_ap, tand_ap, tor_ap, vand_ap, vor_ap, vnot_ap, vif_ap, vchain_ap, sasg_ap, sown_ap, sif_ap, sret_ap, sexp_ap, snx_ap, sseq_ap, spar_ap, stg_ap, gnm_ap, gnil_ap, gcons_ap, gtp_ap, call_ap, doF_ok, doF_exn, callB_ap, apk_ap, doFB_ok, isOwn_ap, callI_ap, doI_ap, putOwn_ap, setD_ap, sset_ap, isLst_ap, mutl_ap, mutm_ap, sraise_ap, slcL_ap, slc_ap, pno_ap, psome_ap, unN_ap, iseq_ap, irng1_ap, irng2_ap, lrng_ap, gAdd_int, gInt_ap, at0, at1, at2, at3, gIx_lst, gIx_tup, gIx_scr, gLen_lst, gLen_tup, gLen_scr, gToInt_int, List.getElem?_cons_zero, List.getElem?_cons_succ, List.set_cons_zero, List.set_cons_succ, List.length_cons, List.length_nil, ite_true, ite_false, if_true, if_false, Bool.true_and, Bool.and_true, Bool.false_and, Bool.and_false, decide_true, decide_false, Option.map_some, Option.map_none, Bool.not_true, Bool.not_false, reduceIte, Nat.reduceAdd, Nat.reduceLeDiff, Bool.false_eq_true, Bool.true_eq_false, Bool.false_or, Bool.true_or, Bool.or_false, Bool.or_true, gNeg_int, gl, z1, z2, z3, z9]
    rw [sfor_ap, it, s_ok]
    simp only [forL_cons, forL_nil, gnm_ap, List.set_cons_zero, List.set_cons_succ, q1, q2, q3, q4, q5, q6, q7, q8, q9]
  have wl2 := r_want_list (x := red a b) (j := 12) pa.1 pa.2.2.2.1 (by decide) pa.2.2.2.2
  have gli : gList (fr (red a b)) = some [.int (red a b).1, .int (red a b).2] := rfl
  have e19 : (sret (call (R__law_alike 24) (acons (call R_want_fraction (acons (unN gList (pk 6)) anil)) (acons (rd 6) anil)))) [.val (.scr ns), .own (rowD ns p5 s5 t5), .val (.int a), .val (.int b), .val (.int c), .val (.int d), .val (fr (red a b)), .val (fr (red c d)), .val (.lst ((List.range 123).map fun (i : Nat) => D.int (-61 + (i : Int)))), .val (.int (((red a b :: red c d :: xs).filter fun x => lt x m).length : Nat)), .val (.int (((red a b :: red c d :: xs).filter fun x => lt m x).length : Nat)), .val (.int ((2 * a + b) / (2 * b))), .val (.lst ((red a b :: red c d :: xs).map fr)), .val (fr (tot (0, 1) (red a b :: red c d :: xs))), z14, .val (fr m), .val (.tup [.int 1, .int (-1)]), .un, .un] = .rt (.bl true) [.val (.scr ns), .own (rowD ns p5 s5 t5), .val (.int a), .val (.int b), .val (.int c), .val (.int d), .val (fr (red a b)), .val (fr (red c d)), .val (.lst ((List.range 123).map fun (i : Nat) => D.int (-61 + (i : Int)))), .val (.int (((red a b :: red c d :: xs).filter fun x => lt x m).length : Nat)), .val (.int (((red a b :: red c d :: xs).filter fun x => lt m x).length : Nat)), .val (.int ((2 * a + b) / (2 * b))), .val (.lst ((red a b :: red c d :: xs).map fr)), .val (fr (tot (0, 1) (red a b :: red c d :: xs))), z14, .val (fr m), .val (.tup [.int 1, .int (-1)]), .un, .un] := by
    have al2 := alike_fr (red a b)
    simp only [bind_ok, bind_exn, bind_bad, s_ok, s_exn, s_bad, rd_ap, pk_ap, cst_ap, lift_some, lift_none, bin_ap, has_ap, binL_ap, un_ap, anil_ap, acons_ap, mkTup_ap, mkLst_ap, asB_bl, tv_ap, tnot_ap, tand_ap, tor_ap, vand_ap, vor_ap, vnot_ap, vif_ap, vchain_ap, sasg_ap, sown_ap, sif_ap, sret_ap, sexp_ap, snx_ap, sseq_ap, spar_ap, stg_ap, gnm_ap, gnil_ap, gcons_ap, gtp_ap, call_ap, doF_ok, doF_exn, callB_ap, apk_ap, doFB_ok, isOwn_ap, callI_ap, doI_ap, putOwn_ap, setD_ap, sset_ap, isLst_ap, mutl_ap, mutm_ap, sraise_ap, slcL_ap, slc_ap, pno_ap, psome_ap, unN_ap, iseq_ap, irng1_ap, irng2_ap, lrng_ap, gAdd_int, gInt_ap, at0, at1, at2, at3, gIx_lst, gIx_tup, gIx_scr, gLen_lst, gLen_tup, gLen_scr, gToInt_int, List.getElem?_cons_zero, List.getElem?_cons_succ, List.set_cons_zero, List.set_cons_succ, List.length_cons, List.length_nil, ite_true, ite_false, if_true, if_false, Bool.true_and, Bool.and_true, Bool.false_and, Bool.and_false, decide_true, decide_false, Option.map_some, Option.map_none, Bool.not_true, Bool.not_false, reduceIte, Nat.reduceAdd, Nat.reduceLeDiff, Bool.false_eq_true, Bool.true_eq_false, Bool.false_or, Bool.true_or, Bool.or_false, Bool.or_true, gli, wl2, al2]
  have fin : b_law [.val (.scr ns), .un, .un, .un, .un, .un, .un, .un, .un, .un, .un, .un, .un, .un, .un, .un, .un, .un, .un] = .rt (.bl true) [.val (.scr ns), .own (rowD ns p5 s5 t5), .val (.int a), .val (.int b), .val (.int c), .val (.int d), .val (fr (red a b)), .val (fr (red c d)), .val (.lst ((List.range 123).map fun (i : Nat) => D.int (-61 + (i : Int)))), .val (.int (((red a b :: red c d :: xs).filter fun x => lt x m).length : Nat)), .val (.int (((red a b :: red c d :: xs).filter fun x => lt m x).length : Nat)), .val (.int ((2 * a + b) / (2 * b))), .val (.lst ((red a b :: red c d :: xs).map fr)), .val (fr (tot (0, 1) (red a b :: red c d :: xs))), z14, .val (fr m), .val (.tup [.int 1, .int (-1)]), .un, .un] := by
    unfold b_law
    rw [sseq_nx e1, sseq_nx e2, sseq_nx (st3 bd), sseq_nx (st4 bd), sseq_nx (st5 bd), sseq_nx (st6 bd), sseq_nx e7, sseq_nx (st8 bd), sseq_nx (st9 bd), sseq_nx (st10 bd), sseq_nx e11, sseq_nx e12, sseq_nx e13, sseq_nx e14, sseq_nx e15, sseq_nx e16, sseq_nx e17, sseq_nx e18]
    exact e19
  refine ⟨.non, ?_⟩
  show runP 19 1 b_law [.scr ns] = _
  rw [runP1]
  have fin' : b_law ([D.scr ns].map .val ++ List.replicate (19 - 1) .un) = _ := fin
  rw [fin']
end
end K10

set_option Elab.async false
set_option linter.all false
set_option maxRecDepth 100000
set_option maxHeartbeats 8000000
set_option autoImplicit false
namespace K10
open PySem L2 DL
open PyProof.Rows
theorem all_mk {w : World} {K : PySem.W.Frag} {h : Heap} {mg : Str → Option Value} {fa : Addr} (X : K.In h) (G : h.Ns mainGlobals mg) (hfa : mg "law" = some (.ref fa)) {f0 f1 f2 f3 f4 f5 f6 f7 f8 f9 f10 f11 f12 f13 f14 f15 f16 f17 f18 f19 C_BadNumber F_BadNumber N_BadNumber cda_BadNumber cc_BadNumber : Addr} {oc0 kV0 dc0 pm0 cd0 ct0 oc1 kV1 dc1 pm1 cd1 ct1 oc2 kV2 dc2 pm2 cd2 ct2 oc3 kV3 dc3 pm3 cd3 ct3 oc4 kV4 dc4 pm4 cd4 ct4 oc5 kV5 dc5 pm5 cd5 ct5 oc6 kV6 dc6 pm6 cd6 ct6 oc7 kV7 dc7 pm7 cd7 ct7 oc8 kV8 dc8 pm8 cd8 ct8 oc9 kV9 dc9 pm9 cd9 ct9 oc10 kV10 dc10 pm10 cd10 ct10 oc11 kV11 dc11 pm11 cd11 ct11 oc12 kV12 dc12 pm12 cd12 ct12 oc13 kV13 dc13 pm13 cd13 ct13 oc14 kV14 dc14 pm14 cd14 ct14 oc15 kV15 dc15 pm15 cd15 ct15 oc16 kV16 dc16 pm16 cd16 ct16 oc17 kV17 dc17 pm17 cd17 ct17 oc18 kV18 dc18 pm18 cd18 ct18 oc19 kV19 dc19 pm19 cd19 ct19 oc_BadNumber doc_BadNumber pm_BadNumber ct_BadNumber ccl_BadNumber cl_BadNumber : Value} {od0 an0 od1 an1 od2 an2 od3 an3 od4 an4 od5 an5 od6 an6 od7 an7 od8 an8 od9 an9 od10 an10 od11 an11 od12 an12 od13 an13 od14 an14 od15 an15 od16 an16 od17 an17 od18 an18 od19 an19 dd_BadNumber od_BadNumber an_BadNumber cdd_BadNumber cld_BadNumber : Option Addr} {sl0 sl1 sl2 sl3 sl4 sl5 sl6 sl7 sl8 sl9 sl10 sl11 sl12 sl13 sl14 sl15 sl16 sl17 sl18 sl19 osl_BadNumber ccs_BadNumber csl_BadNumber : Array (Option Value)} {nm_BadNumber q_BadNumber file_BadNumber : Str} {bs_BadNumber bm_BadNumber sub_BadNumber : List Value} {sn_BadNumber : List Str} {ab_BadNumber : Bool} {col_BadNumber : Option Bool} {m0_BadNumber m1_BadNumber m2_BadNumber m3_BadNumber m5_BadNumber : Option Value} {vs_BadNumber : Array Value} {tf_BadNumber : Tok}
    (a0 : PySem.W.nsIn K mainGlobals "reduced" = some (some (.ref f0)))
    (l0 : K.lookup f0 = some ⟨oc0, od0, .func (PySem.W.fnOf "reduced" "reduced" (defArgs s_reduced) (defBody s_reduced) (defScope s_reduced) .none kV0 dc0 pm0 an0 cd0 ct0), sl0⟩)
    (c0 : PySem.W.codeIn K cd0 "reduced" = true)
    (k0 : PySem.W.keepIn K (.ref f0) = true)
    (a1 : PySem.W.nsIn K mainGlobals "times" = some (some (.ref f1)))
    (l1 : K.lookup f1 = some ⟨oc1, od1, .func (PySem.W.fnOf "times" "times" (defArgs s_times) (defBody s_times) (defScope s_times) .none kV1 dc1 pm1 an1 cd1 ct1), sl1⟩)
    (c1 : PySem.W.codeIn K cd1 "times" = true)
    (k1 : PySem.W.keepIn K (.ref f1) = true)
    (a2 : PySem.W.nsIn K mainGlobals "plus" = some (some (.ref f2)))
    (l2 : K.lookup f2 = some ⟨oc2, od2, .func (PySem.W.fnOf "plus" "plus" (defArgs s_plus) (defBody s_plus) (defScope s_plus) .none kV2 dc2 pm2 an2 cd2 ct2), sl2⟩)
    (c2 : PySem.W.codeIn K cd2 "plus" = true)
    (k2 : PySem.W.keepIn K (.ref f2) = true)
    (a3 : PySem.W.nsIn K mainGlobals "is_less" = some (some (.ref f3)))
    (l3 : K.lookup f3 = some ⟨oc3, od3, .func (PySem.W.fnOf "is_less" "is_less" (defArgs s_is_less) (defBody s_is_less) (defScope s_is_less) .none kV3 dc3 pm3 an3 cd3 ct3), sl3⟩)
    (c3 : PySem.W.codeIn K cd3 "is_less" = true)
    (k3 : PySem.W.keepIn K (.ref f3) = true)
    (a4 : PySem.W.nsIn K mainGlobals "median" = some (some (.ref f4)))
    (l4 : K.lookup f4 = some ⟨oc4, od4, .func (PySem.W.fnOf "median" "median" (defArgs s_median) (defBody s_median) (defScope s_median) .none kV4 dc4 pm4 an4 cd4 ct4), sl4⟩)
    (c4 : PySem.W.codeIn K cd4 "median" = true)
    (k4 : PySem.W.keepIn K (.ref f4) = true)
    (a5 : PySem.W.nsIn K mainGlobals "_law_alike" = some (some (.ref f5)))
    (l5 : K.lookup f5 = some ⟨oc5, od5, .func (PySem.W.fnOf "_law_alike" "_law_alike" (defArgs s__law_alike) (defBody s__law_alike) (defScope s__law_alike) .none kV5 dc5 pm5 an5 cd5 ct5), sl5⟩)
    (c5 : PySem.W.codeIn K cd5 "_law_alike" = true)
    (k5 : PySem.W.keepIn K (.ref f5) = true)
    (a6 : PySem.W.nsIn K mainGlobals "is_row" = some (some (.ref f6)))
    (l6 : K.lookup f6 = some ⟨oc6, od6, .func (PySem.W.fnOf "is_row" "is_row" (defArgs s_is_row) (defBody s_is_row) (defScope s_is_row) .none kV6 dc6 pm6 an6 cd6 ct6), sl6⟩)
    (c6 : PySem.W.codeIn K cd6 "is_row" = true)
    (k6 : PySem.W.keepIn K (.ref f6) = true)
    (a7 : PySem.W.nsIn K mainGlobals "is_whole" = some (some (.ref f7)))
    (l7 : K.lookup f7 = some ⟨oc7, od7, .func (PySem.W.fnOf "is_whole" "is_whole" (defArgs s_is_whole) (defBody s_is_whole) (defScope s_is_whole) .none kV7 dc7 pm7 an7 cd7 ct7), sl7⟩)
    (c7 : PySem.W.codeIn K cd7 "is_whole" = true)
    (k7 : PySem.W.keepIn K (.ref f7) = true)
    (a8 : PySem.W.nsIn K mainGlobals "is_fraction" = some (some (.ref f8)))
    (l8 : K.lookup f8 = some ⟨oc8, od8, .func (PySem.W.fnOf "is_fraction" "is_fraction" (defArgs s_is_fraction) (defBody s_is_fraction) (defScope s_is_fraction) .none kV8 dc8 pm8 an8 cd8 ct8), sl8⟩)
    (c8 : PySem.W.codeIn K cd8 "is_fraction" = true)
    (k8 : PySem.W.keepIn K (.ref f8) = true)
    (a9 : PySem.W.nsIn K mainGlobals "_law_low" = some (some (.ref f9)))
    (l9 : K.lookup f9 = some ⟨oc9, od9, .func (PySem.W.fnOf "_law_low" "_law_low" (defArgs s__law_low) (defBody s__law_low) (defScope s__law_low) .none kV9 dc9 pm9 an9 cd9 ct9), sl9⟩)
    (c9 : PySem.W.codeIn K cd9 "_law_low" = true)
    (k9 : PySem.W.keepIn K (.ref f9) = true)
    (a10 : PySem.W.nsIn K mainGlobals "want_fraction" = some (some (.ref f10)))
    (l10 : K.lookup f10 = some ⟨oc10, od10, .func (PySem.W.fnOf "want_fraction" "want_fraction" (defArgs s_want_fraction) (defBody s_want_fraction) (defScope s_want_fraction) .none kV10 dc10 pm10 an10 cd10 ct10), sl10⟩)
    (c10 : PySem.W.codeIn K cd10 "want_fraction" = true)
    (k10 : PySem.W.keepIn K (.ref f10) = true)
    (a11 : PySem.W.nsIn K mainGlobals "_law_taken" = some (some (.ref f11)))
    (l11 : K.lookup f11 = some ⟨oc11, od11, .func (PySem.W.fnOf "_law_taken" "_law_taken" (defArgs s__law_taken) (defBody s__law_taken) (defScope s__law_taken) .none kV11 dc11 pm11 an11 cd11 ct11), sl11⟩)
    (c11 : PySem.W.codeIn K cd11 "_law_taken" = true)
    (k11 : PySem.W.keepIn K (.ref f11) = true)
    (a12 : PySem.W.nsIn K mainGlobals "_law_truth" = some (some (.ref f12)))
    (l12 : K.lookup f12 = some ⟨oc12, od12, .func (PySem.W.fnOf "_law_truth" "_law_truth" (defArgs s__law_truth) (defBody s__law_truth) (defScope s__law_truth) .none kV12 dc12 pm12 an12 cd12 ct12), sl12⟩)
    (c12 : PySem.W.codeIn K cd12 "_law_truth" = true)
    (k12 : PySem.W.keepIn K (.ref f12) = true)
    (a13 : PySem.W.nsIn K mainGlobals "total" = some (some (.ref f13)))
    (l13 : K.lookup f13 = some ⟨oc13, od13, .func (PySem.W.fnOf "total" "total" (defArgs s_total) (defBody s_total) (defScope s_total) .none kV13 dc13 pm13 an13 cd13 ct13), sl13⟩)
    (c13 : PySem.W.codeIn K cd13 "total" = true)
    (k13 : PySem.W.keepIn K (.ref f13) = true)
    (a14 : PySem.W.nsIn K mainGlobals "minus" = some (some (.ref f14)))
    (l14 : K.lookup f14 = some ⟨oc14, od14, .func (PySem.W.fnOf "minus" "minus" (defArgs s_minus) (defBody s_minus) (defScope s_minus) .none kV14 dc14 pm14 an14 cd14 ct14), sl14⟩)
    (c14 : PySem.W.codeIn K cd14 "minus" = true)
    (k14 : PySem.W.keepIn K (.ref f14) = true)
    (a15 : PySem.W.nsIn K mainGlobals "floor_of" = some (some (.ref f15)))
    (l15 : K.lookup f15 = some ⟨oc15, od15, .func (PySem.W.fnOf "floor_of" "floor_of" (defArgs s_floor_of) (defBody s_floor_of) (defScope s_floor_of) .none kV15 dc15 pm15 an15 cd15 ct15), sl15⟩)
    (c15 : PySem.W.codeIn K cd15 "floor_of" = true)
    (k15 : PySem.W.keepIn K (.ref f15) = true)
    (a16 : PySem.W.nsIn K mainGlobals "ceiling_of" = some (some (.ref f16)))
    (l16 : K.lookup f16 = some ⟨oc16, od16, .func (PySem.W.fnOf "ceiling_of" "ceiling_of" (defArgs s_ceiling_of) (defBody s_ceiling_of) (defScope s_ceiling_of) .none kV16 dc16 pm16 an16 cd16 ct16), sl16⟩)
    (c16 : PySem.W.codeIn K cd16 "ceiling_of" = true)
    (k16 : PySem.W.keepIn K (.ref f16) = true)
    (a17 : PySem.W.nsIn K mainGlobals "nearest" = some (some (.ref f17)))
    (l17 : K.lookup f17 = some ⟨oc17, od17, .func (PySem.W.fnOf "nearest" "nearest" (defArgs s_nearest) (defBody s_nearest) (defScope s_nearest) .none kV17 dc17 pm17 an17 cd17 ct17), sl17⟩)
    (c17 : PySem.W.codeIn K cd17 "nearest" = true)
    (k17 : PySem.W.keepIn K (.ref f17) = true)
    (a18 : PySem.W.nsIn K mainGlobals "over" = some (some (.ref f18)))
    (l18 : K.lookup f18 = some ⟨oc18, od18, .func (PySem.W.fnOf "over" "over" (defArgs s_over) (defBody s_over) (defScope s_over) .none kV18 dc18 pm18 an18 cd18 ct18), sl18⟩)
    (c18 : PySem.W.codeIn K cd18 "over" = true)
    (k18 : PySem.W.keepIn K (.ref f18) = true)
    (a19 : PySem.W.nsIn K mainGlobals "law" = some (some (.ref f19)))
    (l19 : K.lookup f19 = some ⟨oc19, od19, .func (PySem.W.fnOf "law" "law" (defArgs s_law) (defBody s_law) (defScope s_law) .none kV19 dc19 pm19 an19 cd19 ct19), sl19⟩)
    (c19 : PySem.W.codeIn K cd19 "law" = true)
    (k19 : PySem.W.keepIn K (.ref f19) = true)
    (z_abs : PySem.W.nsIn K mainGlobals "abs" = some none)
    (z_bool : PySem.W.nsIn K mainGlobals "bool" = some none)
    (z_int : PySem.W.nsIn K mainGlobals "int" = some none)
    (z_isinstance : PySem.W.nsIn K mainGlobals "isinstance" = some none)
    (z_len : PySem.W.nsIn K mainGlobals "len" = some none)
    (z_list : PySem.W.nsIn K mainGlobals "list" = some none)
    (z_max : PySem.W.nsIn K mainGlobals "max" = some none)
    (z_min : PySem.W.nsIn K mainGlobals "min" = some none)
    (z_range : PySem.W.nsIn K mainGlobals "range" = some none)
    (z_repr : PySem.W.nsIn K mainGlobals "repr" = some none)
    (z_str : PySem.W.nsIn K mainGlobals "str" = some none)
    (z_tuple : PySem.W.nsIn K mainGlobals "tuple" = some none)
    (op : PySem.W.nsIn K PySem.cStatics "thirdparty.any" = some none)
    (ms : PySem.W.nsIn K mainGlobals "super" = some none)
    (tops : (PySem.Challenge.pw_unitsheld_k10_whole_fractions.main.scope.names.lookup ("super" : Str)).isSome = false)
    (aC_BadNumber : PySem.W.nsIn K mainGlobals "BadNumber" = some (some (.ref C_BadNumber)))
    (xL_BadNumber : K.lookup C_BadNumber = some (excClassObj nm_BadNumber q_BadNumber C_BadNumber N_BadNumber bs_BadNumber bm_BadNumber true sn_BadNumber sub_BadNumber ab_BadNumber col_BadNumber dd_BadNumber m0_BadNumber m1_BadNumber m2_BadNumber m3_BadNumber m5_BadNumber "ValueError.__new__"))
    (rv_BadNumber : PySem.HandSPX.refsVE bm_BadNumber = true)
    (sa_BadNumber : PySem.W.findIn K (.ref C_BadNumber) "__setattr__" = some (some (.builtin "object.__setattr__")))
    (ga_BadNumber : PySem.W.findIn K (.ref C_BadNumber) "__getattribute__" = some (some (.builtin "BaseException.__getattribute__")))
    (gg_BadNumber : PySem.W.findIn K (.ref C_BadNumber) "__getattr__" = some none)
    (no_BadNumber_value : PySem.W.findIn K (.ref C_BadNumber) "value" = some none)
    (iC_BadNumber : PySem.W.findIn K (.ref C_BadNumber) "__init__" = some (some (.ref F_BadNumber)))
    (tC_BadNumber : PySem.W.typeIn K (.ref F_BadNumber) = some (.type "function"))
    (l_BadNumber : K.lookup F_BadNumber = some ⟨oc_BadNumber, od_BadNumber, .func (PySem.W.ksFn "__init__" "BadNumber.__init__" (defArgs (inClass (top 2) 0)) (defBody (inClass (top 2) 0)) (defScope (inClass (top 2) 0)) .none .none doc_BadNumber pm_BadNumber an_BadNumber (.ref cda_BadNumber) ct_BadNumber cc_BadNumber), osl_BadNumber⟩)
    (c_BadNumber : PySem.W.codeIn K (.ref cda_BadNumber) "BadNumber.__init__" = true)
    (d_BadNumber : K.lookup cda_BadNumber = some ⟨ccl_BadNumber, cdd_BadNumber, .fields vs_BadNumber, ccs_BadNumber⟩)
    (v_BadNumber : vs_BadNumber[2]? = some (.str file_BadNumber tf_BadNumber))
    (fi_BadNumber : ((PySem.Challenge.pw_unitsheld_k10_whole_fractions.main.file : Str) == file_BadNumber) = true)
    (ce_BadNumber : K.lookup cc_BadNumber = some ⟨cl_BadNumber, cld_BadNumber, .cell (some (.ref C_BadNumber)), csl_BadNumber⟩)
    (kC_BadNumber : PySem.W.keepIn K (.ref C_BadNumber) = true)
    (eC_BadNumber : PySem.W.subIn K (.ref C_BadNumber) (.type "BaseException") = some true)
    (vC_BadNumber : PySem.W.subIn K (.ref C_BadNumber) (.type "ValueError") = some true)
    (ty_BadNumber : PySem.W.typeIn K (.ref C_BadNumber) = some (.type "type"))
    (hd_BadNumber : PySem.W.hasDictIn K C_BadNumber = true)
    (se_BadNumber : PySem.W.mroIn K C_BadNumber (.ref C_BadNumber) = some true)
    (su_BadNumber : PySem.W.ks_superIn K C_BadNumber C_BadNumber "__init__" = some (some (.builtin "ValueError.__init__")))
    (ic_BadNumber : PySem.W.isClsIn K C_BadNumber = true)
    (sub_BadNumber_BadNumber : PySem.W.subIn K (.ref C_BadNumber) (.ref C_BadNumber) = some true) :
    ∃ (fd : FuncData) (Fd : List D → RF), (∀ (s : Shared) (u : Value), BindsTo s fd ⟨[u], []⟩ [("script", u)]) ∧ (∀ ns : List Int, ns.length ≤ 63 → ∃ io, Fd [.scr ns] = .ok (.bl true) io) ∧ ∀ b : Heap, K.In b → b.Ns mainGlobals mg → FnG PySem.Challenge.pw_unitsheld_k10_whole_fractions w K mg b 25 fa fd ["script"] (spP ⟨K, mg⟩ Fd) := by
  have e := hfa.symm.trans (PySem.W.mg_of X G a19)
  cases e
  have T_BadNumber : DLX.Cl PySem.Challenge.pw_unitsheld_k10_whole_fractions K mg "BadNumber" C_BadNumber F_BadNumber ["value"] := ⟨PySem.W.mg_of X G aC_BadNumber, ⟨_, _, _, _, _, _, _, _, _, _, _, _, _, _, _, xL_BadNumber, rv_BadNumber⟩, sa_BadNumber, ga_BadNumber, gg_BadNumber, (by
      intro x hx
      rcases List.mem_cons.mp hx with rfl | hx
      · exact no_BadNumber_value
      cases hx), iC_BadNumber, tC_BadNumber, kC_BadNumber, eC_BadNumber, vC_BadNumber, ty_BadNumber, hd_BadNumber, se_BadNumber, su_BadNumber, op, ms, tops⟩
  have X_BadNumber : HasEx PySem.Challenge.pw_unitsheld_k10_whole_fractions w K mg "BadNumber" ["value"] := hasEx1 T_BadNumber ⟨⟨_, _, _, _, _, _, _, _, _, _, _, _, _, _, _, _, _, _, l_BadNumber, c_BadNumber, d_BadNumber, v_BadNumber, fi_BadNumber, ce_BadNumber⟩⟩
  have Y_BadNumber : ∃ S, mg "BadNumber" = some (.ref S) ∧ CatOk ⟨K, mg⟩ (.ref S) cat_BadNumber := ⟨C_BadNumber, PySem.W.mg_of X G aC_BadNumber, (CatOk.cons (PySem.W.mg_of X G aC_BadNumber) (exm_of eC_BadNumber ic_BadNumber ty_BadNumber sub_BadNumber_BadNumber) CatOk.nil)⟩
  have K_value : ∀ c, kn_value c = true → ∃ C fI fs, DLX.Cl PySem.Challenge.pw_unitsheld_k10_whole_fractions K mg c C fI fs ∧ ("value" : Str) ∈ fs := by
    intro c h
    have h := of_decide_eq_true h
    rcases List.mem_cons.mp h with rfl | h
    · exact ⟨_, _, _, T_BadNumber, by decide⟩
    cases h
  have T : Tx PySem.Challenge.pw_unitsheld_k10_whole_fractions w K mg := {
    n_abs := PySem.W.mg_none_of X G z_abs,
    n_bool := PySem.W.mg_none_of X G z_bool,
    n_int := PySem.W.mg_none_of X G z_int,
    n_isinstance := PySem.W.mg_none_of X G z_isinstance,
    n_len := PySem.W.mg_none_of X G z_len,
    n_list := PySem.W.mg_none_of X G z_list,
    n_max := PySem.W.mg_none_of X G z_max,
    n_min := PySem.W.mg_none_of X G z_min,
    n_range := PySem.W.mg_none_of X G z_range,
    n_repr := PySem.W.mg_none_of X G z_repr,
    n_str := PySem.W.mg_none_of X G z_str,
    n_tuple := PySem.W.mg_none_of X G z_tuple,
    x_BadNumber := X_BadNumber,
    t_BadNumber := Y_BadNumber,
    k_value := K_value,
    a_reduced := fnAt_mk X G a0 l0 c0 k0 fun _ _ _ _ _ _ us hl => match us, hl with | [_, _], _ => rfl,
    a_times := fnAt_mk X G a1 l1 c1 k1 fun _ _ _ _ _ _ us hl => match us, hl with | [_, _], _ => rfl,
    a_plus := fnAt_mk X G a2 l2 c2 k2 fun _ _ _ _ _ _ us hl => match us, hl with | [_, _], _ => rfl,
    a_is_less := fnAt_mk X G a3 l3 c3 k3 fun _ _ _ _ _ _ us hl => match us, hl with | [_, _], _ => rfl,
    a_median := fnAt_mk X G a4 l4 c4 k4 fun _ _ _ _ _ _ us hl => match us, hl with | [_], _ => rfl,
    a__law_alike := fnAt_mk X G a5 l5 c5 k5 fun _ _ _ _ _ _ us hl => match us, hl with | [_, _], _ => rfl,
    a_is_row := fnAt_mk X G a6 l6 c6 k6 fun _ _ _ _ _ _ us hl => match us, hl with | [_], _ => rfl,
    a_is_whole := fnAt_mk X G a7 l7 c7 k7 fun _ _ _ _ _ _ us hl => match us, hl with | [_], _ => rfl,
    a_is_fraction := fnAt_mk X G a8 l8 c8 k8 fun _ _ _ _ _ _ us hl => match us, hl with | [_], _ => rfl,
    a__law_low := fnAt_mk X G a9 l9 c9 k9 fun _ _ _ _ _ _ us hl => match us, hl with | [_, _], _ => rfl,
    a_want_fraction := fnAt_mk X G a10 l10 c10 k10 fun _ _ _ _ _ _ us hl => match us, hl with | [_], _ => rfl,
    a__law_taken := fnAt_mk X G a11 l11 c11 k11 fun _ _ _ _ _ _ us hl => match us, hl with | [_, _], _ => rfl,
    a__law_truth := fnAt_mk X G a12 l12 c12 k12 fun _ _ _ _ _ _ us hl => match us, hl with | [_, _], _ => rfl,
    a_total := fnAt_mk X G a13 l13 c13 k13 fun _ _ _ _ _ _ us hl => match us, hl with | [_], _ => rfl,
    a_minus := fnAt_mk X G a14 l14 c14 k14 fun _ _ _ _ _ _ us hl => match us, hl with | [_, _], _ => rfl,
    a_floor_of := fnAt_mk X G a15 l15 c15 k15 fun _ _ _ _ _ _ us hl => match us, hl with | [_], _ => rfl,
    a_ceiling_of := fnAt_mk X G a16 l16 c16 k16 fun _ _ _ _ _ _ us hl => match us, hl with | [_], _ => rfl,
    a_nearest := fnAt_mk X G a17 l17 c17 k17 fun _ _ _ _ _ _ us hl => match us, hl with | [_], _ => rfl,
    a_over := fnAt_mk X G a18 l18 c18 k18 fun _ _ _ _ _ _ us hl => match us, hl with | [_, _], _ => rfl,
    a_law := fnAt_mk X G a19 l19 c19 k19 fun _ _ _ _ _ _ us hl => match us, hl with | [_], _ => rfl }
  exact ⟨_, R_law, fun s v => .of_eq rfl, law_true, fun b _ _ => o_law T (fun_mk (st := s_law) l19 c19 k19)⟩
end K10
open PySem PySem.W PyProof.Rows
set_option maxRecDepth 100000 in
set_option maxHeartbeats 0 in
theorem PySem.Challenge.cw_unitsheld_k10_whole_fractions_holds : PySem.Challenge.rw_unitsheld_k10_whole_fractions.Holds := by
  w_on; o_law; k_head; (case hw => w_witness2)
  k_fill
  refine DL.walkG (l := PySem.Challenge.rw_unitsheld_k10_whole_fractions) (k := 25) rfl rfl ⟨rfl, by decide, by decide⟩ (fun w h Y => PySem.W.kIn_of Y) ?F
  case F =>
    intro w mg fa h KX G hmg
    refine' K10.all_mk KX G hmg ?a0 ?l0 ?c0 ?k0 ?a1 ?l1 ?c1 ?k1 ?a2 ?l2 ?c2 ?k2 ?a3 ?l3 ?c3 ?k3 ?a4 ?l4 ?c4 ?k4 ?a5 ?l5 ?c5 ?k5 ?a6 ?l6 ?c6 ?k6 ?a7 ?l7 ?c7 ?k7 ?a8 ?l8 ?c8 ?k8 ?a9 ?l9 ?c9 ?k9 ?a10 ?l10 ?c10 ?k10 ?a11 ?l11 ?c11 ?k11 ?a12 ?l12 ?c12 ?k12 ?a13 ?l13 ?c13 ?k13 ?a14 ?l14 ?c14 ?k14 ?a15 ?l15 ?c15 ?k15 ?a16 ?l16 ?c16 ?k16 ?a17 ?l17 ?c17 ?k17 ?a18 ?l18 ?c18 ?k18 ?a19 ?l19 ?c19 ?k19 ?z_abs ?z_bool ?z_int ?z_isinstance ?z_len ?z_list ?z_max ?z_min ?z_range ?z_repr ?z_str ?z_tuple ?op ?ms ?tops ?aC_BadNumber ?xL_BadNumber ?rv_BadNumber ?sa_BadNumber ?ga_BadNumber ?gg_BadNumber ?no_BadNumber_value ?iC_BadNumber ?tC_BadNumber ?l_BadNumber ?c_BadNumber ?d_BadNumber ?v_BadNumber ?fi_BadNumber ?ce_BadNumber ?kC_BadNumber ?eC_BadNumber ?vC_BadNumber ?ty_BadNumber ?hd_BadNumber ?se_BadNumber ?su_BadNumber ?ic_BadNumber ?sub_BadNumber_BadNumber
    (case a0 => k_is)
    (case l0 => k_is)
    (case c0 => k_is)
    (case k0 => k_is)
    (case a1 => k_is)
    (case l1 => k_is)
    (case c1 => k_is)
    (case k1 => k_is)
    (case a2 => k_is)
    (case l2 => k_is)
    (case c2 => k_is)
    (case k2 => k_is)
    (case a3 => k_is)
    (case l3 => k_is)
    (case c3 => k_is)
    (case k3 => k_is)
    (case a4 => k_is)
    (case l4 => k_is)
    (case c4 => k_is)
    (case k4 => k_is)
    (case a5 => k_is)
    (case l5 => k_is)
    (case c5 => k_is)
    (case k5 => k_is)
    (case a6 => k_is)
    (case l6 => k_is)
    (case c6 => k_is)
    (case k6 => k_is)
    (case a7 => k_is)
    (case l7 => k_is)
    (case c7 => k_is)
    (case k7 => k_is)
    (case a8 => k_is)
    (case l8 => k_is)
    (case c8 => k_is)
    (case k8 => k_is)
    (case a9 => k_is)
    (case l9 => k_is)
    (case c9 => k_is)
    (case k9 => k_is)
    (case a10 => k_is)
    (case l10 => k_is)
    (case c10 => k_is)
    (case k10 => k_is)
    (case a11 => k_is)
    (case l11 => k_is)
    (case c11 => k_is)
    (case k11 => k_is)
    (case a12 => k_is)
    (case l12 => k_is)
    (case c12 => k_is)
    (case k12 => k_is)
    (case a13 => k_is)
    (case l13 => k_is)
    (case c13 => k_is)
    (case k13 => k_is)
    (case a14 => k_is)
    (case l14 => k_is)
    (case c14 => k_is)
    (case k14 => k_is)
    (case a15 => k_is)
    (case l15 => k_is)
    (case c15 => k_is)
    (case k15 => k_is)
    (case a16 => k_is)
    (case l16 => k_is)
    (case c16 => k_is)
    (case k16 => k_is)
    (case a17 => k_is)
    (case l17 => k_is)
    (case c17 => k_is)
    (case k17 => k_is)
    (case a18 => k_is)
    (case l18 => k_is)
    (case c18 => k_is)
    (case k18 => k_is)
    (case a19 => k_is)
    (case l19 => k_is)
    (case c19 => k_is)
    (case k19 => k_is)
    (case z_abs => k_is)
    (case z_bool => k_is)
    (case z_int => k_is)
    (case z_isinstance => k_is)
    (case z_len => k_is)
    (case z_list => k_is)
    (case z_max => k_is)
    (case z_min => k_is)
    (case z_range => k_is)
    (case z_repr => k_is)
    (case z_str => k_is)
    (case z_tuple => k_is)
    (case op => k_is)
    (case ms => k_is)
    (case tops => first | rfl | decide +kernel)
    (case aC_BadNumber => k_is)
    (case xL_BadNumber => k_is)
    (case rv_BadNumber => decide +kernel)
    (case sa_BadNumber => k_is)
    (case ga_BadNumber => k_is)
    (case gg_BadNumber => k_is)
    (case no_BadNumber_value => k_is)
    (case iC_BadNumber => k_is)
    (case tC_BadNumber => k_is)
    (case l_BadNumber => k_is)
    (case c_BadNumber => k_is)
    (case d_BadNumber => k_is)
    (case v_BadNumber => rfl)
    (case fi_BadNumber => first | rfl | decide +kernel)
    (case ce_BadNumber => k_is)
    (case kC_BadNumber => k_is)
    (case eC_BadNumber => k_is)
    (case vC_BadNumber => k_is)
    (case ty_BadNumber => k_is)
    (case hd_BadNumber => k_is)
    (case se_BadNumber => first | k_is | kernel_rfl)
    (case su_BadNumber => ks_is)
    (case ic_BadNumber => k_is)
    (case sub_BadNumber_BadNumber => first | rfl | k_is)

