import PyProof.Rows.All
import HandS.ForMost
import HandS.ForExc
import HandS.TupAny
import HandS.Wide
import HandS.IsInst
import HandS.Conv
import KE.DataEq
import HandS.TupMul
import HandS.Dict
import HandS.Small
import HandS.ExcInit
import HandS.ExcOwn
import KE.KExcSuper
import HandS.ExcSuper
import HandS.More
import HandS.Text
import HandS.TryOnly
import HandS.RaiseMore
import PyProof.ReprRoads
import HandS.Ends
import HandS.Words
import HandS.TryMany
import KE.GoesEnum
import KE.GoesMore
import KE.SortData
import HandS.Replace
import HandS.OwnEq
import HandS.Deep
import HandS.Strs
import HandS.Style
import HandS.ExcIs
import PySem.Challenge.RW_unitsheld_k09_errors
import KE.RegKSuper
import KE.RegKIsAll
set_option Elab.async false
set_option linter.all false
set_option maxRecDepth 100000
set_option maxHeartbeats 4000000
/-! tuples whose objects are known to have no dict -/
namespace DL
open PySem L2 PyProof.Rows

/-- at a: a tuple of xs, its object known and without a dict -/
def SqP (K : PySem.W.Frag) (H : Hp) (a : Addr) (xs : List V) : Prop :=
  (∃ o : Obj, H a = some (.frz o (.tup xs)) ∧ o.dict = none) ∨
  ∃ (o : Obj) (its : Array Value) (n : Nat), K.lookup a = some o ∧ o.cls = .type "tuple" ∧ o.dict = none ∧ o.data = .seq its n ∧ its.size ≤ sizeLine ∧ Vals xs its.toList
theorem SqP.sqt {K : PySem.W.Frag} {H : Hp} {a : Addr} {xs : List V} (h : SqP K H a xs) : SqT K H a xs := by
  rcases h with ⟨o, h, _⟩ | ⟨o, its, n, h1, h2, h3, h4, h5, h6⟩
  · exact .inl (.inr ⟨o, h⟩)
  · exact .inr ⟨o, its, n, h1, h2, h4, h5, h6⟩
section
variable {X : Cx} {pins : List (Addr × Obj)} {σ : L2.St} {H : Hp} {s : Shared}
theorem SqP.no {a : Addr} {xs : List V} (I : L2.Inv X pins σ H s) (h : SqP X.K H a xs) : ∃ ob, s.heap.get? a = some ob ∧ ob.dict = none := by
  rcases h with ⟨o, h, hd⟩ | ⟨o, its, n, h1, h2, h3, h4, h5, h6⟩
  · exact ⟨o, (show ObjOk X.prog X.w H s.heap a (.frz o (.tup xs)) from I.hok a _ h).1, hd⟩
  · exact ⟨o, I.kIn a o h1, h3⟩
theorem frz_ok {P : Program} {w : World} {h : Heap} {p : Addr} {o : Obj} {xs : List V} {its : List Value} (e : h.get? p = some o) (z : xs.length ≤ sizeLine) (r : Vals xs its) (hc : o.cls = .type "tuple") {n : Nat} (hd : o.data = .seq its.toArray n) : ObjOk P w H h p (.frz o (.tup xs)) :=
  ⟨e, z, its, r, ⟨o, e, hc, n, hd⟩⟩
variable {es : List Expr} {pos : Pos} {t : TA}
def tTupF (t : TA) : TE := fun σ H Q => t σ H fun xs H1 => xs.length ≤ sizeLine ∧ ∀ p o, H1 p = none → o.dict = none → Q (.ref p) (upd H1 p (.frz o (.tup xs)))
theorem pe_tupF {x1 : Nat} (h : PA X es t) : PE X (.Tuple es x1 pos) (tTupF t) := by
  refine ⟨fun pins s σ H Q I hq => ?_⟩
  refine wpAny_Tuple_spliced (thn (h.run pos pins s σ H _ I hq) fun us s1 ⟨xs, H1, I1, r, z, q⟩ => ⟨by rw [← r.length]; exact z, ?_⟩)
  have hf : H1 s1.heap.objs.size = none := I1.hok.fresh (Nat.le_refl _)
  exact ⟨.ref s1.heap.objs.size, _, I1.laid (t' := s1.toks) (fun b u e => Heap.get?_push_of_some _ e) (Nat.le_refl _) (frz_ok (Heap.get?_push_size _ rfl) z r rfl rfl), rfl, q _ _ hf rfl⟩
def rCatF (K : PySem.W.Frag) : R2 := fun x y H Q => ∃ a b xs ys, x = .ref a ∧ y = .ref b ∧ SqT K H a xs ∧ SqT K H b ys ∧ xs.length + ys.length ≤ sizeLine ∧
  (xs = [] → Q (.ref b) H) ∧ (xs ≠ [] → ys = [] → Q (.ref a) H) ∧ (xs ≠ [] → ys ≠ [] → ∀ p o, H p = none → o.dict = none → Q (.ref p) (upd H p (.frz o (.tup (xs ++ ys)))))
theorem op_catF : OpR X (binaryOp .Add) (rCatF X.K) := by
  intro pins s σ H x y v u Q I rx ry h
  obtain ⟨a, b, xs, ys, rfl, rfl, ha, hb, hz, q0, q1, q2⟩ := h
  cases rx
  cases ry
  obtain ⟨its, r1, p1, _⟩ := I.tuple ha
  obtain ⟨its2, r2, p2, _⟩ := I.tuple hb
  by_cases hx : xs = []
  · subst hx
    cases r1
    exact cat_tup0 p1 p2 ⟨.ref b, H, I, rfl, q0 rfl⟩
  · refine HT.cat_tup p1 p2 (fun z => hx (r1.nil_iff.mp z)) (fun z => ⟨.ref a, H, I, rfl, q1 hx (r2.nil_iff.mp z)⟩) (fun z => ?_) (by rw [← r1.length, ← r2.length]; exact hz)
    exact ⟨.ref s.heap.objs.size, _, I.laid (t' := s.toks) (fun b ob q => Heap.get?_push_of_some _ q) (Nat.le_refl _) (frz_ok (Heap.get?_push_size _ rfl) (by rw [List.length_append]; exact hz) (r1.append r2) rfl rfl), rfl, q2 hx (fun w => z (r2.nil_iff.mpr w)) _ _ (I.hok.fresh (Nat.le_refl _)) rfl⟩
def rSlF (K : PySem.W.Frag) : V → Option Int → Option Int → Hp → VK → Prop := fun x lo hi H Q => ∃ a xs, x = .ref a ∧ SqT K H a xs ∧
  (HT.sIx xs.length 0 lo = 0 ∧ HT.sIx xs.length xs.length hi = xs.length → Q (.ref a) H) ∧ (¬ (HT.sIx xs.length 0 lo = 0 ∧ HT.sIx xs.length xs.length hi = xs.length) → ∀ p o, H p = none → o.dict = none → Q (.ref p) (upd H p (.frz o (.tup (cutV xs lo hi)))))
theorem sl_tupF : SlR X (rSlF X.K) := by
  intro pins s σ H x v vl vu lo hi sl Q I rx hs pl pu h
  obtain ⟨a, xs, rfl, hx, q1, q2⟩ := h
  cases rx
  obtain ⟨its, r, ht, hz⟩ := I.tuple hx
  have hlen : its.toArray.size = xs.length := by rw [List.size_toArray]; exact r.length.symm
  refine ⟨"tuple", _, PyProof.Rows.slot_tuple_getitem.lookup, ht.typeIs, ?_⟩
  by_cases hw : HT.sIx xs.length 0 lo = 0 ∧ HT.sIx xs.length xs.length hi = xs.length
  · exact getItem_tuple_whole ht hs pl pu (by rw [hlen]; exact hw) ⟨.ref a, H, I, rfl, q1 hw⟩
  · refine HT.getItem_tuple_cut ht hs pl pu (by rw [hlen]; exact hw) ?_ (by rw [hlen]; exact hz)
    rw [hlen]
    exact ⟨.ref s.heap.objs.size, _, I.laid (t' := s.toks) (fun b ob q => Heap.get?_push_of_some _ q) (Nat.le_refl _) (frz_ok (Heap.get?_push_size _ rfl) (Nat.le_trans (cutV_length xs lo hi) hz) ((r.drop (HT.sIx xs.length 0 lo)).take (HT.sIx xs.length xs.length hi - HT.sIx xs.length 0 lo)) rfl rfl), rfl, q2 hw _ _ (I.hok.fresh (Nat.le_refl _)) rfl⟩
def rTupF (K : PySem.W.Frag) : List V → Hp → VK → Prop := fun xs H Q => ∃ p ys, xs = [.ref p] ∧ ((SqL K H p ys ∧ ∀ l o, H l = none → o.dict = none → Q (.ref l) (upd H l (.frz o (.tup ys)))) ∨ (SqT K H p ys ∧ Q (.ref p) H))
theorem call_tuple_ofF : CallR X (.type "tuple") (rTupF X.K) := by
  intro pins s σ H xs us Q I r h
  obtain ⟨p, ys, rfl, h⟩ := h
  obtain ⟨u, rfl, rx⟩ := vals1 r
  cases rx
  rcases h with ⟨hq, q⟩ | ⟨hq, q⟩
  · obtain ⟨its, r', pl, hz⟩ := I.list hq
    have hlen := r'.length
    refine call_tuple_list pl.isList (fun h' kp => ?_) (by simp only [List.size_toArray] <;> omega)
    have I1 : L2.Inv X pins σ H { s with heap := h' } := I.kept (t' := s.toks) kp
    exact ⟨.ref h'.objs.size, _, I1.laid (t' := s.toks) (fun b o e => Heap.get?_push_of_some _ e) (Nat.le_refl _) (frz_ok (Heap.get?_push_size _ rfl) hz r' rfl rfl), rfl, q _ _ (I1.hok.fresh (Nat.le_refl _)) rfl⟩
  · obtain ⟨its, r', pl, hz⟩ := I.tuple hq
    exact call_tuple_same pl ⟨.ref p, H, I, rfl, q⟩
/-- o.m(e, ..), o a tuple -/
def tTM (K : PySem.W.Frag) (r : V → List V → Hp → VK → Prop) (to : TE) (t : TA) : TE := fun σ H Q => to σ H fun x H1 => (∃ a xs, x = .ref a ∧ SqP K H1 a xs) ∧ t σ H1 fun xs H2 => r x xs H2 Q
variable {o e : Expr} {to : TE} {name : Str} {apos cpos : Pos} {id : String} {r : V → List V → Hp → VK → Prop}
theorem pe_tm (slot : Slot "tuple" name id) (hty : typeOf (.builtin id) = pure (.type "method_descriptor")) (hm : MtR X id r) (ho : PE X o to) (ha : PA X (e :: es) t)
    (hbase : attributeBase o name X.env (eval o X.env) = eval o X.env := by rfl)
    (hfew : ((backTo cpos (starEach (e :: es) X.env)).all (fun x => !x.1) && (backToKw cpos (keywordEach [] X.env)).all (fun x => x.1.isSome)
      && decide ((e :: es).length + ([] : List Keyword).length + (if ([] : List Keyword).isEmpty then 0 else 1) < 30)) = true := by rfl)
    (hline : (apos.endLine == cpos.line) = true := by rfl) (hs : starEach (e :: es) X.env = (false, eval e X.env) :: starEach es X.env := by rfl) (hplain : (backTo cpos (starEach es X.env)).any (·.1) = false := by rfl) :
    PE X (.Call (.Attribute o name apos) (e :: es) [] cpos) (tTM X.K r to t) := by
  refine ⟨fun pins s σ H Q I h => ?_⟩
  refine wpAny_Call_method_late hbase hfew hline rfl (thn (ho.run pins s σ H _ I h) fun v s1 ⟨x, H1, I1, r1, ⟨a, xs, ex, ty⟩, q1⟩ => ?_)
  subst ex
  obtain rfl : v = Value.ref a := r1
  obtain ⟨its, _, pl, _⟩ := I1.tuple ty.sqt
  refine ⟨"tuple", id, PySem.F.plainAttrs_tuple, slot, hty, pl.typeIs, fun b eb => by cases eb; exact ty.no I1, ?_⟩
  have hA := ha.run cpos pins s1 σ H1 _ I1 q1
  rw [hs] at hA ⊢
  refine Calls.callWith_builtin (by show (false || (backTo cpos (starEach es X.env)).any (·.1)) = false; rw [hplain] <;> rfl) (Calls.evalArgs_plain ?_)
  exact thn hA fun us s2 ⟨vs, H2, I2, r2, q2⟩ => hm pins s2 σ H2 (.ref a) vs (.ref a) us Q I2 rfl r2 q2
end
end DL

set_option Elab.async false
set_option linter.all false
set_option maxRecDepth 100000
set_option maxHeartbeats 4000000
namespace DL
open PySem L2

inductive D where
  | non | bl (b : Bool) | int (i : Int) | str (s : Str)
  | tup (xs : List D) | lst (xs : List D)
  | dct (ks ds : List D)
  | ob (c : Str) (ns : List Str) (ds : List D)
  | fn (c : Str)
  | scr (ns : List Int)

/-- an exception: its class's name, its fields -/
structure Xn where
  c : Str
  ns : List Str
  ds : List D

/-- a local name's state: nothing, data that stays, an object of its own, the parameter that is changed in place, a caught exception -/
inductive Sl where
  | un | val (d : D) | own (d : D) | io (d : D) | xc (x : Xn)

inductive RE (α : Type) where
  | ok (a : α) (r : List Sl) | exn (x : Xn) (r : List Sl) | bad

def RE.bind {α β : Type} (m : RE α) (k : α → List Sl → RE β) : RE β := match m with
  | .ok a r => k a r
  | .exn x r => .exn x r
  | .bad => .bad

/-- how a statement ends -/
inductive RS where
  | nx (r : List Sl) | bk (r : List Sl) | ct (r : List Sl) | rt (d : D) (r : List Sl) | exn (x : Xn) (r : List Sl) | bad

/-- how a def ends (io: what the parameter that is changed in place is at the end) -/
inductive RF where
  | ok (d io : D) | exn (x : Xn) (io : D) | bad

structure Gm where
  K : PySem.W.Frag
  mg : Str → Option Value

def keyD : Key → D
  | .inl i => .int i
  | .inr s => .str s
/-- at a: a dict of these keys and values; one that changes no more (its keys behind .non) -/
def DictIs (H : Hp) (a : Addr) (ks : List D) (vs : List V) : Prop :=
  (∃ kvs : List (Key × V), H a = some (.dK kvs) ∧ ks = kvs.map (fun p => keyD p.1) ∧ vs = kvs.map (·.2)) ∨
  (∃ kvs : List (List Key × V), H a = some (.dT kvs) ∧ kvs ≠ [] ∧ ks = kvs.map (fun p => D.tup (p.1.map keyD)) ∧ vs = kvs.map (·.2)) ∨
  (∃ (o : Obj) (kvs : List (Key × V)), H a = some (.frz o (.dK kvs)) ∧ ks = D.non :: kvs.map (fun p => keyD p.1) ∧ vs = kvs.map (·.2))

mutual
def Rep (G : Gm) (M : Addr → Prop) (H : Hp) : D → V → Prop
  | .non, v => v = .non
  | .bl b, v => v = .bl b
  | .int i, v => v = .int i
  | .str s, v => v = .str s
  | .tup xs, v => ∃ a vs, v = .ref a ∧ SqP G.K H a vs ∧ RepL G M H xs vs
  | .lst xs, v => ∃ a vs, v = .ref a ∧ ¬ M a ∧ H a = some (.lst vs) ∧ RepL G M H xs vs
  | .dct ks ds, v => ∃ a vs, v = .ref a ∧ ¬ M a ∧ DictIs H a ks vs ∧ RepL G M H ds vs
  | .ob c ns ds, v => ∃ a C dx vs, v = .ref a ∧ ¬ M a ∧ G.mg c = some (.ref C) ∧ H a = some (.ins C dx (ns.zip vs)) ∧ ns.length = vs.length ∧ RepL G M H ds vs
  | .fn c, v => ∃ f, v = .ref f ∧ G.mg c = some (.ref f)
  | .scr ns, v => ∃ a, v = .ref a ∧ ((¬ M a ∧ Rd H a (.lst (ns.map V.int))) ∨
      ∃ (o : Obj) (its : Array Value) (n : Nat), G.K.lookup a = some o ∧ o.cls = .type "list" ∧ o.dict = none ∧ o.data = .seq its n ∧ its.size ≤ sizeLine ∧ Vals (ns.map V.int) its.toList)
def RepL (G : Gm) (M : Addr → Prop) (H : Hp) : List D → List V → Prop
  | [], vs => vs = []
  | d :: ds, vs => ∃ v ws, vs = v :: ws ∧ Rep G M H d v ∧ RepL G M H ds ws
end

/-- the object at a, which is owned: its content -/
def OwnAt (G : Gm) (M : Addr → Prop) (H : Hp) (a : Addr) : D → Prop
  | .lst xs => ∃ vs, H a = some (.lst vs) ∧ RepL G M H xs vs
  | .dct ks ds => ∃ vs, DictIs H a ks vs ∧ RepL G M H ds vs
  | .ob c ns ds => ∃ C dx vs, G.mg c = some (.ref C) ∧ H a = some (.ins C dx (ns.zip vs)) ∧ ns.length = vs.length ∧ RepL G M H ds vs
  | _ => False

def RepX (G : Gm) (M : Addr → Prop) (H : Hp) (x : Xn) (cls : Value) (dd : Option Addr) : Prop :=
  ∃ C, G.mg x.c = some (.ref C) ∧ cls = .ref C ∧ ∃ vs, x.ns.length = vs.length ∧ RepL G M H x.ds vs ∧ ((x.ns = [] ∧ dd = none) ∨ ∃ d, dd = some d ∧ H d = some (.xd (x.ns.zip vs)))

/-- what may change is of the kinds that change -/
def MD (M : Addr → Prop) (H : Hp) : Prop := ∀ b, M b → Mut (H b)
/-- from (M, H) on: what is not owned stays; what is owned later was owned, or is new -/
structure Step (M : Addr → Prop) (H : Hp) (M' : Addr → Prop) (H' : Hp) : Prop where
  keep : ∀ b o, H b = some o → ¬ M b → H' b = some o
  own : ∀ b, M' b → M b ∨ H b = none
theorem Step.refl {M : Addr → Prop} {H : Hp} : Step M H M H := ⟨fun _ _ h _ => h, fun _ h => .inl h⟩
theorem Step.trans {M M1 M2 : Addr → Prop} {H H1 H2 : Hp} (a : Step M H M1 H1) (b : Step M1 H1 M2 H2) : Step M H M2 H2 where
  keep := fun c o h n => by
    refine b.keep c o (a.keep c o h n) fun m => ?_
    rcases a.own c m with z | z
    · exact n z
    · rw [z] at h; cases h
  own := fun c m => by
    rcases b.own c m with z | z
    · exact a.own c z
    · cases h : H c with
      | none => exact .inr rfl
      | some o =>
        refine .inl (Classical.byContradiction fun n => ?_)
        rw [a.keep c o h n] at z; cases z
theorem Step.ext {M : Addr → Prop} {H H' : Hp} (e : ∀ b o, H b = some o → H' b = some o) : Step M H M H' := ⟨fun b o h _ => e b o h, fun _ h => .inl h⟩

section
variable {G : Gm} {M M' : Addr → Prop} {H H' : Hp}
theorem Step.rd (st : Step M H M' H') {a : Addr} {u : HO} (n : ¬ M a) (h : Rd H a u) : Rd H' a u ∧ ¬ M' a := by
  rcases h with h | ⟨o, h⟩
  · refine ⟨.inl (st.keep a _ h n), fun m => ?_⟩
    rcases st.own a m with z | z
    · exact n z
    · rw [z] at h; cases h
  · refine ⟨.inr ⟨o, st.keep a _ h n⟩, fun m => ?_⟩
    rcases st.own a m with z | z
    · exact n z
    · rw [z] at h; cases h
theorem MD.not_tup (md : MD M H) {a : Addr} {vs : List V} (h : Rd H a (.tup vs)) : ¬ M a := fun m => by
  have z := md a m
  rcases h with h | ⟨o, h⟩ <;> rw [h] at z <;> exact z
theorem Step.sqt {K : PySem.W.Frag} (st : Step M H M' H') (md : MD M H) {a : Addr} {vs : List V} (h : SqT K H a vs) : SqT K H' a vs := by
  rcases h with h | h
  · exact .inl (st.rd (md.not_tup h) h).1
  · exact .inr h
theorem Step.sqp {K : PySem.W.Frag} (st : Step M H M' H') (md : MD M H) {a : Addr} {vs : List V} (h : SqP K H a vs) : SqP K H' a vs := by
  rcases h with ⟨o, h, d⟩ | h
  · exact .inl ⟨o, st.keep a _ h (fun m => by have z := md a m; rw [h] at z; exact z), d⟩
  · exact .inr h
theorem DictIs.some {a : Addr} {ks : List D} {vs : List V} (h : DictIs H a ks vs) : ∃ o, H a = some o := by
  rcases h with ⟨_, h, _⟩ | ⟨_, h, _⟩ | ⟨_, _, h, _⟩ <;> exact ⟨_, h⟩
theorem Step.notM (st : Step M H M' H') {a : Addr} {o : HO} (n : ¬ M a) (h : H a = some o) : ¬ M' a := fun m => by
  rcases st.own a m with z | z
  · exact n z
  · rw [z] at h; cases h
theorem DictIs.of {a : Addr} {ks : List D} {vs : List V} (h : DictIs H a ks vs) (e : H' a = H a) : DictIs H' a ks vs := by
  unfold DictIs; rw [e]; exact h
mutual
theorem Rep.step (st : Step M H M' H') (md : MD M H) : ∀ (d : D) (v : V), Rep G M H d v → Rep G M' H' d v
  | .non, _, h => h
  | .bl _, _, h => h
  | .int _, _, h => h
  | .str _, _, h => h
  | .tup xs, _, ⟨a, vs, e, h, r⟩ => ⟨a, vs, e, st.sqp md h, RepL.step st md xs vs r⟩
  | .lst xs, _, ⟨a, vs, e, n, h, r⟩ => ⟨a, vs, e, st.notM n h, st.keep a _ h n, RepL.step st md xs vs r⟩
  | .dct ks ds, _, ⟨a, vs, e, n, h, r⟩ => by
    obtain ⟨o, ho⟩ := h.some
    exact ⟨a, vs, e, st.notM n ho, h.of ((st.keep a o ho n).trans ho.symm), RepL.step st md ds vs r⟩
  | .ob c ns ds, _, ⟨a, C, dx, vs, e, n, hc, h, l, r⟩ => ⟨a, C, dx, vs, e, st.notM n h, hc, st.keep a _ h n, l, RepL.step st md ds vs r⟩
  | .fn c, _, h => h
  | .scr ns, _, ⟨a, e, h⟩ => ⟨a, e, h.elim (fun q => .inl ⟨(st.rd q.1 q.2).2, (st.rd q.1 q.2).1⟩) .inr⟩
theorem RepL.step (st : Step M H M' H') (md : MD M H) : ∀ (ds : List D) (vs : List V), RepL G M H ds vs → RepL G M' H' ds vs
  | [], _, h => h
  | d :: ds, _, ⟨v, ws, e, h, r⟩ => ⟨v, ws, e, Rep.step st md d v h, RepL.step st md ds ws r⟩
end
theorem OwnAt.step (st : Step M H M' H') (md : MD M H) {a : Addr} (e : H' a = H a) : ∀ {d : D}, OwnAt G M H a d → OwnAt G M' H' a d
  | .lst xs, ⟨vs, h, r⟩ => ⟨vs, e.trans h, RepL.step st md xs vs r⟩
  | .dct ks ds, ⟨vs, h, r⟩ => ⟨vs, h.of e, RepL.step st md ds vs r⟩
  | .ob c ns ds, ⟨C, dx, vs, hc, h, l, r⟩ => ⟨C, dx, vs, hc, e.trans h, l, RepL.step st md ds vs r⟩
theorem RepL.length : ∀ {ds : List D} {vs : List V}, RepL G M H ds vs → ds.length = vs.length
  | [], _, h => by cases h; rfl
  | d :: ds, _, ⟨v, ws, e, _, r⟩ => by subst e; simp [RepL.length r]
theorem RepL.append : ∀ {ds es : List D} {vs ws : List V}, RepL G M H ds vs → RepL G M H es ws → RepL G M H (ds ++ es) (vs ++ ws)
  | [], _, _, _, h, r => by cases h; exact r
  | d :: ds, _, _, _, ⟨v, ws, e, h, r⟩, q => by subst e; exact ⟨v, _, rfl, h, RepL.append r q⟩
theorem RepL.get : ∀ {ds : List D} {vs : List V} {i : Nat} {d : D}, RepL G M H ds vs → ds[i]? = some d → ∃ v, vs[i]? = some v ∧ Rep G M H d v
  | d :: ds, _, 0, _, ⟨v, ws, e, h, r⟩, q => by subst e; cases q; exact ⟨v, rfl, h⟩
  | d :: ds, _, i + 1, _, ⟨v, ws, e, h, r⟩, q => by subst e; exact RepL.get (i := i) r q
theorem RepL.get' : ∀ {ds : List D} {vs : List V} {i : Nat} {v : V}, RepL G M H ds vs → vs[i]? = some v → ∃ d, ds[i]? = some d ∧ Rep G M H d v
  | [], _, _, _, h, q => by cases h; simp at q
  | d :: ds, _, 0, _, ⟨v, ws, e, h, r⟩, q => by subst e; cases q; exact ⟨d, rfl, h⟩
  | d :: ds, _, i + 1, _, ⟨v, ws, e, h, r⟩, q => by subst e; exact RepL.get' (i := i) r q
theorem RepL.take : ∀ {ds : List D} {vs : List V} (n : Nat), RepL G M H ds vs → RepL G M H (ds.take n) (vs.take n)
  | _, _, 0, _ => by simp [RepL]
  | [], _, n + 1, h => by cases h; simp [RepL]
  | d :: ds, _, n + 1, ⟨v, ws, e, h, r⟩ => by subst e; exact ⟨v, _, rfl, h, RepL.take n r⟩
theorem RepL.drop : ∀ {ds : List D} {vs : List V} (n : Nat), RepL G M H ds vs → RepL G M H (ds.drop n) (vs.drop n)
  | _, _, 0, h => by simpa using h
  | [], _, n + 1, h => by cases h; simp [RepL]
  | d :: ds, _, n + 1, ⟨v, ws, e, h, r⟩ => by subst e; simpa using RepL.drop n r
theorem RepL.set : ∀ {ds : List D} {vs : List V} (i : Nat) {d : D} {v : V}, RepL G M H ds vs → Rep G M H d v → RepL G M H (ds.set i d) (vs.set i v)
  | [], _, _, _, _, h, _ => by cases h; simp [RepL]
  | d :: ds, _, 0, _, _, ⟨v, ws, e, h, r⟩, q => by subst e; exact ⟨_, _, rfl, q, r⟩
  | d :: ds, _, i + 1, _, _, ⟨v, ws, e, h, r⟩, q => by subst e; exact ⟨v, _, rfl, h, RepL.set i r q⟩
end
end DL

set_option Elab.async false
set_option linter.all false
set_option maxRecDepth 100000
set_option maxHeartbeats 4000000
namespace DL
open PySem L2

/-- what is fixed while a body runs -/
structure Jx where
  G : Gm
  M0 : Addr → Prop
  H0 : Hp
  io : Option Addr
  W : WX
  hx : Option (Addr × Value × Option Addr)

def SlotOk (J : Jx) (M : Addr → Prop) (H : Hp) (s : Sl) (o : Option (Option V)) : Prop := match s with
  | .un => True
  | .val d => ∃ v, o = some (some v) ∧ Rep J.G M H d v
  | .own d => ∃ a, o = some (some (.ref a)) ∧ M a ∧ OwnAt J.G M H a d ∧ ¬ J.M0 a ∧ J.H0 a = none
  | .io d => ∃ a, o = some (some (.ref a)) ∧ M a ∧ OwnAt J.G M H a d ∧ J.io = some a
  | .xc x => ∃ a cls dd, o = some (some (.ref a)) ∧ J.hx = some (a, cls, dd) ∧ RepX J.G M H x cls dd

def Sl.owned : Sl → Bool
  | .own _ => true
  | .io _ => true
  | _ => false

structure SI (J : Jx) (M : Addr → Prop) (r : List Sl) (σ : St) (H : Hp) : Prop where
  md : MD M H
  m0 : ∀ b, J.M0 b → M b
  io0 : ∀ a, J.io = some a → J.M0 a
  keep : ∀ b o, J.H0 b = some o → J.io ≠ some b → H b = some o
  len : r.length = σ.length
  slot : ∀ (i : Nat) s, r[i]? = some s → SlotOk J M H s σ[i]?
  dist : ∀ (i j : Nat) s t a, r[i]? = some s → r[j]? = some t → s.owned = true → t.owned = true → σ[i]? = some (some (.ref a)) → σ[j]? = some (some (.ref a)) → i = j

abbrev Extn (H H' : Hp) : Prop := ∀ (b : Addr) (o : HO), H b = some o → H' b = some o

section
variable {J : Jx} {M M' : Addr → Prop} {r : List Sl} {σ : St} {H H' : Hp}
theorem MD.ext (md : MD M H) (e : Extn H H') : MD M H' := fun b m => by
  have z := md b m
  cases q : H b with
  | none => rw [q] at z; exact z.elim
  | some o => rw [e b o q]; rw [q] at z; exact z
theorem MD.some (md : MD M H) {a : Addr} (m : M a) : ∃ o, H a = .some o := by
  have z := md a m
  cases q : H a with
  | none => rw [q] at z; exact z.elim
  | some o => exact ⟨o, rfl⟩
theorem RepX.step {x : Xn} {cls : Value} {dd : Option Addr} {G : Gm} (st : Step M H M' H') (md : MD M H) (h : RepX G M H x cls dd) : RepX G M' H' x cls dd := by
  obtain ⟨C, h1, h2, vs, h3, h4, h5⟩ := h
  refine ⟨C, h1, h2, vs, h3, RepL.step st md _ _ h4, ?_⟩
  rcases h5 with h5 | ⟨d, e, h5⟩
  · exact .inl h5
  · refine .inr ⟨d, e, st.keep d _ h5 fun m => ?_⟩
    have z := md d m
    rw [h5] at z
    exact z
theorem SlotOk.step {s : Sl} {o : Option (Option V)} (st : Step M H M' H') (md : MD M H) (hs : ∀ a, s.owned = true → o = some (some (.ref a)) → M' a ∧ H' a = H a) (h : SlotOk J M H s o) : SlotOk J M' H' s o := by
  cases s with
  | un => trivial
  | val d => obtain ⟨v, e, q⟩ := h; exact ⟨v, e, Rep.step st md _ _ q⟩
  | own d => obtain ⟨a, e, m, q, z⟩ := h; exact ⟨a, e, (hs a rfl e).1, OwnAt.step st md (hs a rfl e).2 q, z⟩
  | io d => obtain ⟨a, e, m, q, z⟩ := h; exact ⟨a, e, (hs a rfl e).1, OwnAt.step st md (hs a rfl e).2 q, z⟩
  | xc x => obtain ⟨a, cls, dd, e, q, z⟩ := h; exact ⟨a, cls, dd, e, q, z.step st md⟩
theorem SI.step (I : SI J M r σ H) (st : Step M H M' H') (md : MD M' H') (m0 : ∀ b, J.M0 b → M' b) (kp : ∀ b o, J.H0 b = some o → J.io ≠ some b → H' b = some o)
    (hs : ∀ (i : Nat) s a, r[i]? = some s → s.owned = true → σ[i]? = some (some (.ref a)) → M' a ∧ H' a = H a) : SI J M' r σ H' :=
  ⟨md, m0, I.io0, kp, I.len, fun i s e => (I.slot i s e).step st I.md (fun a o q => hs i s a e o q), I.dist⟩
theorem SlotOk.ownM {s : Sl} {a : Addr} {o : Option (Option V)} (h : SlotOk J M H s o) (hs : s.owned = true) (e : o = some (some (.ref a))) : M a := by
  cases s with
  | own d => obtain ⟨b, e', m, _⟩ := h; rw [e] at e'; cases e'; exact m
  | io d => obtain ⟨b, e', m, _⟩ := h; rw [e] at e'; cases e'; exact m
  | un => cases hs
  | val d => cases hs
  | xc x => cases hs
/-- the heap grows -/
theorem SI.ext (I : SI J M r σ H) (e : Extn H H') : SI J M r σ H' :=
  I.step (Step.ext e) (I.md.ext e) I.m0 (fun b o h n => e b o (I.keep b o h n)) fun i s a h o q => by
    have m := (I.slot i s h).ownM o q
    obtain ⟨u, hu⟩ := I.md.some m
    exact ⟨m, (e a u hu).trans hu.symm⟩
/-- an object of its own is written -/
theorem SI.write {i : Nat} {a : Addr} {s s' : Sl} (I : SI J M r σ H) (hi : r[i]? = some s) (ho : s.owned = true) (ha : σ[i]? = some (some (.ref a))) (ho' : s'.owned = true)
    (kp : ∀ b o, H b = some o → b ≠ a → H' b = some o) (md : MD M H') (new : SlotOk J M H' s' (some (some (.ref a)))) : SI J M (r.set i s') σ H' := by
  have hm : M a := (I.slot i s hi).ownM ho ha
  have st : Step M H M H' := ⟨fun b o h n => kp b o h (fun e => n (e ▸ hm)), fun b h => .inl h⟩
  have hio : ∀ b o, J.H0 b = some o → J.io ≠ some b → H' b = some o := fun b o h n => by
    refine kp b o (I.keep b o h n) fun e => ?_
    subst e
    have z := I.slot i s hi
    cases s with
    | own d => obtain ⟨c, e', _, _, _, q⟩ := z; rw [ha] at e'; cases e'; rw [h] at q; cases q
    | io d => obtain ⟨c, e', _, _, q⟩ := z; rw [ha] at e'; cases e'; exact n q
    | un => cases ho
    | val d => cases ho
    | xc x => cases ho
  refine ⟨md, I.m0, I.io0, hio, by rw [List.length_set]; exact I.len, fun j t e => ?_, fun j k t u c e1 e2 h1 h2 h3 h4 => ?_⟩
  · rw [List.getElem?_set] at e
    by_cases hj : i = j
    · subst hj
      rw [if_pos rfl] at e
      split at e
      · cases e; rw [ha]; exact new
      · cases e
    · rw [if_neg hj] at e
      refine (I.slot j t e).step st I.md fun c o q => ?_
      have m := (I.slot j t e).ownM o q
      obtain ⟨u, hu⟩ := I.md.some m
      have hne : c ≠ a := fun z => hj (I.dist i j s t a hi e ho o ha (z ▸ q))
      exact ⟨m, (kp c u hu hne).trans hu.symm⟩
  · have pick : ∀ (j : Nat) t, (r.set i s')[j]? = some t → t.owned = true → ∃ t', r[j]? = some t' ∧ t'.owned = true := fun j t e h => by
      rw [List.getElem?_set] at e
      by_cases hj : i = j
      · subst hj; exact ⟨s, hi, ho⟩
      · rw [if_neg hj] at e; exact ⟨t, e, h⟩
    obtain ⟨t', e1', h1'⟩ := pick j t e1 h1
    obtain ⟨u', e2', h2'⟩ := pick k u e2 h2
    exact I.dist j k t' u' c e1' e2' h1' h2' h3 h4
/-- a name is stored: data -/
theorem SI.set {i : Nat} {d : D} {v : V} (I : SI J M r σ H) (h : Rep J.G M H d v) : SI J M (r.set i (.val d)) (σ.set i (some v)) H := by
  have hl := I.len
  refine ⟨I.md, I.m0, I.io0, I.keep, by rw [List.length_set, List.length_set]; exact I.len, fun j t e => ?_, fun j k t u c e1 e2 h1 h2 h3 h4 => ?_⟩
  · rw [List.getElem?_set] at e ⊢
    by_cases hj : i = j
    · subst hj
      rw [if_pos rfl] at e ⊢
      split at e
      · cases e
        rename_i hlt
        rw [if_pos (by omega)]
        exact ⟨v, rfl, h⟩
      · cases e
    · rw [if_neg hj] at e ⊢
      exact I.slot j t e
  · rw [List.getElem?_set] at e1 e2 h3 h4
    by_cases hj : i = j
    · subst hj
      rw [if_pos rfl] at e1
      split at e1
      · cases e1; cases h1
      · cases e1
    · by_cases hk : i = k
      · subst hk
        rw [if_pos rfl] at e2
        split at e2
        · cases e2; cases h2
        · cases e2
      · rw [if_neg hj] at e1 h3
        rw [if_neg hk] at e2 h4
        exact I.dist j k t u c e1 e2 h1 h2 h3 h4
/-- a name is stored: a new object of its own -/
theorem SI.setOwn {i : Nat} {d : D} {a : Addr} (I : SI J M r σ H) (m : M a) (h : OwnAt J.G M H a d) (n0 : ¬ J.M0 a) (h0 : J.H0 a = none)
    (fl : ∀ (j : Nat) s, r[j]? = some s → s.owned = true → σ[j]? ≠ some (some (.ref a))) : SI J M (r.set i (.own d)) (σ.set i (some (.ref a))) H := by
  have hl := I.len
  refine ⟨I.md, I.m0, I.io0, I.keep, by rw [List.length_set, List.length_set]; exact I.len, fun j t e => ?_, fun j k t u c e1 e2 h1 h2 h3 h4 => ?_⟩
  · rw [List.getElem?_set] at e ⊢
    by_cases hj : i = j
    · subst hj
      rw [if_pos rfl] at e ⊢
      split at e
      · cases e
        rename_i hlt
        rw [if_pos (by omega)]
        exact ⟨a, rfl, m, h, n0, h0⟩
      · cases e
    · rw [if_neg hj] at e ⊢
      exact I.slot j t e
  · rw [List.getElem?_set] at e1 e2 h3 h4
    by_cases hj : i = j
    · subst hj
      by_cases hk : i = k
      · exact hk
      · rw [if_neg hk] at e2 h4
        rw [if_pos rfl] at h3
        split at h3
        · cases h3; exact absurd h4 (fl k u e2 h2)
        · cases h3
    · by_cases hk : i = k
      · subst hk
        rw [if_neg hj] at e1 h3
        rw [if_pos rfl] at h4
        split at h4
        · cases h4; exact absurd h3 (fl j t e1 h1)
        · cases h4
      · rw [if_neg hj] at e1 h3
        rw [if_neg hk] at e2 h4
        exact I.dist j k t u c e1 e2 h1 h2 h3 h4
/-- a name is forgotten -/
theorem SI.drop {i : Nat} (I : SI J M r σ H) : SI J M (r.set i .un) (σ.set i none) H := by
  have hl := I.len
  refine ⟨I.md, I.m0, I.io0, I.keep, by rw [List.length_set, List.length_set]; exact I.len, fun j t e => ?_, fun j k t u c e1 e2 h1 h2 h3 h4 => ?_⟩
  · rw [List.getElem?_set] at e ⊢
    by_cases hj : i = j
    · subst hj
      rw [if_pos rfl] at e
      split at e
      · cases e; trivial
      · cases e
    · rw [if_neg hj] at e ⊢
      exact I.slot j t e
  · rw [List.getElem?_set] at e1 e2 h3 h4
    by_cases hj : i = j
    · subst hj
      rw [if_pos rfl] at e1
      split at e1
      · cases e1; cases h1
      · cases e1
    · by_cases hk : i = k
      · subst hk
        rw [if_pos rfl] at e2
        split at e2
        · cases e2; cases h2
        · cases e2
      · rw [if_neg hj] at e1 h3
        rw [if_neg hk] at e2 h4
        exact I.dist j k t u c e1 e2 h1 h2 h3 h4
theorem OwnAt.rep {G : Gm} {a : Addr} {d : D} (h : OwnAt G M H a d) (n : ¬ M a) : Rep G M H d (.ref a) := by
  cases d with
  | lst xs => obtain ⟨vs, h, r⟩ := h; exact ⟨a, vs, rfl, n, h, r⟩
  | dct ks ds => obtain ⟨vs, h, r⟩ := h; exact ⟨a, vs, rfl, n, h, r⟩
  | ob c ns ds => obtain ⟨C, dx, vs, hc, h, l, r⟩ := h; exact ⟨a, C, dx, vs, rfl, n, hc, h, l, r⟩
  | non => exact h.elim
  | bl b => exact h.elim
  | int i => exact h.elim
  | str s => exact h.elim
  | tup xs => exact h.elim
  | fn c => exact h.elim
  | scr ns => exact h.elim
/-- the owned at a are owned no more -/
theorem Step.freeze (a : Addr) : Step M H (fun b => M b ∧ b ≠ a) H := ⟨fun _ _ h _ => h, fun _ h => .inl h.1⟩
/-- a floating owned object becomes data -/
theorem SI.freeze {a : Addr} (I : SI J M r σ H) (n0 : ¬ J.M0 a) (fl : ∀ (j : Nat) s, r[j]? = some s → s.owned = true → σ[j]? ≠ some (some (.ref a))) : SI J (fun b => M b ∧ b ≠ a) r σ H :=
  I.step (Step.freeze a) (fun b h => I.md b h.1) (fun b h => ⟨I.m0 b h, fun e => n0 (e ▸ h)⟩) I.keep fun i s c h o q =>
    ⟨⟨(I.slot i s h).ownM o q, fun e => fl i s h o (e ▸ q)⟩, rfl⟩
/-- the owned object of a name becomes data -/
theorem SI.freezeAt {i : Nat} {d : D} (I : SI J M r σ H) (hi : r[i]? = some (.own d)) : ∃ a, σ[i]? = some (some (.ref a)) ∧ SI J (fun b => M b ∧ b ≠ a) (r.set i (.val d)) σ H ∧ Rep J.G (fun b => M b ∧ b ≠ a) H d (.ref a) := by
  obtain ⟨a, e, m, o, n0, h0⟩ := I.slot i _ hi
  have hlt : i < σ.length := (List.getElem?_eq_some_iff.mp e).1
  have I1 : SI J M (r.set i .un) (σ.set i none) H := I.drop
  have I2 := I1.freeze (a := a) n0 fun j s hj hs hq => by
    rw [List.getElem?_set] at hj hq
    by_cases hij : i = j
    · subst hij
      rw [if_pos rfl] at hj
      split at hj
      · cases hj; cases hs
      · cases hj
    · rw [if_neg hij] at hj hq
      exact hij (I.dist i j _ s a hi hj rfl hs e hq)
  have R : Rep J.G (fun b => M b ∧ b ≠ a) H d (.ref a) := by
    have o' : OwnAt J.G (fun b => M b ∧ b ≠ a) H a d := o.step (Step.freeze a) I.md rfl
    exact o'.rep fun h => h.2 rfl
  have I3 := I2.set (i := i) R
  rw [List.set_set, List.set_set] at I3
  have es : σ.set i (some (.ref a)) = σ := by
    apply List.ext_getElem?
    intro j
    rw [List.getElem?_set]
    by_cases hij : i = j
    · subst hij; rw [if_pos rfl, if_pos hlt, e]
    · rw [if_neg hij]
  rw [es] at I3
  exact ⟨a, e, I3, R⟩
/-- a new object of its own -/
theorem SI.newOwn {p : Addr} {o : HO} (I : SI J M r σ H) (hp : H p = none) (mu : Mut (some o)) : SI J (fun b => M b ∨ b = p) r σ (upd H p o) ∧ Step M H (fun b => M b ∨ b = p) (upd H p o) ∧ ¬ M p ∧ ¬ J.M0 p ∧ J.H0 p = none ∧
    (∀ (j : Nat) s, r[j]? = some s → s.owned = true → σ[j]? ≠ some (some (.ref p))) := by
  have nm : ¬ M p := fun m => by have z := I.md p m; rw [hp] at z; exact z
  have st : Step M H (fun b => M b ∨ b = p) (upd H p o) := ⟨fun b u h _ => by rw [upd_ne (ne_of_none h hp)]; exact h, fun b h => h.elim .inl fun e => .inr (e ▸ hp)⟩
  have n0 : ¬ J.M0 p := fun m => nm (I.m0 p m)
  refine ⟨I.step st (fun b h => ?_) (fun b h => .inl (I.m0 b h)) (fun b u h n => ?_) (fun i s a h os q => ?_), st, nm, n0, ?_, fun j s h os q => nm ((I.slot j s h).ownM os q)⟩
  · rcases h with h | h
    · have hb : b ≠ p := fun e => nm (e ▸ h)
      rw [upd_ne hb]; exact I.md b h
    · subst h; rw [upd_same]; exact mu
  · have z := I.keep b u h n
    rw [upd_ne (ne_of_none z hp)]; exact z
  · have m := (I.slot i s h).ownM os q
    have hb : a ≠ p := fun e => nm (e ▸ m)
    exact ⟨.inl m, by rw [upd_ne hb]⟩
  · cases q : J.H0 p with
    | none => rfl
    | some u =>
      by_cases hio : J.io = some p
      · exact absurd (I.io0 p hio) n0
      · rw [I.keep p u q hio] at hp; cases hp
end
end DL

set_option Elab.async false
set_option linter.all false
set_option maxRecDepth 100000
set_option maxHeartbeats 4000000
namespace DL
open PySem L2

/-- what is wanted of a reading's outcome: R links the data to the value -/
def Out {α β : Type} (J : Jx) (R : List Sl → St → (Addr → Prop) → Hp → α → β → Prop) (M : Addr → Prop) (H : Hp) (σ : St) (m : RE α) (Q : β → Hp → Prop) : Prop := match m with
  | .ok a r => ∀ b M' H', Step M H M' H' → SI J M' r σ H' → R r σ M' H' a b → Q b H'
  | .exn x r => ∀ cls dd M' H', Step M H M' H' → SI J M' r σ H' → RepX J.G M' H' x cls dd → J.W cls dd σ H'
  | .bad => False
def RV (J : Jx) : List Sl → St → (Addr → Prop) → Hp → D → V → Prop := fun _ _ M H d v => Rep J.G M H d v
def RVs (J : Jx) : List Sl → St → (Addr → Prop) → Hp → List D → List V → Prop := fun _ _ M H d v => RepL J.G M H d v
def RB : List Sl → St → (Addr → Prop) → Hp → Bool → Bool → Prop := fun _ _ _ _ a b => b = a
/-- a new object of its own, which no name holds -/
def RO (J : Jx) : List Sl → St → (Addr → Prop) → Hp → D → V → Prop := fun r σ M H d v => ∃ a, v = .ref a ∧ M a ∧ OwnAt J.G M H a d ∧ ¬ J.M0 a ∧ J.H0 a = none ∧ ∀ (j : Nat) s, r[j]? = some s → s.owned = true → σ[j]? ≠ some (some (.ref a))
def tX {α β : Type} (J : Jx) (R : List Sl → St → (Addr → Prop) → Hp → α → β → Prop) (f : List Sl → RE α) : St → Hp → (β → Hp → Prop) → Prop :=
  fun σ H Q => ∃ M r, SI J M r σ H ∧ Out J R M H σ (f r) Q
abbrev tE (J : Jx) (f : List Sl → RE D) : TE := tX J (RV J) f
abbrev tN (J : Jx) (f : List Sl → RE D) : TE := tX J (RO J) f
abbrev tT (J : Jx) (f : List Sl → RE Bool) : TT := tX J RB f
abbrev tA (J : Jx) (f : List Sl → RE (List D)) : TA := tX J (RVs J) f

def OutS (J : Jx) (M : Addr → Prop) (H : Hp) (m : RS) (E : Ends) : Prop := match m with
  | .nx r => ∀ M' σ' H', Step M H M' H' → SI J M' r σ' H' → E.nx σ' H'
  | .bk r => ∀ M' σ' H', Step M H M' H' → SI J M' r σ' H' → E.bk σ' H'
  | .ct r => ∀ M' σ' H', Step M H M' H' → SI J M' r σ' H' → E.ct σ' H'
  | .rt d r => ∀ v M' σ' H', Step M H M' H' → SI J M' r σ' H' → Rep J.G M' H' d v → E.rt v H'
  | .exn x r => ∀ cls dd M' σ' H', Step M H M' H' → SI J M' r σ' H' → RepX J.G M' H' x cls dd → J.W cls dd σ' H'
  | .bad => False
def tS (J : Jx) (f : List Sl → RS) : TS := fun E σ H => ∃ M r, SI J M r σ H ∧ OutS J M H (f r) E

section
variable {J : Jx} {M M' : Addr → Prop} {H H' : Hp} {σ : St} {α β γ δ : Type}
theorem Out.step {R : List Sl → St → (Addr → Prop) → Hp → α → β → Prop} {m : RE α} {Q : β → Hp → Prop} (st : Step M H M' H') (h : Out J R M H σ m Q) : Out J R M' H' σ m Q := by
  cases m with
  | ok a r => exact fun b M2 H2 s2 => h b M2 H2 (st.trans s2)
  | exn x r => exact fun c d M2 H2 s2 => h c d M2 H2 (st.trans s2)
  | bad => exact h
theorem OutS.step {m : RS} {E : Ends} (st : Step M H M' H') (h : OutS J M H m E) : OutS J M' H' m E := by
  cases m with
  | nx r => exact fun M2 σ2 H2 s2 => h M2 σ2 H2 (st.trans s2)
  | bk r => exact fun M2 σ2 H2 s2 => h M2 σ2 H2 (st.trans s2)
  | ct r => exact fun M2 σ2 H2 s2 => h M2 σ2 H2 (st.trans s2)
  | rt d r => exact fun v M2 σ2 H2 s2 => h v M2 σ2 H2 (st.trans s2)
  | exn x r => exact fun c d M2 σ2 H2 s2 => h c d M2 σ2 H2 (st.trans s2)
  | bad => exact h
/-- first m, then k -/
theorem Out.bind {R : List Sl → St → (Addr → Prop) → Hp → γ → δ → Prop} {R1 : List Sl → St → (Addr → Prop) → Hp → α → β → Prop} {m : RE α} {k : α → List Sl → RE γ} {Q : δ → Hp → Prop} {Q1 : β → Hp → Prop} (h : Out J R M H σ (m.bind k) Q)
    (hk : ∀ a r b M1 H1, Step M H M1 H1 → SI J M1 r σ H1 → R1 r σ M1 H1 a b → Out J R M1 H1 σ (k a r) Q → Q1 b H1) : Out J R1 M H σ m Q1 := by
  cases m with
  | ok a r => exact fun b M1 H1 st I r1 => hk a r b M1 H1 st I r1 (Out.step st h)
  | exn x r => exact h
  | bad => exact h
end

/-! ### weakening -/
theorem PEi {X : Cx} {e : Expr} {t t' : TE} (h : PE X e t) (w : ∀ σ H Q, t' σ H Q → t σ H Q) : PE X e t' := ⟨fun pins s σ H Q I q => h.run pins s σ H Q I (w σ H Q q)⟩
theorem PTi {X : Cx} {e : Expr} {t t' : TT} (h : PT X e t) (w : ∀ σ H Q, t' σ H Q → t σ H Q) : PT X e t' := ⟨fun pins s σ H Q I q => h.run pins s σ H Q I (w σ H Q q)⟩
theorem PWi {X : Cx} {e : Expr} {t t' : TT} (h : PW X e t) (w : ∀ σ H Q, t' σ H Q → t σ H Q) : PW X e t' := ⟨fun wh pins s σ H Q I q => h.run wh pins s σ H Q I (w σ H Q q)⟩
theorem PAi {X : Cx} {e : List Expr} {t t' : TA} (h : PA X e t) (w : ∀ σ H Q, t' σ H Q → t σ H Q) : PA X e t' := ⟨fun p pins s σ H Q I q => h.run p pins s σ H Q I (w σ H Q q)⟩
theorem PSi {X : Cx} {e : Stmt} {t t' : TS} (h : PS X e t) (w : ∀ E σ H, t' E σ H → t E σ H) : PS X e t' := ⟨fun pins s σ H E I q => h.run pins s σ H E I (w E σ H q)⟩
theorem PSsi {X : Cx} {e : List Stmt} {t t' : TS} (h : PSs X e t) (w : ∀ E σ H, t' E σ H → t E σ H) : PSs X e t' := ⟨fun pins s σ H E I q => h.run pins s σ H E I (w E σ H q)⟩

/-! ### names and constants -/
def rd (i : Nat) : List Sl → RE D := fun r => match r[i]? with
  | some (.val d) => .ok d r
  | some (.own d) => .ok d (r.set i (.val d))
  | _ => .bad
/-- the data that a name holds, read where it stands -/
def pk (i : Nat) : List Sl → RE D := fun r => match r[i]? with
  | some (.val d) => .ok d r
  | some (.own d) => .ok d r
  | some (.io d) => .ok d r
  | _ => .bad
def cst (d : D) : List Sl → RE D := fun r => .ok d r
section
variable {X : Cx} {J : Jx}
theorem e_name (i : Nat) {x : Str} {pos : Pos} (hN : X.N[i]? = some x := by rfl) (hv : Vis X.env.scope x := by first | exact Or.inl rfl | exact Or.inr (Or.inl rfl) | exact Or.inr (Or.inr rfl)) (hd : (x == ("__debug__" : Str)) = false := by decide)
    (hcd : (x == ("__classdict__" : Str)) = false := by decide) : PE X (.Name x pos) (tE J (rd i)) := by
  refine PEi (pe_var hN hv hd hcd) fun σ H Q ⟨M, r, I, h⟩ => ?_
  unfold rd at h
  cases e : r[i]? with
  | none => rw [e] at h; exact h.elim
  | some s =>
    rw [e] at h
    cases s with
    | val d =>
      obtain ⟨v, hv, q⟩ := I.slot i _ e
      exact ⟨v, hv, h v M H Step.refl I q⟩
    | own d =>
      obtain ⟨a, ha, I', R'⟩ := I.freezeAt e
      exact ⟨_, ha, h _ _ H (Step.freeze a) I' R'⟩
    | un => exact h.elim
    | io d => exact h.elim
    | xc x => exact h.elim
theorem Out.ok_here {M : Addr → Prop} {H : Hp} {σ : St} {r : List Sl} {d : D} {v : V} {Q : VK} (I : SI J M r σ H) (h : Out J (RV J) M H σ (.ok d r) Q) (q : Rep J.G M H d v) : Q v H := h v M H Step.refl I q
theorem e_int {i : Int} {j : Nat} {pos : Pos} : PE X (.Constant (.int i) j pos) (tE J (cst (.int i))) := PEi pe_int fun σ H Q ⟨M, r, I, h⟩ => h _ M H Step.refl I rfl
theorem e_bl {i : Bool} {j : Nat} {pos : Pos} : PE X (.Constant (.bool i) j pos) (tE J (cst (.bl i))) := PEi pe_bl fun σ H Q ⟨M, r, I, h⟩ => h _ M H Step.refl I rfl
theorem e_non {j : Nat} {pos : Pos} : PE X (.Constant .none j pos) (tE J (cst .non)) := PEi pe_non fun σ H Q ⟨M, r, I, h⟩ => h _ M H Step.refl I rfl
theorem e_str {i : Str} {j : Nat} {pos : Pos} : PE X (.Constant (.str i) j pos) (tE J (cst (.str i))) := PEi pe_str fun σ H Q ⟨M, r, I, h⟩ => h _ M H Step.refl I rfl
/-- a def of the text, as a value -/
theorem e_fn {c : Str} {f : Addr} {pos : Pos} (hg : Gl X c) (hm : X.mg c = some (.ref f)) (hG : J.G.mg c = some (.ref f)) (hd : (c == ("__debug__" : Str)) = false := by decide) : PE X (.Name c pos) (tE J (cst (.fn c))) :=
  PEi (pe_glob (v := .ref f) hg hm rfl hd) fun σ H Q ⟨M, r, I, h⟩ => h _ M H Step.refl I ⟨f, rfl, hG⟩
/-- a constant of the module: data whose every part is written -/
theorem e_glob {c : Str} {u : Value} {v : V} {d : D} {pos : Pos} (hg : Gl X c) (hm : X.mg c = some u) (rv : RelV v u) (hR : ∀ M H, Rep J.G M H d v) (hd : (c == ("__debug__" : Str)) = false := by decide) : PE X (.Name c pos) (tE J (cst d)) :=
  PEi (pe_glob hg hm rv hd) fun σ H Q ⟨M, r, I, h⟩ => h _ M H Step.refl I (hR M H)

/-! ### operators on values -/
/-- data read where it stands: it may be an owned object -/
def RepB (G : Gm) (M : Addr → Prop) (H : Hp) (d : D) (v : V) : Prop := Rep G M H d v ∨ ∃ a, v = .ref a ∧ OwnAt G M H a d
def RW (J : Jx) : List Sl → St → (Addr → Prop) → Hp → D → V → Prop := fun _ _ M H d v => RepB J.G M H d v
abbrev tB (J : Jx) (f : List Sl → RE D) : TE := tX J (RW J) f
theorem b_of {e : Expr} {f : List Sl → RE D} (h : PE X e (tE J f)) : PE X e (tB J f) := PEi h fun σ H Q ⟨M, r, I, q⟩ => ⟨M, r, I, by
  cases e : f r with
  | ok d r1 => rw [e] at q; exact fun v M' H' st I' rv => q v M' H' st I' (.inl rv)
  | exn x r1 => rw [e] at q; exact q
  | bad => rw [e] at q; exact q.elim⟩
theorem pk_core {i : Nat} {M : Addr → Prop} {r : List Sl} {σ : St} {H : Hp} {d : D} {r' : List Sl} (I : SI J M r σ H) (e : pk i r = .ok d r') : r' = r ∧ ∃ v, σ[i]? = some (some v) ∧ RepB J.G M H d v := by
  unfold pk at e
  split at e
  · rename_i d' h; cases e
    obtain ⟨v, hv, q⟩ := I.slot i _ h
    exact ⟨rfl, v, hv, .inl q⟩
  · rename_i d' h; cases e
    obtain ⟨a, ha, m, q, _⟩ := I.slot i _ h
    exact ⟨rfl, _, ha, .inr ⟨a, rfl, q⟩⟩
  · rename_i d' h; cases e
    obtain ⟨a, ha, m, q, _⟩ := I.slot i _ h
    exact ⟨rfl, _, ha, .inr ⟨a, rfl, q⟩⟩
  · cases e
theorem b_name (i : Nat) {x : Str} {pos : Pos} (hN : X.N[i]? = some x := by rfl) (hv : Vis X.env.scope x := by first | exact Or.inl rfl | exact Or.inr (Or.inl rfl) | exact Or.inr (Or.inr rfl)) (hd : (x == ("__debug__" : Str)) = false := by decide)
    (hcd : (x == ("__classdict__" : Str)) = false := by decide) : PE X (.Name x pos) (tB J (pk i)) := by
  refine PEi (pe_var hN hv hd hcd) fun σ H Q ⟨M, r, I, h⟩ => ?_
  cases e : pk i r with
  | ok d r1 =>
    rw [e] at h
    obtain ⟨rfl, v, hv, q⟩ := pk_core I e
    exact ⟨v, hv, h v M H Step.refl I q⟩
  | exn x r1 => unfold pk at e; split at e <;> cases e
  | bad => rw [e] at h; exact h.elim
def has (i : Nat) (r : List Sl) : Bool := match pk i r with
  | .ok _ _ => true
  | _ => false
theorem has_core {i : Nat} {M : Addr → Prop} {r : List Sl} {σ : St} {H : Hp} (I : SI J M r σ H) (e : has i r = true) : ∃ v, σ[i]? = some (some v) := by
  unfold has at e
  split at e
  · rename_i h
    obtain ⟨_, v, hv, _⟩ := pk_core I h
    exact ⟨v, hv⟩
  · cases e
def liftO (o : Option D) (r : List Sl) : RE D := match o with
  | some d => .ok d r
  | none => .bad
def bin (g : D → D → Option D) (fa fb : List Sl → RE D) : List Sl → RE D := fun r => (fa r).bind fun x r1 => (fb r1).bind fun y r2 => liftO (g x y) r2
/-- where the right one is a name, read where it stands -/
def OpD (G : Gm) (r2 : R2) (g : D → D → Option D) : Prop := ∀ M H x y vx vy d (Q : VK), MD M H → g x y = some d → RepB G M H x vx → RepB G M H y vy → (∀ v H', Extn H H' → Rep G M H' d v → Q v H') → r2 vx vy H Q
theorem op_core {M : Addr → Prop} {H : Hp} {σ : St} {r : List Sl} {x y : D} {vx vy : V} {Q : VK} {r2 : R2} {g : D → D → Option D} (hg : OpD J.G r2 g) (I : SI J M r σ H) (rx : RepB J.G M H x vx) (ry : RepB J.G M H y vy)
    (h : Out J (RV J) M H σ (liftO (g x y) r) Q) : r2 vx vy H Q := by
  cases e : g x y with
  | none => rw [e] at h; exact h.elim
  | some d =>
    rw [e] at h
    exact hg M H x y vx vy d Q I.md e rx ry fun v H' ex q => h v M H' (Step.ext ex) (I.ext ex) q
variable {a b : Expr} {fa fb : List Sl → RE D} {pos : Pos}
theorem bin_core {r2 : R2} {g : D → D → Option D} (hg : OpD J.G r2 g) (σ : St) (H : Hp) (Q : VK) (h : tE J (bin g fa fb) σ H Q) : tOp r2 (tE J fa) (tB J fb) σ H Q := by
  obtain ⟨M, r, I, h⟩ := h
  refine ⟨M, r, I, Out.bind h fun x r1 vx M1 H1 st1 I1 rx h1 => ?_⟩
  refine ⟨M1, r1, I1, Out.bind h1 fun y r2 vy M2 H2 st2 I2 ry h2 => ?_⟩
  exact op_core hg I2 (.inl (Rep.step st2 I1.md _ _ rx)) ry h2
theorem e_bin {op : Operator} {r2 : R2} {g : D → D → Option D} (ho : OpR X (binaryOp op) r2) (hg : OpD J.G r2 g) (ha : PE X a (tE J fa)) (hb : PE X b (tB J fb)) : PE X (.BinOp a op b pos) (tE J (bin g fa fb)) :=
  PEi (pe_op ho ha hb) fun σ H Q h => bin_core hg σ H Q h
theorem e_cmp {op : CmpOp} {r2 : R2} {g : D → D → Option D} (ho : OpR X (compareOp op) r2) (hg : OpD J.G r2 g) (ha : PE X a (tE J fa)) (hb : PE X b (tB J fb)) (hm : behindInMarks op b = false) : PE X (.Compare a [op] [b] pos) (tE J (bin g fa fb)) :=
  PEi (pe_cmpR ho ha hb hm) fun σ H Q h => bin_core hg σ H Q h
/-- the left one a name, read where it stands (behind the right one) -/
def binL (g : D → D → Option D) (i : Nat) (fb : List Sl → RE D) : List Sl → RE D := fun r => if has i r then (fb r).bind fun y r1 => (pk i r1).bind fun x r2 => liftO (g x y) r2 else .bad
theorem binL_core {r2 : R2} {g : D → D → Option D} {i : Nat} (hg : OpD J.G r2 g) (σ : St) (H : Hp) (Q : VK) (h : tE J (binL g i fb) σ H Q) : tOp r2 (tVar i) (tB J fb) σ H Q := by
  obtain ⟨M, r, I, h⟩ := h
  unfold binL at h
  split at h
  · rename_i hh
    obtain ⟨v, hv⟩ := has_core I hh
    refine ⟨v, hv, M, r, I, Out.bind h fun y r1 vy M1 H1 st1 I1 ry h1 => ?_⟩
    cases e : pk i r1 with
    | ok d r3 =>
      rw [e] at h1
      obtain ⟨rfl, u, hu, q⟩ := pk_core I1 e
      rw [hv] at hu
      cases hu
      exact op_core hg I1 q ry h1
    | exn x r1 => unfold pk at e; split at e <;> cases e
    | bad => rw [e] at h1; exact h1.elim
  · exact h.elim
theorem e_binL {op : Operator} {r2 : R2} {g : D → D → Option D} (i : Nat) {x : Str} {p : Pos} (ho : OpR X (binaryOp op) r2) (hg : OpD J.G r2 g) (hb : PE X b (tB J fb)) (hN : X.N[i]? = some x := by rfl) (hv : Vis X.env.scope x := by first | exact Or.inl rfl | exact Or.inr (Or.inl rfl) | exact Or.inr (Or.inr rfl)) (hd : (x == ("__debug__" : Str)) = false := by decide)
    (hcd : (x == ("__classdict__" : Str)) = false := by decide) : PE X (.BinOp (.Name x p) op b pos) (tE J (binL g i fb)) :=
  PEi (pe_op ho (pe_var hN hv hd hcd) hb) fun σ H Q h => binL_core hg σ H Q h
theorem e_cmpL {op : CmpOp} {r2 : R2} {g : D → D → Option D} (i : Nat) {x : Str} {p : Pos} (ho : OpR X (compareOp op) r2) (hg : OpD J.G r2 g) (hb : PE X b (tB J fb)) (hm : behindInMarks op b = false) (hN : X.N[i]? = some x := by rfl) (hv : Vis X.env.scope x := by first | exact Or.inl rfl | exact Or.inr (Or.inl rfl) | exact Or.inr (Or.inr rfl)) (hd : (x == ("__debug__" : Str)) = false := by decide)
    (hcd : (x == ("__classdict__" : Str)) = false := by decide) : PE X (.Compare (.Name x p) [op] [b] pos) (tE J (binL g i fb)) :=
  PEi (pe_cmpR ho (pe_var hN hv hd hcd) hb hm) fun σ H Q h => binL_core hg σ H Q h
def un (g : D → Option D) (fa : List Sl → RE D) : List Sl → RE D := fun r => (fa r).bind fun x r1 => liftO (g x) r1
def gNeg : D → Option D
  | .int i => some (.int (-i))
  | _ => none
theorem e_neg (ha : PE X a (tE J fa)) : PE X (.UnaryOp .USub a pos) (tE J (un gNeg fa)) :=
  PEi (pe_un un_neg ha) fun σ H Q ⟨M, r, I, h⟩ => ⟨M, r, I, Out.bind h fun x r1 vx M1 H1 st1 I1 rx h1 => by
    cases x with
    | int i => cases rx; exact ⟨i, rfl, h1 _ M1 H1 Step.refl I1 rfl⟩
    | _ => exact h1.elim⟩
end
end DL

set_option Elab.async false
set_option linter.all false
set_option maxRecDepth 100000
set_option maxHeartbeats 4000000
namespace DL
open PySem L2

/-! ### data: plain to a depth, equality -/
def okd : Nat → D → Bool
  | _, .non => true
  | _, .bl _ => true
  | _, .int _ => true
  | _, .str _ => true
  | k + 1, .tup xs => xs.all (okd k)
  | k + 1, .lst xs => xs.all (okd k)
  | _, _ => false
mutual
def D.eqb : D → D → Bool
  | .non, .non => true
  | .bl a, .bl b => a == b
  | .bl a, .int j => (if a then 1 else 0) == j
  | .int i, .bl b => i == (if b then 1 else 0)
  | .int i, .int j => i == j
  | .str x, .str y => x == y
  | .lst xs, .lst ys => eqbL xs ys
  | .tup xs, .tup ys => eqbL xs ys
  | _, _ => false
def eqbL : List D → List D → Bool
  | [], [] => true
  | x :: xs, y :: ys => D.eqb x y && eqbL xs ys
  | _, _ => false
end
mutual
def toPy : D → PyData
  | .non => .none
  | .bl b => .bool b
  | .int i => .int i
  | .str s => .str s
  | .tup xs => .tuple (toPyL xs)
  | .lst xs => .list (toPyL xs)
  | .dct _ _ => .none
  | .ob _ _ _ => .none
  | .fn _ => .none
  | .scr _ => .none
def toPyL : List D → List PyData
  | [] => []
  | x :: xs => toPy x :: toPyL xs
end
theorem toPyL_eq : ∀ xs : List D, toPyL xs = xs.map toPy
  | [] => rfl
  | x :: xs => by show toPy x :: toPyL xs = _; rw [toPyL_eq xs]; rfl
/-- data that is compared -/
def okp (d : D) : Prop := ∃ k, okd k d = true
theorem okd_tup {k : Nat} {xs : List D} : okd (k + 1) (.tup xs) = xs.all (okd k) := by rw [okd]
theorem okd_lst {k : Nat} {xs : List D} : okd (k + 1) (.lst xs) = xs.all (okd k) := by rw [okd]
theorem okd_items {k : Nat} {xs : List D} (h : okd k (.tup xs) = true ∨ okd k (.lst xs) = true) : ∃ j, k = j + 1 ∧ xs.all (okd j) = true := by
  cases k with
  | zero => rcases h with h | h <;> simp [okd] at h
  | succ j =>
    refine ⟨j, rfl, ?_⟩
    rcases h with h | h
    · rwa [okd_tup] at h
    · rwa [okd_lst] at h
theorem okd_other {k : Nat} {d : D} (h : okd k d = true) : (∀ a b, d ≠ .dct a b) ∧ (∀ a b c, d ≠ .ob a b c) ∧ (∀ a, d ≠ .fn a) ∧ ∀ a, d ≠ .scr a := by
  refine ⟨?_, ?_, ?_, ?_⟩ <;> intros <;> intro e <;> subst e <;> cases k <;> simp [okd] at h
mutual
theorem dp_of (G : Gm) (M : Addr → Prop) (H : Hp) : ∀ (d : D) (k : Nat) (v : V), okd k d = true → Rep G M H d v → Dp G.K H v (toPy d)
  | .non, _, _, _, h => by cases h; exact .non
  | .bl b, _, _, _, h => by cases h; exact .bl b
  | .int i, _, _, _, h => by cases h; exact .int i
  | .str s, _, _, _, h => by cases h; exact .str s
  | .tup xs, k, _, ho, ⟨a, vs, e, q, r⟩ => by
    subst e
    obtain ⟨j, rfl, hj⟩ := okd_items (.inl ho)
    exact .tup q.sqt (dpAll_of G M H xs j vs hj r)
  | .lst xs, k, _, ho, ⟨a, vs, e, n, q, r⟩ => by
    subst e
    obtain ⟨j, rfl, hj⟩ := okd_items (.inr ho)
    exact .lst (SqL.of q) (dpAll_of G M H xs j vs hj r)
  | .dct _ _, _, _, ho, _ => absurd rfl ((okd_other ho).1 _ _)
  | .ob _ _ _, _, _, ho, _ => absurd rfl ((okd_other ho).2.1 _ _ _)
  | .fn _, _, _, ho, _ => absurd rfl ((okd_other ho).2.2.1 _)
  | .scr _, _, _, ho, _ => absurd rfl ((okd_other ho).2.2.2 _)
theorem dpAll_of (G : Gm) (M : Addr → Prop) (H : Hp) : ∀ (ds : List D) (k : Nat) (vs : List V), ds.all (okd k) = true → RepL G M H ds vs → DpAll G.K H vs (toPyL ds)
  | [], _, _, _, h => by cases h; exact .nil
  | d :: ds, k, _, ho, ⟨v, ws, e, q, r⟩ => by
    subst e
    rw [List.all_cons, Bool.and_eq_true] at ho
    exact .cons (dp_of G M H d k v ho.1 q) (dpAll_of G M H ds k ws ho.2 r)
end
mutual
theorem plain_of : ∀ (d : D) (k : Nat), okd k d = true → (toPy d).plain = true ∧ (toPy d).depth ≤ k
  | .non, _, _ => ⟨rfl, Nat.zero_le _⟩
  | .bl b, _, _ => ⟨rfl, Nat.zero_le _⟩
  | .int i, _, _ => ⟨rfl, Nat.zero_le _⟩
  | .str s, _, _ => ⟨rfl, Nat.zero_le _⟩
  | .tup xs, k, ho => by
    obtain ⟨j, rfl, hj⟩ := okd_items (.inl ho)
    have z := plainAll_of xs j hj
    exact ⟨z.1, Nat.succ_le_succ z.2⟩
  | .lst xs, k, ho => by
    obtain ⟨j, rfl, hj⟩ := okd_items (.inr ho)
    have z := plainAll_of xs j hj
    exact ⟨z.1, Nat.succ_le_succ z.2⟩
  | .dct _ _, _, ho => absurd rfl ((okd_other ho).1 _ _)
  | .ob _ _ _, _, ho => absurd rfl ((okd_other ho).2.1 _ _ _)
  | .fn _, _, ho => absurd rfl ((okd_other ho).2.2.1 _)
  | .scr _, _, ho => absurd rfl ((okd_other ho).2.2.2 _)
theorem plainAll_of : ∀ (ds : List D) (k : Nat), ds.all (okd k) = true → PyData.plainAll (toPyL ds) = true ∧ PyData.depthAll (toPyL ds) ≤ k
  | [], _, _ => ⟨rfl, Nat.zero_le _⟩
  | d :: ds, k, ho => by
    rw [List.all_cons, Bool.and_eq_true] at ho
    have h1 := plain_of d k ho.1
    have h2 := plainAll_of ds k ho.2
    refine ⟨?_, Nat.max_le.mpr ⟨h1.2, h2.2⟩⟩
    show ((toPy d).plain && PyData.plainAll (toPyL ds)) = true
    rw [h1.1, h2.1]
    rfl
end
mutual
theorem eqv_py : ∀ (x y : D) (j k : Nat), okd j x = true → okd k y = true → PyData.eqv (toPy x) (toPy y) = x.eqb y
  | .non, y, j, k, h1, h2 => by
    cases y <;> first | rfl | exact absurd rfl ((okd_other h2).1 _ _) | exact absurd rfl ((okd_other h2).2.1 _ _ _) | exact absurd rfl ((okd_other h2).2.2.1 _) | exact absurd rfl ((okd_other h2).2.2.2 _)
  | .bl b, y, j, k, h1, h2 => by
    cases y <;> first | rfl | exact absurd rfl ((okd_other h2).1 _ _) | exact absurd rfl ((okd_other h2).2.1 _ _ _) | exact absurd rfl ((okd_other h2).2.2.1 _) | exact absurd rfl ((okd_other h2).2.2.2 _)
  | .int i, y, j, k, h1, h2 => by
    cases y <;> first | rfl | exact absurd rfl ((okd_other h2).1 _ _) | exact absurd rfl ((okd_other h2).2.1 _ _ _) | exact absurd rfl ((okd_other h2).2.2.1 _) | exact absurd rfl ((okd_other h2).2.2.2 _)
  | .str s, y, j, k, h1, h2 => by
    cases y <;> first | rfl | exact absurd rfl ((okd_other h2).1 _ _) | exact absurd rfl ((okd_other h2).2.1 _ _ _) | exact absurd rfl ((okd_other h2).2.2.1 _) | exact absurd rfl ((okd_other h2).2.2.2 _)
  | .tup xs, y, j, k, h1, h2 => by
    cases y with
    | tup ys =>
      obtain ⟨j, rfl, hj⟩ := okd_items (.inl h1)
      obtain ⟨k, rfl, hk⟩ := okd_items (.inl h2)
      exact eqvAll_py xs ys j k hj hk
    | _ => first | rfl | exact absurd rfl ((okd_other h2).1 _ _) | exact absurd rfl ((okd_other h2).2.1 _ _ _) | exact absurd rfl ((okd_other h2).2.2.1 _) | exact absurd rfl ((okd_other h2).2.2.2 _)
  | .lst xs, y, j, k, h1, h2 => by
    cases y with
    | lst ys =>
      obtain ⟨j, rfl, hj⟩ := okd_items (.inr h1)
      obtain ⟨k, rfl, hk⟩ := okd_items (.inr h2)
      exact eqvAll_py xs ys j k hj hk
    | _ => first | rfl | exact absurd rfl ((okd_other h2).1 _ _) | exact absurd rfl ((okd_other h2).2.1 _ _ _) | exact absurd rfl ((okd_other h2).2.2.1 _) | exact absurd rfl ((okd_other h2).2.2.2 _)
  | .dct _ _, _, _, _, ho, _ => absurd rfl ((okd_other ho).1 _ _)
  | .ob _ _ _, _, _, _, ho, _ => absurd rfl ((okd_other ho).2.1 _ _ _)
  | .fn _, _, _, _, ho, _ => absurd rfl ((okd_other ho).2.2.1 _)
  | .scr _, _, _, _, ho, _ => absurd rfl ((okd_other ho).2.2.2 _)
theorem eqvAll_py : ∀ (xs ys : List D) (j k : Nat), xs.all (okd j) = true → ys.all (okd k) = true → PyData.eqvAll (toPyL xs) (toPyL ys) = eqbL xs ys
  | [], [], _, _, _, _ => rfl
  | [], _ :: _, _, _, _, _ => rfl
  | _ :: _, [], _, _, _, _ => rfl
  | x :: xs, y :: ys, j, k, h1, h2 => by
    rw [List.all_cons, Bool.and_eq_true] at h1 h2
    show (PyData.eqv (toPy x) (toPy y) && PyData.eqvAll (toPyL xs) (toPyL ys)) = (D.eqb x y && eqbL xs ys)
    rw [eqv_py x y j k h1.1 h2.1, eqvAll_py xs ys j k h1.2 h2.2]
end

theorem dp_ofB {G : Gm} {M : Addr → Prop} {H : Hp} {d : D} {k : Nat} {v : V} (ho : okd k d = true) (h : RepB G M H d v) : Dp G.K H v (toPy d) := by
  rcases h with h | ⟨a, rfl, h⟩
  · exact dp_of G M H d k v ho h
  · cases d with
    | lst xs =>
      obtain ⟨vs, ha, r⟩ := h
      obtain ⟨j, rfl, hj⟩ := okd_items (.inr ho)
      exact .lst (SqL.of ha) (dpAll_of G M H xs j vs hj r)
    | dct _ _ => exact absurd rfl ((okd_other ho).1 _ _)
    | ob _ _ _ => exact absurd rfl ((okd_other ho).2.1 _ _ _)
    | _ => exact h.elim
section
variable {G : Gm} {M : Addr → Prop} {H : Hp}
theorem RepB.int {i : Int} {v : V} (h : RepB G M H (.int i) v) : v = .int i := h.elim id fun ⟨_, _, z⟩ => z.elim
theorem RepB.bl {i : Bool} {v : V} (h : RepB G M H (.bl i) v) : v = .bl i := h.elim id fun ⟨_, _, z⟩ => z.elim
theorem RepB.str {i : Str} {v : V} (h : RepB G M H (.str i) v) : v = .str i := h.elim id fun ⟨_, _, z⟩ => z.elim
theorem RepB.non {v : V} (h : RepB G M H .non v) : v = .non := h.elim id fun ⟨_, _, z⟩ => z.elim
theorem RepB.tup {xs : List D} {v : V} (h : RepB G M H (.tup xs) v) : ∃ a vs, v = .ref a ∧ SqT G.K H a vs ∧ RepL G M H xs vs := h.elim (fun ⟨a, vs, e, q, r⟩ => ⟨a, vs, e, q.sqt, r⟩) fun ⟨_, _, z⟩ => z.elim
theorem RepB.tupP {xs : List D} {v : V} (h : RepB G M H (.tup xs) v) : ∃ a vs, v = .ref a ∧ SqP G.K H a vs ∧ RepL G M H xs vs := h.elim id fun ⟨_, _, z⟩ => z.elim
theorem RepB.lst {xs : List D} {v : V} (h : RepB G M H (.lst xs) v) : ∃ a vs, v = .ref a ∧ H a = some (.lst vs) ∧ RepL G M H xs vs := by
  rcases h with ⟨a, vs, e, _, h, r⟩ | ⟨a, e, vs, h, r⟩
  · exact ⟨a, vs, e, h, r⟩
  · exact ⟨a, vs, e, h, r⟩
theorem RepB.dct {ks ds : List D} {v : V} (h : RepB G M H (.dct ks ds) v) : ∃ a vs, v = .ref a ∧ DictIs H a ks vs ∧ RepL G M H ds vs := by
  rcases h with ⟨a, vs, e, _, h, r⟩ | ⟨a, e, vs, h, r⟩
  · exact ⟨a, vs, e, h, r⟩
  · exact ⟨a, vs, e, h, r⟩
theorem RepB.ob {c : Str} {ns : List Str} {ds : List D} {v : V} (h : RepB G M H (.ob c ns ds) v) : ∃ a C dx vs, v = .ref a ∧ G.mg c = some (.ref C) ∧ H a = some (.ins C dx (ns.zip vs)) ∧ ns.length = vs.length ∧ RepL G M H ds vs := by
  rcases h with ⟨a, C, dx, vs, e, _, hc, h, l, r⟩ | ⟨a, e, C, dx, vs, hc, h, l, r⟩
  · exact ⟨a, C, dx, vs, e, hc, h, l, r⟩
  · exact ⟨a, C, dx, vs, e, hc, h, l, r⟩
theorem RepB.scr {ns : List Int} {v : V} (h : RepB G M H (.scr ns) v) : ∃ a, v = .ref a ∧ SqL G.K H a (ns.map V.int) := by
  rcases h with ⟨a, e, h⟩ | ⟨a, e, h⟩
  · exact ⟨a, e, h.elim (fun q => .inl q.2) .inr⟩
  · exact h.elim
end

/-! ### the operators -/
abbrev LIM : Nat := 1000000
theorem le_size {n : Nat} (h : n ≤ LIM) : n ≤ sizeLine := by
  rw [sizeLine_eq]
  exact Nat.le_trans h (by decide)
theorem lt_size {n : Nat} (h : n ≤ LIM) : n < sizeLine := by
  rw [sizeLine_eq]
  exact Nat.lt_of_le_of_lt h (by decide)
def gAdd : D → D → Option D
  | .int a, .int b => some (.int (a + b))
  | .str a, .str b => if a.length + b.length ≤ LIM then some (.str (a ++ b)) else none
  | .tup xs, .tup ys => if xs.length + ys.length ≤ LIM then some (.tup (xs ++ ys)) else none
  | .lst xs, .lst ys => if xs.length + ys.length ≤ LIM then some (.lst (xs ++ ys)) else none
  | _, _ => none
def rAddA (K : PySem.W.Frag) : R2 := fun x y H Q => rI0 (fun i j => .int (i + j)) x y H Q ∨ (∃ i j, x = .str i ∧ y = .str j ∧ i.length + j.length ≤ sizeLine ∧ Q (.str (i ++ j)) H) ∨ rCatF K x y H Q ∨ rCat x y H Q
theorem op_addA {X : Cx} : OpR X (binaryOp .Add) (rAddA X.K) := OpR.or op_add (OpR.or op_add_str (OpR.or op_catF op_cat))
theorem Rep.newTup {G : Gm} {M : Addr → Prop} {H : Hp} {p : Addr} {xs : List D} {vs : List V} {o : Obj} (ho : o.dict = none) (hp : H p = none) (md : MD M H) (r : RepL G M H xs vs) : Rep G M (upd H p (.frz o (.tup vs))) (.tup xs) (.ref p) :=
  ⟨p, vs, rfl, .inl ⟨o, upd_same, ho⟩, RepL.step (Step.ext fun b o e => by rw [upd_ne (ne_of_none e hp)]; exact e) md _ _ r⟩
theorem MD.new {M : Addr → Prop} {H : Hp} {p : Addr} (md : MD M H) (hp : H p = none) : ¬ M p := fun m => by have z := md p m; rw [hp] at z; exact z
theorem Rep.newLst {G : Gm} {M : Addr → Prop} {H : Hp} {p : Addr} {xs : List D} {vs : List V} (hp : H p = none) (md : MD M H) (r : RepL G M H xs vs) : Rep G M (upd H p (.lst vs)) (.lst xs) (.ref p) :=
  ⟨p, vs, rfl, md.new hp, upd_same, RepL.step (Step.ext fun b o e => by rw [upd_ne (ne_of_none e hp)]; exact e) md _ _ r⟩
theorem ext_new {H : Hp} {p : Addr} {o : HO} (hp : H p = none) : Extn H (upd H p o) := fun b u e => by rw [upd_ne (ne_of_none e hp)]; exact e
theorem RepL.nil_of {G : Gm} {M : Addr → Prop} {H : Hp} {xs : List D} {vs : List V} (r : RepL G M H xs vs) (h : vs = []) : xs = [] := by
  subst h
  cases xs with
  | nil => rfl
  | cons d ds => obtain ⟨v, ws, e, _⟩ := r; cases e
theorem od_add {G : Gm} : OpD G (rAddA G.K) gAdd := by
  intro M H x y vx vy d Q md e rx ry q
  unfold gAdd at e
  split at e
  · cases e; cases rx.int; cases ry.int
    exact .inl ⟨_, _, rfl, rfl, q _ H (fun _ _ h => h) rfl⟩
  · split at e
    · rename_i hl
      cases e; cases rx.str; cases ry.str
      exact .inr (.inl ⟨_, _, rfl, rfl, le_size hl, q _ H (fun _ _ h => h) rfl⟩)
    · cases e
  · split at e
    · rename_i hl
      cases e
      obtain ⟨a, vs, rfl, ha, r1⟩ := rx.tupP
      obtain ⟨b, ws, rfl, hb, r2⟩ := ry.tupP
      refine .inr (.inr (.inl ⟨a, b, vs, ws, rfl, rfl, ha.sqt, hb.sqt, by rw [← r1.length, ← r2.length]; exact le_size hl, fun h0 => ?_, fun h1 h2 => ?_, fun h1 h2 p o hp ho => ?_⟩))
      · rw [r1.nil_of h0] at q
        exact q _ H (fun _ _ h => h) ⟨b, ws, rfl, hb, r2⟩
      · rw [r2.nil_of h2, List.append_nil] at q
        exact q _ H (fun _ _ h => h) ⟨a, vs, rfl, ha, r1⟩
      · exact q _ _ (ext_new hp) (Rep.newTup ho hp md (r1.append r2))
    · cases e
  · split at e
    · rename_i hl
      cases e
      obtain ⟨a, vs, rfl, ha, r1⟩ := rx.lst
      obtain ⟨b, ws, rfl, hb, r2⟩ := ry.lst
      refine .inr (.inr (.inr ⟨a, b, vs, ws, rfl, rfl, ha, hb, by rw [← r1.length, ← r2.length]; exact le_size hl, fun p hp => ?_⟩))
      exact q _ _ (ext_new hp) (Rep.newLst hp md (r1.append r2))
    · cases e
  · cases e
def gInt (C : Int → Int → Bool) (g : Int → Int → D) : D → D → Option D
  | .int a, .int b => if C a b then some (g a b) else none
  | _, _ => none
theorem od_int {G : Gm} {C : Int → Int → Prop} {C' : Int → Int → Bool} {g : Int → Int → V} {g' : Int → Int → D} (hC : ∀ a b, C' a b = true → C a b) (hg : ∀ G M H a b, Rep G M H (g' a b) (g a b)) : OpD G (rI C g) (gInt C' g') := by
  intro M H x y vx vy d Q md e rx ry q
  unfold gInt at e
  split at e
  · split at e
    · rename_i hl
      cases e; cases rx.int; cases ry.int
      exact ⟨_, _, rfl, rfl, hC _ _ hl, q _ H (fun _ _ h => h) (hg ..)⟩
    · cases e
  · cases e
theorem od_int0 {G : Gm} {g : Int → Int → V} {g' : Int → Int → D} (hg : ∀ G M H a b, Rep G M H (g' a b) (g a b)) : OpD G (rI0 g) (gInt (fun _ _ => true) g') := by
  intro M H x y vx vy d Q md e rx ry q
  unfold gInt at e
  split at e
  · cases e; cases rx.int; cases ry.int
    exact ⟨_, _, rfl, rfl, q _ H (fun _ _ h => h) (hg ..)⟩
  · cases e
abbrev gSub := gInt (fun _ _ => true) fun a b => .int (a - b)
abbrev gMulI := gInt (fun a b => decide (a.natAbs.log2 + b.natAbs.log2 < 1000000)) fun a b => .int (a * b)
abbrev gDiv := gInt (fun _ b => decide (0 < b) && decide (b.natAbs.log2 < 9000)) fun a b => .int (a / b)
abbrev gMod := gInt (fun _ b => decide (0 < b)) fun a b => .int (a % b)
abbrev gPow := gInt (fun a b => decide (0 ≤ b) && decide (b ≤ 1000) && decide (a.natAbs < 1000000)) fun a b => .int (a ^ b.toNat)
abbrev gLt := gInt (fun _ _ => true) fun a b => .bl (decide (a < b))
abbrev gLe := gInt (fun _ _ => true) fun a b => .bl (decide (a ≤ b))
abbrev gGt := gInt (fun _ _ => true) fun a b => .bl (decide (b < a))
abbrev gGe := gInt (fun _ _ => true) fun a b => .bl (decide (b ≤ a))
section
variable {X : Cx} {J : Jx} {a b : Expr} {fa fb : List Sl → RE D} {pos : Pos}
theorem e_add (hK : X.K = J.G.K) (ha : PE X a (tE J fa)) (hb : PE X b (tB J fb)) : PE X (.BinOp a .Add b pos) (tE J (bin gAdd fa fb)) := e_bin (hK ▸ op_addA) od_add ha hb
theorem e_sub (ha : PE X a (tE J fa)) (hb : PE X b (tB J fb)) : PE X (.BinOp a .Sub b pos) (tE J (bin gSub fa fb)) := e_bin op_sub (od_int0 fun _ _ _ _ _ => rfl) ha hb
theorem e_mul (ha : PE X a (tE J fa)) (hb : PE X b (tB J fb)) : PE X (.BinOp a .Mult b pos) (tE J (bin gMulI fa fb)) := e_bin op_mulW (od_int (fun a b h => by have h' := of_decide_eq_true h; exact h') fun _ _ _ _ _ => rfl) ha hb
theorem e_div (ha : PE X a (tE J fa)) (hb : PE X b (tB J fb)) : PE X (.BinOp a .FloorDiv b pos) (tE J (bin gDiv fa fb)) :=
  e_bin op_fdivW (od_int (fun a b h => by rw [Bool.and_eq_true] at h; exact ⟨of_decide_eq_true h.1, of_decide_eq_true h.2⟩) fun _ _ _ _ _ => rfl) ha hb
theorem e_mod (ha : PE X a (tE J fa)) (hb : PE X b (tB J fb)) : PE X (.BinOp a .Mod b pos) (tE J (bin gMod fa fb)) := e_bin op_mod (od_int (fun a b h => of_decide_eq_true h) fun _ _ _ _ _ => rfl) ha hb
theorem e_pow (ha : PE X a (tE J fa)) (hb : PE X b (tB J fb)) : PE X (.BinOp a .Pow b pos) (tE J (bin gPow fa fb)) :=
  e_bin op_pow (od_int (fun a b h => by
    rw [Bool.and_eq_true, Bool.and_eq_true] at h
    have h1 := of_decide_eq_true h.1.1
    have h2 := of_decide_eq_true h.1.2
    have h3 := of_decide_eq_true h.2
    exact ⟨h1, by omega, by omega⟩) fun _ _ _ _ _ => rfl) ha hb
theorem e_lt (ha : PE X a (tE J fa)) (hb : PE X b (tB J fb)) : PE X (.Compare a [.Lt] [b] pos) (tE J (bin gLt fa fb)) := e_cmp op_lt (od_int0 fun _ _ _ _ _ => rfl) ha hb (nomark _)
theorem e_le (ha : PE X a (tE J fa)) (hb : PE X b (tB J fb)) : PE X (.Compare a [.LtE] [b] pos) (tE J (bin gLe fa fb)) := e_cmp op_le (od_int0 fun _ _ _ _ _ => rfl) ha hb (nomark _)
theorem e_gt (ha : PE X a (tE J fa)) (hb : PE X b (tB J fb)) : PE X (.Compare a [.Gt] [b] pos) (tE J (bin gGt fa fb)) := e_cmp op_gt (od_int0 fun _ _ _ _ _ => rfl) ha hb (nomark _)
theorem e_ge (ha : PE X a (tE J fa)) (hb : PE X b (tB J fb)) : PE X (.Compare a [.GtE] [b] pos) (tE J (bin gGe fa fb)) := e_cmp op_ge (od_int0 fun _ _ _ _ _ => rfl) ha hb (nomark _)
end

/-! ### == and in -/
def rEqP (K : PySem.W.Frag) (neg : Bool) : R2 := fun x y H Q => ∃ d e, Dp K H x d ∧ Dp K H y e ∧ d.plain = true ∧ e.plain = true ∧ d.depth ≤ 40 ∧ Q (.bl (PyData.eqv d e ^^ neg)) H
theorem op_eqP {X : Cx} (hu : X.A.units + 64 < cLine) : OpR X (compareOp .Eq) (rEqP X.K false) := by
  intro pins s σ H x y v u Q I rx ry h
  obtain ⟨d, e, hd, he, sd, se, hdp, q⟩ := h
  obtain ⟨as, r1⟩ := Dp.reads I d x v hd rx
  obtain ⟨bs, r2⟩ := Dp.reads I e y u he ry
  rw [Bool.xor_false] at q
  exact SeqAt.eq_plain r1 r2 sd se (by have := Nat.min_le_left d.depth e.depth; omega) ⟨.bl _, H, I, rfl, q⟩
theorem op_neP {X : Cx} (hu : X.A.units + 64 < cLine) : OpR X (compareOp .NotEq) (rEqP X.K true) := by
  intro pins s σ H x y v u Q I rx ry h
  obtain ⟨d, e, hd, he, sd, se, hdp, q⟩ := h
  obtain ⟨as, r1⟩ := Dp.reads I d x v hd rx
  obtain ⟨bs, r2⟩ := Dp.reads I e y u he ry
  rw [Bool.xor_true] at q
  exact SeqAt.ne_plain r1 r2 sd se (by have := Nat.min_le_left d.depth e.depth; omega) ⟨.bl _, H, I, rfl, q⟩
def gEq (neg : Bool) (x y : D) : Option D := if okd 20 x && okd 20 y then some (.bl (x.eqb y ^^ neg)) else none
theorem od_eq {G : Gm} {neg : Bool} : OpD G (rEqP G.K neg) (gEq neg) := by
  intro M H x y vx vy d Q md e rx ry q
  unfold gEq at e
  split at e
  · rename_i h
    rw [Bool.and_eq_true] at h
    cases e
    have p1 := plain_of x 20 h.1
    have p2 := plain_of y 20 h.2
    refine ⟨toPy x, toPy y, dp_ofB h.1 rx, dp_ofB h.2 ry, p1.1, p2.1, by omega, ?_⟩
    rw [eqv_py x y 20 20 h.1 h.2]
    exact q _ H (fun _ _ h => h) rfl
  · cases e
/-! keys of dicts: whole numbers, texts -/
def isK : D → Bool
  | .int _ => true
  | .str _ => true
  | _ => false
def keq : D → D → Bool
  | .int a, .int b => decide (a = b)
  | .str a, .str b => decide (a = b)
  | _, _ => false
def getK : List D → List D → D → Option D
  | k' :: ks, d :: ds, k => if keq k' k = true then some d else getK ks ds k
  | _, _, _ => none
theorem keq_key (a b : Key) : keq (keyD a) (keyD b) = decide (a = b) := by
  cases a <;> cases b <;> simp [keq, keyD]
theorem isK_key {x : D} {v : V} {G : Gm} {M : Addr → Prop} {H : Hp} (h : isK x = true) (r : RepB G M H x v) : ∃ k : Key, x = keyD k ∧ v = kV k := by
  cases x with
  | int i => exact ⟨.inl i, rfl, r.int⟩
  | str i => exact ⟨.inr i, rfl, r.str⟩
  | _ => cases h
theorem dict_keys {H : Hp} {a : Addr} {ks : List D} {vs : List V} (h : DictIs H a ks vs) (hk : ks.all isK = true) : ∃ kvs : List (Key × V), H a = some (.dK kvs) ∧ ks = kvs.map (fun p => keyD p.1) ∧ vs = kvs.map (·.2) := by
  rcases h with h | ⟨kvs, _, n, e, _⟩ | ⟨_, kvs, _, e, _⟩
  · exact h
  · exfalso
    cases kvs with
    | nil => exact n rfl
    | cons p ps => subst e; simp [isK] at hk
  · subst e; simp [isK] at hk
/-- the keys, of one that changes too -/
def unf : List D → List D
  | .non :: ks => ks
  | ks => ks
theorem unf_keys : ∀ kvs : List (Key × V), unf (kvs.map fun p => keyD p.1) = kvs.map fun p => keyD p.1
  | [] => rfl
  | (.inl _, _) :: _ => rfl
  | (.inr _, _) :: _ => rfl
theorem dict_rd {H : Hp} {a : Addr} {ks : List D} {vs : List V} (h : DictIs H a ks vs) (hk : (unf ks).all isK = true) : ∃ kvs : List (Key × V), Rd H a (.dK kvs) ∧ unf ks = kvs.map (fun p => keyD p.1) ∧ vs = kvs.map (·.2) := by
  rcases h with ⟨kvs, h, e, e2⟩ | ⟨kvs, _, n, e, _⟩ | ⟨o, kvs, h, e, e2⟩
  · exact ⟨kvs, .inl h, by rw [e, unf_keys], e2⟩
  · exfalso
    cases kvs with
    | nil => exact n rfl
    | cons p ps => subst e; simp [isK, unf] at hk
  · exact ⟨kvs, .inr ⟨o, h⟩, by rw [e]; rfl, e2⟩
theorem dget_rd {H : Hp} {a : Addr} {kvs : List (Key × V)} {k : Key} (h : Rd H a (.dK kvs)) : DGet H a (kV k) (valV kvs k) := .inl ⟨kvs, k, h, rfl, rfl⟩
theorem keys_any {x : Key} : ∀ kvs : List (Key × V), (kvs.map (fun p => keyD p.1)).any (fun k => keq k (keyD x)) = (valV kvs x).isSome := fun kvs => by
  rw [← valV_any, List.any_map]
  congr 1
  funext p
  exact keq_key _ _
theorem getK_rep {G : Gm} {M : Addr → Prop} {H : Hp} {x : Key} {d : D} : ∀ {kvs : List (Key × V)} {ds : List D}, RepL G M H ds (kvs.map (·.2)) → getK (kvs.map (fun p => keyD p.1)) ds (keyD x) = some d → ∃ v, valV kvs x = some v ∧ Rep G M H d v
  | [], [], _, e => by cases e
  | [], _ :: _, _, e => by cases e
  | p :: ps, [], _, e => by cases e
  | p :: ps, d0 :: ds, ⟨v, ws, ev, q, r⟩, e => by
    injection ev with e1 e2
    subst e1 e2
    have e : (if keq (keyD p.1) (keyD x) = true then some d0 else getK (ps.map (fun p => keyD p.1)) ds (keyD x)) = some d := e
    rw [keq_key] at e
    by_cases h : p.1 = x
    · rw [if_pos (decide_eq_true h)] at e
      cases e
      exact ⟨_, valV_pos h, q⟩
    · rw [if_neg (by simp [h])] at e
      obtain ⟨v, h1, h2⟩ := getK_rep r e
      exact ⟨v, by rw [valV_neg h]; exact h1, h2⟩
/-- what stands on the right of in -/
def gIn (neg : Bool) (x : D) : D → Option D
  | .lst ys => if okd 20 x && ys.all (okd 20) then some (.bl (ys.any (fun y => y.eqb x) ^^ neg)) else none
  | .tup ys => if okd 20 x && ys.all (okd 20) then some (.bl (ys.any (fun y => y.eqb x) ^^ neg)) else none
  | .str z => match x with
    | .str y => if y.length = 1 then some (.bl (decide (y.cps.getD 0 0 ∈ z.cps.toList) ^^ neg)) else none
    | _ => none
  | .dct ks _ => if isK x && (unf ks).all isK then some (.bl ((unf ks).any (fun k => keq k x) ^^ neg)) else none
  | _ => none
def rInP (K : PySem.W.Frag) (neg : Bool) : R2 := fun x y H Q =>
  (∃ d ds, Dp K H x d ∧ (Dp K H y (.list ds) ∨ Dp K H y (.tuple ds)) ∧ d.plain = true ∧ PyData.plainAll ds = true ∧ d.depth ≤ 40 ∧ Q (.bl (ds.any (fun z => PyData.eqv z d) ^^ neg)) H) ∨
  (∃ (c : Nat) (z : Str), x = .str ⟨#[c]⟩ ∧ y = .str z ∧ Q (.bl (decide (c ∈ z.cps.toList) ^^ neg)) H) ∨
  (∃ (a : Addr) (o : Option V), y = .ref a ∧ DGet H a x o ∧ Q (.bl (o.isSome ^^ neg)) H)
theorem op_inP {X : Cx} (hu : X.A.units + 64 < cLine) : OpR X (compareOp .In) (rInP X.K false) := by
  intro pins s σ H x y v u Q I rx ry h
  rcases h with ⟨d, ds, hd, he, sd, se, hdp, q⟩ | ⟨c, z, hx, hy, q⟩ | ⟨b, o, hy, g, q⟩
  · obtain ⟨as, r1⟩ := Dp.reads I d x v hd rx
    rw [Bool.xor_false] at q
    have hm := Nat.min_le_right (PyData.depthAll ds) d.depth
    rcases he with he | he
    · obtain ⟨bs, r2⟩ := Dp.reads I _ y u he ry
      exact SeqAt.in_list_data r2 r1 se sd (by omega) ⟨.bl _, H, I, rfl, q⟩
    · obtain ⟨bs, r2⟩ := Dp.reads I _ y u he ry
      exact SeqAt.in_tuple_data r2 r1 se sd (by omega) ⟨.bl _, H, I, rfl, q⟩
  · rw [Bool.xor_false] at q
    exact op_in_sign pins s σ H x y v u Q I rx ry ⟨c, z, hx, hy, q⟩
  · rw [Bool.xor_false] at q
    subst hy
    cases (show u = Value.ref b from ry)
    exact d_in (by omega) I g rx fun s' I' => ⟨.bl _, H, I', rfl, q⟩
theorem op_niP {X : Cx} (hu : X.A.units + 64 < cLine) : OpR X (compareOp .NotIn) (rInP X.K true) := by
  intro pins s σ H x y v u Q I rx ry h
  rcases h with ⟨d, ds, hd, he, sd, se, hdp, q⟩ | ⟨c, z, hx, hy, q⟩ | ⟨b, o, hy, g, q⟩
  · obtain ⟨as, r1⟩ := Dp.reads I d x v hd rx
    rw [Bool.xor_true] at q
    have hm := Nat.min_le_right (PyData.depthAll ds) d.depth
    rcases he with he | he
    · obtain ⟨bs, r2⟩ := Dp.reads I _ y u he ry
      exact SeqAt.notIn_list_data r2 r1 se sd (by omega) ⟨.bl _, H, I, rfl, q⟩
    · obtain ⟨bs, r2⟩ := Dp.reads I _ y u he ry
      exact SeqAt.notIn_tuple_data r2 r1 se sd (by omega) ⟨.bl _, H, I, rfl, q⟩
  · rw [Bool.xor_true] at q
    exact op_notIn_sign pins s σ H x y v u Q I rx ry ⟨c, z, hx, hy, q⟩
  · rw [Bool.xor_true] at q
    subst hy
    cases (show u = Value.ref b from ry)
    exact d_notIn (by omega) I g rx fun s' I' => ⟨.bl _, H, I', rfl, q⟩
theorem any_py {x : D} (hx : okd 20 x = true) : ∀ {ys : List D}, ys.all (okd 20) = true → (toPyL ys).any (fun z => PyData.eqv z (toPy x)) = ys.any fun y => y.eqb x
  | [], _ => rfl
  | y :: ys, h => by
    rw [List.all_cons, Bool.and_eq_true] at h
    show (PyData.eqv (toPy y) (toPy x) || (toPyL ys).any _) = (D.eqb y x || ys.any _)
    rw [eqv_py y x 20 20 h.1 hx, any_py hx h.2]
theorem str_one {y : Str} (h : y.length = 1) : y = ⟨#[y.cps.getD 0 0]⟩ := by
  obtain ⟨cps⟩ := y
  have h' : cps.size = 1 := h
  congr 1
  apply Array.ext
  · simp [h']
  · intro i h1 h2
    have e : i = 0 := by simp at h2; omega
    subst e
    simp [Array.getD, h']
theorem od_in {G : Gm} {neg : Bool} : OpD G (rInP G.K neg) (gIn neg) := by
  intro M H x y vx vy d Q md e rx ry q
  unfold gIn at e
  split at e
  · split at e
    · rename_i ys h
      rw [Bool.and_eq_true] at h
      cases e
      have p1 := plain_of x 20 h.1
      have p2 := plainAll_of ys 20 h.2
      obtain ⟨a, ws, rfl, ha, r2⟩ := ry.lst
      refine .inl ⟨toPy x, toPyL ys, dp_ofB h.1 rx, .inl (.lst (SqL.of ha) (dpAll_of G M H ys 20 ws h.2 r2)), p1.1, p2.1, by omega, ?_⟩
      rw [any_py h.1 h.2]
      exact q _ H (fun _ _ h => h) rfl
    · cases e
  · split at e
    · rename_i ys h
      rw [Bool.and_eq_true] at h
      cases e
      have p1 := plain_of x 20 h.1
      have p2 := plainAll_of ys 20 h.2
      obtain ⟨a, ws, rfl, ha, r2⟩ := ry.tup
      refine .inl ⟨toPy x, toPyL ys, dp_ofB h.1 rx, .inr (.tup ha (dpAll_of G M H ys 20 ws h.2 r2)), p1.1, p2.1, by omega, ?_⟩
      rw [any_py h.1 h.2]
      exact q _ H (fun _ _ h => h) rfl
    · cases e
  · split at e
    · rename_i y
      split at e
      · rename_i h
        cases e; cases ry.str
        have ey := str_one h
        have rx' : vx = .str y := rx.str
        refine .inr (.inl ⟨y.cps.getD 0 0, _, by rw [rx', ← ey], rfl, q _ H (fun _ _ h => h) rfl⟩)
      · cases e
    · cases e
  · split at e
    · rename_i ks ds h
      rw [Bool.and_eq_true] at h
      cases e
      obtain ⟨a, vs, rfl, hd, r⟩ := ry.dct
      obtain ⟨kvs, hkv, ek, rfl⟩ := dict_rd hd h.2
      obtain ⟨k, rfl, rfl⟩ := isK_key h.1 rx
      refine .inr (.inr ⟨a, _, rfl, dget_rd hkv, ?_⟩)
      rw [ek] at q
      rw [← keys_any]
      exact q _ H (fun _ _ h => h) rfl
    · cases e
  · cases e
section
variable {X : Cx} {J : Jx} {a b : Expr} {fa fb : List Sl → RE D} {pos : Pos}
theorem e_eq (hK : X.K = J.G.K) (hu : X.A.units + 64 < cLine) (ha : PE X a (tE J fa)) (hb : PE X b (tB J fb)) : PE X (.Compare a [.Eq] [b] pos) (tE J (bin (gEq false) fa fb)) := e_cmp (hK ▸ op_eqP hu) od_eq ha hb (nomark _)
theorem e_ne (hK : X.K = J.G.K) (hu : X.A.units + 64 < cLine) (ha : PE X a (tE J fa)) (hb : PE X b (tB J fb)) : PE X (.Compare a [.NotEq] [b] pos) (tE J (bin (gEq true) fa fb)) := e_cmp (hK ▸ op_neP hu) od_eq ha hb (nomark _)
theorem e_in (hK : X.K = J.G.K) (hu : X.A.units + 64 < cLine) (ha : PE X a (tE J fa)) (hb : PE X b (tB J fb)) (hm : behindInMarks .In b = false := by rfl) : PE X (.Compare a [.In] [b] pos) (tE J (bin (gIn false) fa fb)) := e_cmp (hK ▸ op_inP hu) od_in ha hb hm
theorem e_ni (hK : X.K = J.G.K) (hu : X.A.units + 64 < cLine) (ha : PE X a (tE J fa)) (hb : PE X b (tB J fb)) (hm : behindInMarks .NotIn b = false := by rfl) : PE X (.Compare a [.NotIn] [b] pos) (tE J (bin (gIn true) fa fb)) := e_cmp (hK ▸ op_niP hu) od_in ha hb hm
/-- is None, is not None -/
def gIsN (neg : Bool) : D → Option D
  | .non => some (.bl (true ^^ neg))
  | _ => some (.bl (false ^^ neg))
theorem Rep.isN {G : Gm} {M : Addr → Prop} {H : Hp} : ∀ {d : D} {v : V}, Rep G M H d v → (v = .non ↔ d = .non)
  | .non, _, h => by cases h; simp
  | .bl b, _, h => by cases h; simp
  | .int i, _, h => by cases h; simp
  | .str s, _, h => by cases h; simp
  | .tup xs, _, ⟨a, vs, e, _⟩ => by subst e; simp
  | .lst xs, _, ⟨a, vs, e, _⟩ => by subst e; simp
  | .dct ks ds, _, ⟨a, vs, e, _⟩ => by subst e; simp
  | .ob c ns ds, _, ⟨a, C, dx, vs, e, _⟩ => by subst e; simp
  | .fn c, _, ⟨f, e, _⟩ => by subst e; simp
  | .scr ns, _, ⟨a, e, _⟩ => by subst e; simp
theorem gIsN_eq (neg : Bool) {G : Gm} {M : Addr → Prop} {H : Hp} {d : D} {v : V} (h : Rep G M H d v) : gIsN neg d = some (.bl (decide (v = .non) ^^ neg)) := by
  have e := h.isN
  cases d <;> simp_all [gIsN]
theorem e_isN {j : Nat} {p : Pos} (ha : PE X a (tE J fa)) : PE X (.Compare a [.Is] [.Constant .none j p] pos) (tE J (un (gIsN false) fa)) :=
  PEi (pe_cmp (pc_isN ha) rfl) fun σ H Q ⟨M, r, I, h⟩ => ⟨M, r, I, Out.bind h fun x r1 vx M1 H1 st1 I1 rx h1 => by
    rw [gIsN_eq false rx, Bool.xor_false] at h1
    exact h1 _ M1 H1 Step.refl I1 rfl⟩
theorem e_notN {j : Nat} {p : Pos} (ha : PE X a (tE J fa)) : PE X (.Compare a [.IsNot] [.Constant .none j p] pos) (tE J (un (gIsN true) fa)) :=
  PEi (pe_cmp (pc_notN ha) rfl) fun σ H Q ⟨M, r, I, h⟩ => ⟨M, r, I, Out.bind h fun x r1 vx M1 H1 st1 I1 rx h1 => by
    rw [gIsN_eq true rx, Bool.xor_true] at h1
    exact h1 _ M1 H1 Step.refl I1 rfl⟩
end
end DL

set_option Elab.async false
set_option linter.all false
set_option maxRecDepth 100000
set_option maxHeartbeats 4000000
namespace DL
open PySem L2

/-! ### subscripts -/
def gIx : D → D → Option D
  | .lst xs, .int i => atI xs i
  | .tup xs, .int i => atI xs i
  | .str z, .int i => if z.length ≤ LIM then (atI z.cps.toList i).map fun c => .str ⟨#[c]⟩ else none
  | .scr ns, .int i => (atI ns i).map .int
  | .dct ks ds, k => if isK k && (unf ks).all isK then getK (unf ks) ds k else none
  | _, _ => none
theorem atI_rep {G : Gm} {M : Addr → Prop} {H : Hp} {ds : List D} {vs : List V} {i : Int} {d : D} (r : RepL G M H ds vs) (h : atI ds i = some d) : ∃ v, atI vs i = some v ∧ Rep G M H d v := by
  unfold atI at h ⊢
  rw [← r.length]
  cases e : ixN ds.length i with
  | none => rw [e] at h; cases h
  | some j =>
    rw [e] at h
    exact r.get (i := j) h
theorem atI_map {α β : Type} (f : α → β) (xs : List α) (i : Int) : atI (xs.map f) i = (atI xs i).map f := by
  unfold atI
  rw [List.length_map]
  cases ixN xs.length i with
  | none => rfl
  | some j => show (xs.map f)[j]? = (xs[j]?).map f; rw [List.getElem?_map]
def rDg : R2 := fun x y H Q => ∃ a v, x = .ref a ∧ DGet H a y (some v) ∧ Q v H
theorem ix_dct {X : Cx} (hu : X.A.units + 64 < cLine) : IxR X rDg := by
  intro value slice pins s σ H x y v u Q I rx ry q hs
  obtain ⟨a, w, rfl, g, q⟩ := q
  cases (show v = Value.ref a from rx)
  have hu' : X.A.units + 1 < cLine := by omega
  exact PyProof.Rows.tail_any (dict_typeIs I g) PySem.F.slot_dict_getitem.lookup (d_getItem hu' I g ry fun w' s' I' r => ⟨w, H, I', r, q⟩) hs
theorem od_ix {G : Gm} : OpD G (fun x y H Q => rIx G.K x y H Q ∨ rDg x y H Q) gIx := by
  intro M H x y vx vy d Q md e rx ry q
  unfold gIx at e
  split at e
  · cases ry.int
    obtain ⟨a, vs, rfl, ha, r⟩ := rx.lst
    obtain ⟨v, hv, rv⟩ := atI_rep r e
    exact .inl (.inl ⟨a, vs, _, v, rfl, rfl, SqL.of ha, hv, q v H (fun _ _ h => h) rv⟩)
  · cases ry.int
    obtain ⟨a, vs, rfl, ha, r⟩ := rx.tup
    obtain ⟨v, hv, rv⟩ := atI_rep r e
    exact .inl (.inr (.inl ⟨a, vs, _, v, rfl, rfl, ha, hv, q v H (fun _ _ h => h) rv⟩))
  · cases ry.int
    cases rx.str
    split at e
    · rename_i hl
      rename_i z i
      cases h : atI z.cps.toList i with
      | none => rw [h] at e; cases e
      | some c =>
        rw [h] at e; cases e
        exact .inl (.inr (.inr ⟨_, _, c, rfl, rfl, le_size hl, h, q _ H (fun _ _ h => h) rfl⟩))
    · cases e
  · cases ry.int
    obtain ⟨a, rfl, ha⟩ := rx.scr
    rename_i ns i
    cases h : atI ns i with
    | none => rw [h] at e; cases e
    | some c =>
      rw [h] at e; cases e
      exact .inl (.inl ⟨a, _, _, .int c, rfl, rfl, ha, by rw [atI_map, h]; rfl, q _ H (fun _ _ h => h) rfl⟩)
  · split at e
    · rename_i ks ds h
      rw [Bool.and_eq_true] at h
      obtain ⟨a, vs, rfl, hd, r⟩ := rx.dct
      obtain ⟨kvs, hkv, ek, rfl⟩ := dict_rd hd h.2
      obtain ⟨k, rfl, rfl⟩ := isK_key h.1 ry
      rw [ek] at e
      obtain ⟨v, h1, h2⟩ := getK_rep r e
      exact .inr ⟨a, v, rfl, by rw [← h1]; exact dget_rd hkv, q v H (fun _ _ h => h) h2⟩
    · cases e
  · cases e
section
variable {X : Cx} {J : Jx} {a b : Expr} {fa fb : List Sl → RE D} {pos : Pos}
theorem e_ix (hK : X.K = J.G.K) (hu : X.A.units + 64 < cLine) (ha : PE X a (tE J fa)) (hb : PE X b (tB J fb)) (hs : PlainIx b := by exact fun _ _ => rfl) : PE X (.Subscript a b pos) (tE J (bin gIx fa fb)) :=
  PEi (pe_ix (ix_seq.or (ix_dct hu)) ha hb hs) fun σ H Q h => bin_core (hK ▸ od_ix) σ H Q h
theorem e_ixL (i : Nat) {x : Str} {p : Pos} (hK : X.K = J.G.K) (hu : X.A.units + 64 < cLine) (hb : PE X b (tB J fb)) (hs : PlainIx b := by exact fun _ _ => rfl) (hN : X.N[i]? = some x := by rfl) (hv : Vis X.env.scope x := by first | exact Or.inl rfl | exact Or.inr (Or.inl rfl) | exact Or.inr (Or.inr rfl)) (hd : (x == ("__debug__" : Str)) = false := by decide)
    (hcd : (x == ("__classdict__" : Str)) = false := by decide) : PE X (.Subscript (.Name x p) b pos) (tE J (binL gIx i fb)) :=
  PEi (pe_ix (ix_seq.or (ix_dct hu)) (pe_var hN hv hd hcd) hb hs) fun σ H Q h => binL_core (hK ▸ od_ix) σ H Q h
end

/-! ### argument lists, displays -/
def anil : List Sl → RE (List D) := fun r => .ok [] r
def acons (f : List Sl → RE D) (fs : List Sl → RE (List D)) : List Sl → RE (List D) := fun r => (f r).bind fun d r1 => (fs r1).bind fun ds r2 => .ok (d :: ds) r2
section
variable {X : Cx} {J : Jx} {e : Expr} {es : List Expr} {f : List Sl → RE D} {fs : List Sl → RE (List D)} {pos : Pos}
theorem a_nil : PA X [] (tA J anil) := PAi pa_nil fun σ H Q ⟨M, r, I, h⟩ => h [] M H Step.refl I rfl
theorem a_cons (ha : PE X e (tE J f)) (hr : PA X es (tA J fs)) (hs : starEach (e :: es) X.env = (false, eval e X.env) :: starEach es X.env := by rfl) : PA X (e :: es) (tA J (acons f fs)) :=
  PAi (pa_cons ha hr hs) fun σ H Q ⟨M, r, I, h⟩ => ⟨M, r, I, Out.bind h fun d r1 v M1 H1 st1 I1 rd1 h1 =>
    ⟨M1, r1, I1, Out.bind h1 fun ds r2 vs M2 H2 st2 I2 rd2 h2 => h2 (v :: vs) M2 H2 Step.refl I2 ⟨v, vs, rfl, Rep.step st2 I1.md _ _ rd1, rd2⟩⟩⟩
def mkTup (fs : List Sl → RE (List D)) : List Sl → RE D := fun r => (fs r).bind fun ds r1 => if ds.length ≤ LIM then .ok (.tup ds) r1 else .bad
theorem e_tup {x1 : Nat} (h : PA X es (tA J fs)) : PE X (.Tuple es x1 pos) (tE J (mkTup fs)) :=
  PEi (pe_tupF h) fun σ H Q ⟨M, r, I, h⟩ => ⟨M, r, I, Out.bind h fun ds r1 vs M1 H1 st1 I1 rd1 h1 => by
    split at h1
    · rename_i hl
      refine ⟨by rw [← rd1.length]; exact le_size hl, fun p o hp ho => ?_⟩
      exact h1 _ M1 _ (Step.ext (ext_new hp)) (I1.ext (ext_new hp)) (Rep.newTup ho hp I1.md rd1)
    · exact h1.elim⟩
def mkLst (fs : List Sl → RE (List D)) : List Sl → RE D := fun r => (fs r).bind fun ds r1 => if ds.length ≤ LIM then .ok (.lst ds) r1 else .bad
/-- a new list at p, as an owned object -/
theorem new_lst {M : Addr → Prop} {H : Hp} {σ : St} {r : List Sl} {p : Addr} {ds : List D} {vs : List V} {Q : VK} (I : SI J M r σ H) (hp : H p = none) (rd : RepL J.G M H ds vs) (h : Out J (RO J) M H σ (.ok (.lst ds) r) Q) : Q (.ref p) (upd H p (.lst vs)) := by
  obtain ⟨I', st, nm, n0, h0, fl⟩ := I.newOwn (o := .lst vs) hp trivial
  exact h _ _ _ st I' ⟨p, rfl, .inr rfl, ⟨vs, upd_same, RepL.step st I.md _ _ rd⟩, n0, h0, fl⟩
theorem n_lst (h : PA X es (tA J fs)) : PE X (.List es pos) (tN J (mkLst fs)) :=
  PEi (pe_lst h) fun σ H Q ⟨M, r, I, h⟩ => ⟨M, r, I, Out.bind h fun ds r1 vs M1 H1 st1 I1 rd1 h1 => by
    split at h1
    · rename_i hl
      exact ⟨by rw [← rd1.length]; exact le_size hl, fun p hp => new_lst I1 hp rd1 h1⟩
    · exact h1.elim⟩
/-- an owned object, as data from here on -/
theorem e_of_n (h : PE X e (tN J f)) : PE X e (tE J f) := PEi h fun σ H Q ⟨M, r, I, q⟩ => ⟨M, r, I, by
  cases e1 : f r with
  | ok d r1 =>
    rw [e1] at q
    intro v M1 H1 st1 I1 ⟨a, ev, m, own, n0, h0, fl⟩
    subst ev
    have I2 := I1.freeze n0 fl
    exact q _ _ _ (st1.trans (Step.freeze a)) I2 ((own.step (Step.freeze a) I1.md rfl).rep fun z => z.2 rfl)
  | exn x r1 => rw [e1] at q; exact q
  | bad => rw [e1] at q; exact q.elim⟩
end

/-! ### tests -/
def asB : D → List Sl → RE Bool
  | .bl b, r => .ok b r
  | _, _ => .bad
def tv (f : List Sl → RE D) : List Sl → RE Bool := fun r => (f r).bind asB
def tnot (f : List Sl → RE Bool) : List Sl → RE Bool := fun r => (f r).bind fun b r1 => .ok (!b) r1
def tand (f g : List Sl → RE Bool) : List Sl → RE Bool := fun r => (f r).bind fun b r1 => if b = true then g r1 else .ok false r1
def tor (f g : List Sl → RE Bool) : List Sl → RE Bool := fun r => (f r).bind fun b r1 => if b = true then .ok true r1 else g r1
def vand (f g : List Sl → RE D) : List Sl → RE D := fun r => (f r).bind fun x r1 => (asB x r1).bind fun b r2 => if b = true then g r2 else .ok (.bl false) r2
def vor (f g : List Sl → RE D) : List Sl → RE D := fun r => (f r).bind fun x r1 => (asB x r1).bind fun b r2 => if b = true then .ok (.bl true) r2 else g r2
def vnot (f : List Sl → RE D) : List Sl → RE D := fun r => (f r).bind fun x r1 => (asB x r1).bind fun b r2 => .ok (.bl (!b)) r2
def vif (c : List Sl → RE Bool) (f g : List Sl → RE D) : List Sl → RE D := fun r => (c r).bind fun b r1 => if b = true then f r1 else g r1
section
variable {X : Cx} {J : Jx} {a b c : Expr} {rest : List Expr} {pos : Pos} {fa fb : List Sl → RE D} {ta tb tc : List Sl → RE Bool}
theorem t_val (h : PE X a (tE J fa)) (he : ∀ whole, isTrue a X.env whole = (do let v ← whole; standAt a.pos; holding [v] (truthy v)) := by intro _; rfl) : PT X a (tT J (tv fa)) :=
  PTi (pt_val h he) fun σ H Q ⟨M, r, I, q⟩ => ⟨M, r, I, Out.bind q fun d r1 v M1 H1 st1 I1 rd1 h1 => by
    cases d with
    | bl b => cases rd1; exact ⟨b, rfl, h1 _ M1 H1 Step.refl I1 rfl⟩
    | _ => exact h1.elim⟩
theorem t_not (h : PT X a (tT J ta)) : PT X (.UnaryOp .Not a pos) (tT J (tnot ta)) :=
  PTi (pt_not h) fun σ H Q ⟨M, r, I, q⟩ => ⟨M, r, I, Out.bind q fun d r1 v M1 H1 st1 I1 rd1 h1 => by cases rd1; exact h1 _ M1 H1 Step.refl I1 rfl⟩
theorem w_one {op : BoolOp} (h : PT X a (tT J ta)) : PW X (.BoolOp op [a] pos) (tT J ta) := by
  cases op
  · exact pw_and1 h
  · exact pw_or1 h
theorem w_and (ha : PT X a (tT J ta)) (hb : PW X (.BoolOp .And (b :: rest) pos) (tT J tb)) : PW X (.BoolOp .And (a :: b :: rest) pos) (tT J (tand ta tb)) :=
  PWi (pw_and ha hb) fun σ H Q ⟨M, r, I, q⟩ => ⟨M, r, I, Out.bind q fun d r1 v M1 H1 st1 I1 rd1 h1 => by
    cases rd1
    split at h1
    · rename_i e; rw [if_pos e]; exact ⟨M1, r1, I1, h1⟩
    · rename_i e; rw [if_neg e]; exact h1 _ M1 H1 Step.refl I1 rfl⟩
theorem w_or (ha : PT X a (tT J ta)) (hb : PW X (.BoolOp .Or (b :: rest) pos) (tT J tb)) : PW X (.BoolOp .Or (a :: b :: rest) pos) (tT J (tor ta tb)) :=
  PWi (pw_or ha hb) fun σ H Q ⟨M, r, I, q⟩ => ⟨M, r, I, Out.bind q fun d r1 v M1 H1 st1 I1 rd1 h1 => by
    cases rd1
    split at h1
    · rename_i e; rw [if_pos e]; exact h1 _ M1 H1 Step.refl I1 rfl
    · rename_i e; rw [if_neg e]; exact ⟨M1, r1, I1, h1⟩⟩
theorem e_one {op : BoolOp} (h : PE X a (tE J fa)) : PE X (.BoolOp op [a] pos) (tE J fa) := pe_one h
theorem asB_core {x : D} {v : V} {r1 : List Sl} {σ : St} {M1 : Addr → Prop} {H1 : Hp} {k : Bool → List Sl → RE D} {Q : VK} (rx : Rep J.G M1 H1 x v) (h : Out J (RV J) M1 H1 σ ((asB x r1).bind k) Q) : ∃ b, v = .bl b ∧ Out J (RV J) M1 H1 σ (k b r1) Q := by
  cases x with
  | bl b => cases rx; exact ⟨b, rfl, h⟩
  | _ => exact h.elim
theorem e_and (ha : PE X a (tE J fa)) (hb : PE X (.BoolOp .And (b :: rest) pos) (tE J fb)) : PE X (.BoolOp .And (a :: b :: rest) pos) (tE J (vand fa fb)) :=
  PEi (pe_and ha hb) fun σ H Q ⟨M, r, I, q⟩ => ⟨M, r, I, Out.bind q fun d r1 v M1 H1 st1 I1 rd1 h1 => by
    obtain ⟨k, rfl, h1⟩ := asB_core rd1 h1
    refine ⟨k, rfl, ?_⟩
    split at h1
    · rename_i e; rw [if_pos e]; exact ⟨M1, r1, I1, h1⟩
    · rename_i e; rw [if_neg e]; exact h1 _ M1 H1 Step.refl I1 rfl⟩
theorem e_or (ha : PE X a (tE J fa)) (hb : PE X (.BoolOp .Or (b :: rest) pos) (tE J fb)) : PE X (.BoolOp .Or (a :: b :: rest) pos) (tE J (vor fa fb)) :=
  PEi (pe_or ha hb) fun σ H Q ⟨M, r, I, q⟩ => ⟨M, r, I, Out.bind q fun d r1 v M1 H1 st1 I1 rd1 h1 => by
    obtain ⟨k, rfl, h1⟩ := asB_core rd1 h1
    refine ⟨k, rfl, ?_⟩
    split at h1
    · rename_i e; rw [if_pos e]; exact h1 _ M1 H1 Step.refl I1 rfl
    · rename_i e; rw [if_neg e]; exact ⟨M1, r1, I1, h1⟩⟩
theorem e_not (ha : PE X a (tE J fa)) : PE X (.UnaryOp .Not a pos) (tE J (vnot fa)) :=
  PEi (pe_not ha) fun σ H Q ⟨M, r, I, q⟩ => ⟨M, r, I, Out.bind q fun d r1 v M1 H1 st1 I1 rd1 h1 => by
    obtain ⟨k, rfl, h1⟩ := asB_core rd1 h1
    exact ⟨k, rfl, h1 _ M1 H1 Step.refl I1 rfl⟩⟩
theorem e_if (hc : PT X c (tT J tc)) (ha : PE X a (tE J fa)) (hb : PE X b (tE J fb)) : PE X (.IfExp c a b pos) (tE J (vif tc fa fb)) :=
  PEi (pe_ifExp hc ha hb) fun σ H Q ⟨M, r, I, q⟩ => ⟨M, r, I, Out.bind q fun d r1 v M1 H1 st1 I1 rd1 h1 => by
    cases rd1
    split at h1
    · rename_i e; rw [if_pos e]; exact ⟨M1, r1, I1, h1⟩
    · rename_i e; rw [if_neg e]; exact ⟨M1, r1, I1, h1⟩⟩
/-- a op1 b op2 c -/
def vchain (g g' : D → D → Option D) (fa fb fc : List Sl → RE D) : List Sl → RE D := fun r => (fa r).bind fun x r1 => (fb r1).bind fun y r2 => (liftO (g x y) r2).bind fun z r3 => (asB z r3).bind fun k r4 =>
  if k = true then (fc r4).bind fun w r5 => liftO (g' y w) r5 else .ok (.bl false) r4
theorem chain_core {r2 r2' : R2} {g g' : D → D → Option D} {fc : List Sl → RE D} (hg : OpD J.G r2 g) (hg' : OpD J.G r2' g') (σ : St) (H : Hp) (Q : VK) (h : tE J (vchain g g' fa fb fc) σ H Q) : tChain r2 r2' (tE J fa) (tE J fb) (tB J fc) σ H Q := by
  obtain ⟨M, r, I, h⟩ := h
  refine ⟨M, r, I, Out.bind h fun x r1 vx M1 H1 st1 I1 rx h1 => ?_⟩
  refine ⟨M1, r1, I1, Out.bind h1 fun y r2 vy M2 H2 st2 I2 ry h2 => ?_⟩
  cases e : g x y with
  | none => rw [e] at h2; exact h2.elim
  | some z =>
    rw [e] at h2
    refine hg M2 H2 x y vx vy z _ I2.md e (.inl (Rep.step st2 I1.md _ _ rx)) (.inl ry) fun v H' ex q => ?_
    have h3 := Out.step (Step.ext ex) h2
    obtain ⟨k, rfl, h4⟩ := asB_core q h3
    refine ⟨k, rfl, ?_⟩
    have I3 := I2.ext ex
    have ry' := Rep.step (Step.ext ex) I2.md _ _ ry
    split at h4
    · rename_i ek
      rw [if_pos ek]
      refine ⟨M2, r2, I3, Out.bind h4 fun w r5 vw M5 H5 st5 I5 rw5 h5 => ?_⟩
      exact op_core hg' I5 (.inl (Rep.step st5 I3.md _ _ ry')) rw5 h5
    · rename_i ek
      rw [if_neg ek]
      exact h4 _ M2 H' Step.refl I3 rfl
theorem e_chain {op op' : CmpOp} {r2 r2' : R2} {g g' : D → D → Option D} {fc : List Sl → RE D} (ho : OpR X (compareOp op) r2) (ho' : OpR X (compareOp op') r2') (hg : OpD J.G r2 g) (hg' : OpD J.G r2' g') (ha : PE X a (tE J fa)) (hb : PE X b (tE J fb)) (hc : PE X c (tB J fc))
    (hm : lastMarks [op, op'] [b, c] = false := by with_unfolding_all rfl) : PE X (.Compare a [op, op'] [b, c] pos) (tE J (vchain g g' fa fb fc)) :=
  PEi (pe_chain ho ho' ha hb hc hm) fun σ H Q h => chain_core hg hg' σ H Q h
theorem e_lele {fc : List Sl → RE D} (ha : PE X a (tE J fa)) (hb : PE X b (tE J fb)) (hc : PE X c (tB J fc)) (hm : lastMarks [.LtE, .LtE] [b, c] = false := by with_unfolding_all rfl) : PE X (.Compare a [.LtE, .LtE] [b, c] pos) (tE J (vchain gLe gLe fa fb fc)) :=
  e_chain op_le op_le (od_int0 fun _ _ _ _ _ => rfl) (od_int0 fun _ _ _ _ _ => rfl) ha hb hc hm
theorem e_lelt {fc : List Sl → RE D} (ha : PE X a (tE J fa)) (hb : PE X b (tE J fb)) (hc : PE X c (tB J fc)) (hm : lastMarks [.LtE, .Lt] [b, c] = false := by with_unfolding_all rfl) : PE X (.Compare a [.LtE, .Lt] [b, c] pos) (tE J (vchain gLe gLt fa fb fc)) :=
  e_chain op_le op_lt (od_int0 fun _ _ _ _ _ => rfl) (od_int0 fun _ _ _ _ _ => rfl) ha hb hc hm
end

/-! ### built-in functions of one argument -/
/-- by values; the answer data -/
def C1D (G : Gm) (r : List V → Hp → VK → Prop) (g : D → Option D) : Prop := ∀ M H x vx d (Q : VK), MD M H → g x = some d → RepB G M H x vx → (∀ v H', Extn H H' → Rep G M H' d v → Q v H') → r [vx] H Q
/-- .. the answer a new list -/
def C1N (G : Gm) (r : List V → Hp → VK → Prop) (g : D → Option (List D)) : Prop := ∀ M H x vx ds (Q : VK), MD M H → g x = some ds → RepB G M H x vx → (∀ p vs, H p = none → RepL G M H ds vs → Q (.ref p) (upd H p (.lst vs))) → r [vx] H Q
def unN (g : D → Option (List D)) (f : List Sl → RE D) : List Sl → RE D := fun r => (f r).bind fun x r1 => match g x with
  | some ds => .ok (.lst ds) r1
  | none => .bad
section
variable {X : Cx} {J : Jx} {e : Expr} {f : List Sl → RE D} {p pos : Pos} {x : Str} {id T : String} {r : List V → Hp → VK → Prop}
theorem pa1 {te : TE} (h : PE X e te) (hs : starEach [e] X.env = (false, eval e X.env) :: starEach [] X.env := by rfl) : PA X [e] (tCons te tNil) := pa_cons h pa_nil hs
theorem un_core {r : List V → Hp → VK → Prop} {g : D → Option D} (hg : C1D J.G r g) (σ : St) (H : Hp) (Q : VK) (h : tE J (un g f) σ H Q) : tCB r (tCons (tB J f) tNil) σ H Q := by
  obtain ⟨M, r0, I, h⟩ := h
  refine ⟨M, r0, I, Out.bind h fun d r1 v M1 H1 st1 I1 rd1 h1 => ?_⟩
  show r [v] H1 Q
  cases e1 : g d with
  | none => rw [e1] at h1; exact h1.elim
  | some d' =>
    rw [e1] at h1
    exact hg M1 H1 d v d' Q I1.md e1 rd1 fun v' H' ex q => h1 v' M1 H' (Step.ext ex) (I1.ext ex) q
theorem unN_core {r : List V → Hp → VK → Prop} {g : D → Option (List D)} (hg : C1N J.G r g) (σ : St) (H : Hp) (Q : VK) (h : tN J (unN g f) σ H Q) : tCB r (tCons (tB J f) tNil) σ H Q := by
  obtain ⟨M, r0, I, h⟩ := h
  refine ⟨M, r0, I, Out.bind h fun d r1 v M1 H1 st1 I1 rd1 h1 => ?_⟩
  show r [v] H1 Q
  cases e1 : g d with
  | none => rw [e1] at h1; exact h1.elim
  | some ds =>
    rw [e1] at h1
    exact hg M1 H1 d v ds Q I1.md e1 rd1 fun p vs hp rl => new_lst I1 hp rl h1
/-- f(e), f a built-in function -/
theorem e_call1 {g : D → Option D} (hc : CallR X (.builtin id) r) (hg : C1D J.G r g) (hx : Gl X x) (hm : X.mg x = none) (hv : bootBuiltins x = some (.builtin id)) (he : PE X e (tB J f)) (hs : starEach [e] X.env = (false, eval e X.env) :: starEach [] X.env := by rfl) (hn : x ≠ "__name__" := by decide)
    (hdb : (x == ("__debug__" : Str)) = false := by decide) (hpl : (backTo pos (starEach [] X.env)).any (·.1) = false := by rfl) : PE X (.Call (.Name x p) [e] [] pos) (tE J (un g f)) :=
  PEi (pe_callB hc hx hm hv (pa1 he hs) hn hdb hs hpl) fun σ H Q h => un_core hg σ H Q h
theorem n_call1 {g : D → Option (List D)} (hc : CallR X (.builtin id) r) (hg : C1N J.G r g) (hx : Gl X x) (hm : X.mg x = none) (hv : bootBuiltins x = some (.builtin id)) (he : PE X e (tB J f)) (hs : starEach [e] X.env = (false, eval e X.env) :: starEach [] X.env := by rfl) (hn : x ≠ "__name__" := by decide)
    (hdb : (x == ("__debug__" : Str)) = false := by decide) (hpl : (backTo pos (starEach [] X.env)).any (·.1) = false := by rfl) : PE X (.Call (.Name x p) [e] [] pos) (tN J (unN g f)) :=
  PEi (pe_callB hc hx hm hv (pa1 he hs) hn hdb hs hpl) fun σ H Q h => unN_core hg σ H Q h
theorem e_callT1 {g : D → Option D} (hc : CallR X (.type T) r) (hg : C1D J.G r g) (hx : Gl X x) (hm : X.mg x = none) (hv : bootBuiltins x = some (.type T)) (he : PE X e (tB J f)) (hs : starEach [e] X.env = (false, eval e X.env) :: starEach [] X.env := by rfl) (hn : x ≠ "__name__" := by decide)
    (hdb : (x == ("__debug__" : Str)) = false := by decide) (hpl : (backTo pos (starEach [] X.env)).any (·.1) = false := by rfl) : PE X (.Call (.Name x p) [e] [] pos) (tE J (un g f)) :=
  PEi (pe_callTy hc hx hm hv (pa1 he hs) hn hdb hs hpl) fun σ H Q h => un_core hg σ H Q h
theorem n_callT1 {g : D → Option (List D)} (hc : CallR X (.type T) r) (hg : C1N J.G r g) (hx : Gl X x) (hm : X.mg x = none) (hv : bootBuiltins x = some (.type T)) (he : PE X e (tB J f)) (hs : starEach [e] X.env = (false, eval e X.env) :: starEach [] X.env := by rfl) (hn : x ≠ "__name__" := by decide)
    (hdb : (x == ("__debug__" : Str)) = false := by decide) (hpl : (backTo pos (starEach [] X.env)).any (·.1) = false := by rfl) : PE X (.Call (.Name x p) [e] [] pos) (tN J (unN g f)) :=
  PEi (pe_callTy hc hx hm hv (pa1 he hs) hn hdb hs hpl) fun σ H Q h => unN_core hg σ H Q h
end
def gLen : D → Option D
  | .lst xs => some (.int xs.length)
  | .tup xs => some (.int xs.length)
  | .str z => if z.length ≤ LIM then some (.int z.length) else none
  | .scr ns => some (.int ns.length)
  | _ => none
def rLen (K : PySem.W.Frag) : List V → Hp → VK → Prop := fun xs H Q => ∃ x n, xs = [x] ∧ LenV K x H n ∧ Q (.int n) H
theorem od_len {G : Gm} : C1D G (rLen G.K) gLen := by
  intro M H x vx d Q md e rx q
  unfold gLen at e
  split at e
  · cases e
    obtain ⟨a, vs, rfl, ha, r⟩ := rx.lst
    exact ⟨_, _, rfl, .inl ⟨vs, SqL.of ha, r.length⟩, q _ H (fun _ _ h => h) rfl⟩
  · cases e
    obtain ⟨a, vs, rfl, ha, r⟩ := rx.tup
    exact ⟨_, _, rfl, .inr ⟨vs, ha, r.length⟩, q _ H (fun _ _ h => h) rfl⟩
  · split at e
    · rename_i hl
      cases e
      cases rx.str
      exact ⟨_, _, rfl, ⟨le_size hl, rfl⟩, q _ H (fun _ _ h => h) rfl⟩
    · cases e
  · cases e
    obtain ⟨a, rfl, ha⟩ := rx.scr
    exact ⟨_, _, rfl, .inl ⟨_, ha, by simp⟩, q _ H (fun _ _ h => h) rfl⟩
  · cases e
section
variable {X : Cx} {J : Jx} {e : Expr} {f : List Sl → RE D} {p pos : Pos}
theorem e_len (hK : X.K = J.G.K) (hx : Gl X "len") (hm : X.mg "len" = none) (he : PE X e (tB J f)) (hs : starEach [e] X.env = (false, eval e X.env) :: starEach [] X.env := by rfl) (hpl : (backTo pos (starEach [] X.env)).any (·.1) = false := by rfl) : PE X (.Call (.Name "len" p) [e] [] pos) (tE J (un gLen f)) :=
  e_call1 (r := rLen X.K) call_len (hK ▸ od_len) hx hm PySem.boot_len he hs (by decide) (by decide) hpl
end
end DL

set_option Elab.async false
set_option linter.all false
set_option maxRecDepth 100000
set_option maxHeartbeats 4000000
namespace DL
open PySem L2

/-! ### statements -/
/-- an expression, then what is done with its value -/
def RE.s {α : Type} (m : RE α) (k : α → List Sl → RS) : RS := match m with
  | .ok a r => k a r
  | .exn x r => .exn x r
  | .bad => .bad
def sseq (f g : List Sl → RS) : List Sl → RS := fun r => match f r with
  | .nx r' => g r'
  | o => o
def sasg (i : Nat) (f : List Sl → RE D) : List Sl → RS := fun r => (f r).s fun d r1 => .nx (r1.set i (.val d))
def sown (i : Nat) (f : List Sl → RE D) : List Sl → RS := fun r => (f r).s fun d r1 => .nx (r1.set i (.own d))
def sif (c : List Sl → RE Bool) (f g : List Sl → RS) : List Sl → RS := fun r => (c r).s fun b r1 => if b = true then f r1 else g r1
def sret (f : List Sl → RE D) : List Sl → RS := fun r => (f r).s fun d r1 => .rt d r1
def sexp (f : List Sl → RE D) : List Sl → RS := fun r => (f r).s fun _ r1 => .nx r1
def snx : List Sl → RS := fun r => .nx r
section
variable {J : Jx} {M : Addr → Prop} {H : Hp} {σ : St} {α β : Type}
theorem Out.s {R1 : List Sl → St → (Addr → Prop) → Hp → α → β → Prop} {m : RE α} {k : α → List Sl → RS} {E : Ends} {Q1 : β → Hp → Prop} (h : OutS J M H (m.s k) E)
    (hk : ∀ a r b M1 H1, Step M H M1 H1 → SI J M1 r σ H1 → R1 r σ M1 H1 a b → OutS J M1 H1 (k a r) E → Q1 b H1) : Out J R1 M H σ m Q1 := by
  cases m with
  | ok a r => exact fun b M1 H1 st I r1 => hk a r b M1 H1 st I r1 (OutS.step st h)
  | exn x r => exact fun cls dd M1 H1 st I rx => h cls dd M1 σ H1 st I rx
  | bad => exact h
end
section
variable {X : Cx} {J : Jx} {st : Stmt} {rest : List Stmt} {f g : List Sl → RS} {e : Expr} {fe : List Sl → RE D} {pos : Pos}
theorem s_cons (h1 : PS X st (tS J f)) (h2 : PSs X rest (tS J g)) : PSs X (st :: rest) (tS J (sseq f g)) :=
  PSsi (pss_cons h1 h2) fun E σ H ⟨M, r, I, h⟩ => ⟨M, r, I, by
    unfold sseq at h
    cases e : f r with
    | nx r' => rw [e] at h; exact fun M' σ' H' st I' => ⟨M', r', I', OutS.step st h⟩
    | bk r' => rw [e] at h; exact h
    | ct r' => rw [e] at h; exact h
    | rt d r' => rw [e] at h; exact h
    | exn x r' => rw [e] at h; exact h
    | bad => rw [e] at h; exact h.elim⟩
theorem s_one (h : PS X st (tS J f)) : PSs X [st] (tS J f) := pss_one h
theorem s_nil : PSs X [] (tS J snx) := PSsi pss_nil fun E σ H ⟨M, r, I, h⟩ => h M σ H Step.refl I
theorem s_pass : PS X (.Pass pos) (tS J snx) := PSi ps_pass fun E σ H ⟨M, r, I, h⟩ => h M σ H Step.refl I
theorem s_break : PS X (.Break pos) (tS J fun r => .bk r) := PSi ps_break fun E σ H ⟨M, r, I, h⟩ => h M σ H Step.refl I
theorem s_cont : PS X (.Continue pos) (tS J fun r => .ct r) := PSi ps_continue fun E σ H ⟨M, r, I, h⟩ => h M σ H Step.refl I
theorem s_doc {x : Str} {j : Nat} {pos' : Pos} : PS X (.Expr (.Constant (.str x) j pos) pos') (tS J snx) := PSi ps_doc fun E σ H ⟨M, r, I, h⟩ => h M σ H Step.refl I
theorem s_expr (he : PE X e (tE J fe)) (hs : swapsWith e none pos.line X.env = pure false := by rfl) : PS X (.Expr e pos) (tS J (sexp fe)) :=
  PSi (ps_expr he hs) fun E σ H ⟨M, r, I, h⟩ => ⟨M, r, I, Out.s h fun d r1 v M1 H1 st1 I1 rd1 h1 => h1 M1 σ H1 Step.refl I1⟩
theorem s_ret (he : PE X e (tE J fe)) : PS X (.Return (some e) pos) (tS J (sret fe)) :=
  PSi (ps_ret he) fun E σ H ⟨M, r, I, h⟩ => ⟨M, r, I, Out.s h fun d r1 v M1 H1 st1 I1 rd1 h1 => h1 v M1 σ H1 Step.refl I1 rd1⟩
theorem s_retN : PS X (.Return none pos) (tS J (sret (cst .non))) := PSi ps_retN fun E σ H ⟨M, r, I, h⟩ => h _ M σ H Step.refl I rfl
theorem s_if {c : Expr} {a b : List Stmt} {fc : List Sl → RE Bool} (hc : PT X c (tT J fc)) (ha : PSs X a (tS J f)) (hb : PSs X b (tS J g)) : PS X (.If c a b pos) (tS J (sif fc f g)) :=
  PSi (ps_if hc ha hb) fun E σ H ⟨M, r, I, h⟩ => ⟨M, r, I, Out.s h fun d r1 v M1 H1 st1 I1 rd1 h1 => by
    cases rd1
    split at h1
    · rename_i e; rw [if_pos e]; exact ⟨M1, r1, I1, h1⟩
    · rename_i e; rw [if_neg e]; exact ⟨M1, r1, I1, h1⟩⟩
theorem s_asg (i : Nat) {x : Str} {pos' : Pos} (hN : X.N.Nodup) (he : PE X e (tE J fe)) (hi : X.N[i]? = some x := by rfl) (hx : Loc X.env.scope x := by first | exact Or.inl rfl | exact Or.inr rfl) (hs : swapsWith e (some (.Name x pos')) pos.line X.env = pure false := by rfl)
    (hf : X.fn x = true ∨ X.env.scope.names.lookup x = some .local := by first | exact .inl rfl | exact .inr rfl) : PS X (.Assign [.Name x pos'] e pos) (tS J (sasg i fe)) :=
  PSi (ps_set hN hi hx he hs hf) fun E σ H ⟨M, r, I, h⟩ => ⟨M, r, I, Out.s h fun d r1 v M1 H1 st1 I1 rd1 h1 => h1 M1 _ H1 Step.refl (I1.set rd1)⟩
theorem s_own (i : Nat) {x : Str} {pos' : Pos} (hN : X.N.Nodup) (he : PE X e (tN J fe)) (hi : X.N[i]? = some x := by rfl) (hx : Loc X.env.scope x := by first | exact Or.inl rfl | exact Or.inr rfl) (hs : swapsWith e (some (.Name x pos')) pos.line X.env = pure false := by rfl)
    (hf : X.fn x = true ∨ X.env.scope.names.lookup x = some .local := by first | exact .inl rfl | exact .inr rfl) : PS X (.Assign [.Name x pos'] e pos) (tS J (sown i fe)) :=
  PSi (ps_set hN hi hx he hs hf) fun E σ H ⟨M, r, I, h⟩ => ⟨M, r, I, Out.s h fun d r1 v M1 H1 st1 I1 ⟨a, ev, m, own, n0, h0, fl⟩ h1 => by
    subst ev
    exact h1 M1 _ H1 Step.refl (I1.setOwn m own n0 h0 fl)⟩

/-! ### targets -/
/-- a target's reading; vs: the slots that it stores -/
def tG (J : Jx) (vs : List Nat) (g : D → List Sl → RS) : TG := fun v σ H Q => ∃ M r d, SI J M r σ H ∧ Rep J.G M H d v ∧ OutS J M H (g d r) { nx := fun σ' H' => wipe σ' vs = wipe σ vs → Q σ' H', rt := fun _ _ => False }
def tGs (J : Jx) (vs : List Nat) (g : List D → List Sl → RS) : TGs := fun ws σ H Q => ∃ M r ds, SI J M r σ H ∧ RepL J.G M H ds ws ∧ OutS J M H (g ds r) { nx := fun σ' H' => wipe σ' vs = wipe σ vs → Q σ' H', rt := fun _ _ => False }
theorem wipe_set {σ : St} {i : Nat} {x : Option V} : ∀ {vs : List Nat}, i ∈ vs → wipe (σ.set i x) vs = wipe σ vs
  | [], h => by cases h
  | v :: vs, h => by
    show (wipe (σ.set i x) vs).set v none = (wipe σ vs).set v none
    by_cases e : i ∈ vs
    · rw [wipe_set e]
    · have ev : i = v := by rcases List.mem_cons.mp h with z | z
                            · exact z
                            · exact absurd z e
      subst ev
      have gen : ∀ (ws : List Nat), i ∉ ws → wipe (σ.set i x) ws = (wipe σ ws).set i x := by
        intro ws
        induction ws with
        | nil => intro _; rfl
        | cons w ws ih =>
          intro hn
          have h1 : i ≠ w := fun z => hn (z ▸ List.mem_cons_self)
          have h2 : i ∉ ws := fun z => hn (List.mem_cons_of_mem _ z)
          show (wipe (σ.set i x) ws).set w none = ((wipe σ ws).set w none).set i x
          rw [ih h2, List.set_comm _ _ h1]
      rw [gen vs e, List.set_set]
def gnm (i : Nat) : D → List Sl → RS := fun d r => .nx (r.set i (.val d))
def gnil : List D → List Sl → RS := fun ds r => match ds with
  | [] => .nx r
  | _ => .bad
def gcons (g : D → List Sl → RS) (gs : List D → List Sl → RS) : List D → List Sl → RS := fun ds r => match ds with
  | d :: ds => (match g d r with
    | .nx r1 => gs ds r1
    | _ => .bad)
  | _ => .bad
def gtp (n : Nat) (gs : List D → List Sl → RS) : D → List Sl → RS := fun d r => match d with
  | .tup ds => if ds.length = n then gs ds r else .bad
  | _ => .bad
variable {vs : List Nat}
theorem g_name (i : Nat) {x : Str} {p : Pos} (hN : X.N.Nodup) (hvs : i ∈ vs := by decide) (hi : X.N[i]? = some x := by rfl) (hx : Loc X.env.scope x := by first | exact Or.inl rfl | exact Or.inr rfl) (hf : X.fn x = true ∨ X.env.scope.names.lookup x = some .local := by first | exact .inl rfl | exact .inr rfl) : PG X (.Name x p) (tG J vs (gnm i)) :=
  ⟨fun pins s σ H v u Q I rv ⟨M, r, d, SI1, rd1, h⟩ => (pg_name hN hi hx hf).run pins s σ H v u Q I rv (h M _ H Step.refl (SI1.set rd1) (wipe_set hvs))⟩
theorem g_nil : PGs X [] (tGs J vs gnil) := ⟨fun pins s σ H ws us Q I rv ⟨M, r, ds, SI1, rd1, h⟩ => pgs_nil.run pins s σ H ws us Q I rv (by
  cases ds with
  | nil => cases rd1; exact ⟨rfl, h M _ H Step.refl SI1 rfl⟩
  | cons d ds => exact h.elim)⟩
theorem g_cons {t : Expr} {ts : List Expr} {g : D → List Sl → RS} {gs : List D → List Sl → RS} (h1 : PG X t (tG J vs g)) (h2 : PGs X ts (tGs J vs gs)) (hs : (assignEach (t :: ts) X.env).map (·.2) = assign t X.env :: (assignEach ts X.env).map (·.2) := by rfl) : PGs X (t :: ts) (tGs J vs (gcons g gs)) :=
  ⟨fun pins s σ H ws us Q I rv ⟨M, r, ds, SI1, rd1, h⟩ => (pgs_cons h1 h2 hs).run pins s σ H ws us Q I rv (by
    cases ds with
    | nil => exact h.elim
    | cons d ds =>
      obtain ⟨v, ws, rfl, q1, q2⟩ := rd1
      refine ⟨v, ws, rfl, M, r, d, SI1, q1, ?_⟩
      have h : OutS J M H (match g d r with
        | .nx r1 => gs ds r1
        | _ => .bad) { nx := fun σ' H' => wipe σ' vs = wipe σ vs → Q σ' H', rt := fun _ _ => False } := h
      cases e : g d r with
      | nx r1 =>
        rw [e] at h
        intro M' σ' H' st I' ew
        refine ⟨M', r1, ds, I', RepL.step st SI1.md _ _ q2, ?_⟩
        rw [ew]
        exact OutS.step st h
      | _ => rw [e] at h; exact h.elim)⟩
theorem g_tup {es : List Expr} {k n : Nat} {p : Pos} {gs : List D → List Sl → RS} (hK : X.K = J.G.K) (hc : X.calm = true) (h : PGs X es (tGs J vs gs)) (hn : (assignEach es X.env).length = n := by rfl) (hst : (assignEach es X.env).findIdx? (·.1) = none := by rfl) : PG X (.Tuple es k p) (tG J vs (gtp n gs)) :=
  ⟨fun pins s σ H v u Q I rv ⟨M, r, d, SI1, rd1, h1⟩ => (pg_tup hc h hn hst).run pins s σ H v u Q I rv (by
    unfold gtp at h1
    split at h1
    · split at h1
      · rename_i ds hl
        obtain ⟨a, ws, rfl, ha, q⟩ := rd1
        exact ⟨a, ws, rfl, hK ▸ ha.sqt, by rw [← q.length]; exact hl, M, r, ds, SI1, q, h1⟩
      · exact h1.elim
    · exact h1.elim)⟩
/-- (a, b, ..) = e, by a tuple that is made -/
def stg (f : List Sl → RE D) (g : D → List Sl → RS) : List Sl → RS := fun r => (f r).s g
theorem s_tgt {tg : Expr} {g : D → List Sl → RS} (he : PE X e (tE J fe)) (hg : PG X tg (tG J vs g)) (ok : ∀ d r, (∃ r', g d r = .nx r') ∨ g d r = .bad) (hs : swapsWithSole [tg] e pos.line X.env = pure false := by rfl) (hw : swappedStores [tg] e X.env = pure none := by rfl) (h1 : (assignEach [tg] X.env).map (·.2) = [assign tg X.env] := by rfl) : PS X (.Assign [tg] e pos) (tS J (stg fe g)) :=
  PSi (ps_asg he hg hs hw h1) fun E σ H ⟨M, r, I, h⟩ => ⟨M, r, I, Out.s h fun d r1 v M1 H1 st1 I1 rd1 h1 => ⟨M1, r1, d, I1, rd1, by
    rcases ok d r1 with ⟨r', e'⟩ | e'
    · rw [e'] at h1 ⊢; exact fun M' σ' H' st I' _ => h1 M' σ' H' st I'
    · rw [e'] at h1; exact h1.elim⟩⟩
/-- what targets do: store, or nothing -/
def GOk (g : D → List Sl → RS) : Prop := ∀ d r, (∃ r', g d r = .nx r') ∨ g d r = .bad
def GsOk (g : List D → List Sl → RS) : Prop := ∀ d r, (∃ r', g d r = .nx r') ∨ g d r = .bad
theorem ok_nm {i : Nat} : GOk (gnm i) := fun d r => .inl ⟨_, rfl⟩
theorem ok_nil : GsOk gnil := fun d r => by cases d with
  | nil => exact .inl ⟨_, rfl⟩
  | cons _ _ => exact .inr rfl
theorem ok_cons {g : D → List Sl → RS} {gs : List D → List Sl → RS} (h2 : GsOk gs) : GsOk (gcons g gs) := fun ds r => by
  cases ds with
  | nil => exact .inr rfl
  | cons d ds =>
    show (∃ r', (match g d r with
      | .nx r1 => gs ds r1
      | _ => .bad) = RS.nx r') ∨ (match g d r with
      | .nx r1 => gs ds r1
      | _ => .bad) = RS.bad
    cases e : g d r with
    | nx r1 => exact h2 ds r1
    | _ => exact .inr rfl
theorem ok_tp {n : Nat} {gs : List D → List Sl → RS} (h : GsOk gs) : GOk (gtp n gs) := fun d r => by
  unfold gtp
  split
  · split
    · exact h _ r
    · exact .inr rfl
  · exact .inr rfl
/-- a, b = e1, e2: two local names -/
def spar (i j : Nat) (fs : List Sl → RE (List D)) : List Sl → RS := fun r => (fs r).s fun ds r1 => match ds with
  | [d, d'] => .nx ((r1.set i (.val d)).set j (.val d'))
  | _ => .bad
theorem s_par (i j : Nat) {x y : Str} {a b : Expr} {fs : List Sl → RE (List D)} {px py pt : Pos} {kt k2 : Nat} {pt2 : Pos} (hc : X.calm = true) (hN : X.N.Nodup) (ha : PA X [a, b] (tA J fs)) (hi : X.N[i]? = some x := by rfl) (hj : X.N[j]? = some y := by rfl) (hij : i ≠ j := by decide)
    (hx : X.env.scope.names.lookup x = some .local := by rfl) (hy : X.env.scope.names.lookup y = some .local := by rfl)
    (hw : swappedStores [.Tuple [.Name x px, .Name y py] kt pt] (.Tuple [a, b] k2 pt2) X.env = pure (some [x, y]) := by rfl)
    (hs : swapsWithSole [.Tuple [.Name x px, .Name y py] kt pt] (.Tuple [a, b] k2 pt2) pos.line X.env = pure false := by rfl) : PS X (.Assign [.Tuple [.Name x px, .Name y py] kt pt] (.Tuple [a, b] k2 pt2) pos) (tS J (spar i j fs)) :=
  PSi (ps_par hc hN hi hj hij hx hy ha hw hs) fun E σ H ⟨M, r, I, h⟩ => ⟨M, r, I, Out.s h fun d r1 v M1 H1 st1 I1 rd1 h1 => by
    match d, rd1, h1 with
    | [d, d'], ⟨v1, _, ev, q1, v2, _, ev2, q2, e3⟩, h1 =>
      cases e3
      subst ev2
      exact ⟨v1, v2, ev, h1 M1 _ H1 Step.refl ((I1.set q1).set q2)⟩
    | [], _, h1 => exact h1.elim
    | [_], _, h1 => exact h1.elim
    | _ :: _ :: _ :: _, _, h1 => exact h1.elim⟩

/-! ### owned objects are changed -/
def isOwn (i : Nat) (r : List Sl) : Bool := match r[i]? with
  | some (.own _) => true
  | some (.io _) => true
  | _ => false
/-- the owned object of name i goes over to another state -/
def putOwn (i : Nat) (r : List Sl) (g : D → Option D) : Option (List Sl) := match r[i]? with
  | some (.own d) => (g d).map fun d' => r.set i (.own d')
  | some (.io d) => (g d).map fun d' => r.set i (.io d')
  | _ => none
theorem own_at {M : Addr → Prop} {r : List Sl} {σ : St} {H : Hp} {i : Nat} (I : SI J M r σ H) (h : isOwn i r = true) : ∃ a s d, r[i]? = some s ∧ s.owned = true ∧ σ[i]? = some (some (.ref a)) ∧ M a ∧ OwnAt J.G M H a d ∧ (s = .own d ∨ s = .io d) := by
  unfold isOwn at h
  split at h
  · rename_i d e
    obtain ⟨a, ea, m, q, _⟩ := I.slot i _ e
    exact ⟨a, _, d, e, rfl, ea, m, q, .inl rfl⟩
  · rename_i d e
    obtain ⟨a, ea, m, q, _⟩ := I.slot i _ e
    exact ⟨a, _, d, e, rfl, ea, m, q, .inr rfl⟩
  · cases h
theorem put_core {M : Addr → Prop} {r r' : List Sl} {σ : St} {H H' : Hp} {i : Nat} {a : Addr} {d d' : D} {s : Sl} (I : SI J M r σ H) (es : r[i]? = some s) (hs : s = .own d ∨ s = .io d) (ea : σ[i]? = some (some (.ref a))) (g : D → Option D) (hg : g d = some d') (hr : putOwn i r g = some r')
    (kp : ∀ b o, H b = some o → b ≠ a → H' b = some o) (md : MD M H') (new : OwnAt J.G M H' a d') : SI J M r' σ H' ∧ Step M H M H' := by
  have hm : M a := (I.slot i s es).ownM (by rcases hs with rfl | rfl <;> rfl) ea
  have st : Step M H M H' := ⟨fun b o h n => kp b o h (fun e => n (e ▸ hm)), fun b h => .inl h⟩
  refine ⟨?_, st⟩
  unfold putOwn at hr
  have z := I.slot i s es
  rcases hs with rfl | rfl
  · rw [es] at hr
    simp only [hg, Option.map_some, Option.some.injEq] at hr
    subst hr
    obtain ⟨b, eb, m, q, n0, h0⟩ := z
    rw [ea] at eb; cases eb
    exact I.write es rfl ea rfl kp md ⟨a, rfl, hm, new, n0, h0⟩
  · rw [es] at hr
    simp only [hg, Option.map_some, Option.some.injEq] at hr
    subst hr
    obtain ⟨b, eb, m, q, hio⟩ := z
    rw [ea] at eb; cases eb
    exact I.write es rfl ea rfl kp md ⟨a, rfl, hm, new, hio⟩
theorem MD.upd {M : Addr → Prop} {H : Hp} {a : Addr} {o : HO} (md : MD M H) (mu : Mut (Option.some o)) : MD M (upd H a o) := fun b m => by
  by_cases e : b = a
  · subst e; rw [upd_same]; exact mu
  · rw [upd_ne e]; exact md b m
theorem kept_upd {H : Hp} {a : Addr} {o : HO} : ∀ b u, H b = some u → b ≠ a → upd H a o b = some u := fun b u h n => by rw [upd_ne n]; exact h
def inK (ks : List D) (k : D) : Bool := ks.any fun k' => keq k' k
def pkS (ks : List D) (k : D) : List D := if inK ks k = true then ks else ks ++ [k]
def pvS (ks ds : List D) (k v : D) : List D := if inK ks k = true then (ks.zip ds).map (fun p => if keq p.1 k = true then v else p.2) else ds ++ [v]
def setD (k v : D) : D → Option D := fun d => match d with
  | .lst xs => (match k with
    | .int z => (ixN xs.length z).map fun j => .lst (xs.set j v)
    | _ => none)
  | .dct ks ds => if isK k && ks.all isK && decide (ks.length < LIM) then some (.dct (pkS ks k) (pvS ks ds k v)) else none
  | _ => none
theorem setD_some {k v d d' : D} (h : setD k v d = some d') : (∃ xs z j, d = .lst xs ∧ k = .int z ∧ ixN xs.length z = some j ∧ d' = .lst (xs.set j v)) ∨
    (∃ ks ds, d = .dct ks ds ∧ isK k = true ∧ ks.all isK = true ∧ ks.length < LIM ∧ d' = .dct (pkS ks k) (pvS ks ds k v)) := by
  unfold setD at h
  split at h
  · split at h
    · rename_i xs _ z
      rw [Option.map_eq_some_iff] at h
      obtain ⟨j, hj, e⟩ := h
      exact .inl ⟨_, z, j, rfl, rfl, hj, e.symm⟩
    · cases h
  · rename_i ks ds
    split at h
    · rename_i hh
      rw [Bool.and_eq_true, Bool.and_eq_true] at hh
      cases h
      exact .inr ⟨ks, ds, rfl, hh.1.1, hh.1.2, of_decide_eq_true hh.2, rfl⟩
    · cases h
  · cases h
theorem put_keys {x : Key} {w : V} (kvs : List (Key × V)) : pkS (kvs.map (fun p => keyD p.1)) (keyD x) = (putK kvs x w).map (fun p => keyD p.1) := by
  unfold pkS putK inK
  rw [keys_any, valV_any]
  split
  · rw [List.map_map]
    refine List.map_congr_left fun p _ => ?_
    show keyD p.1 = keyD (if p.1 = x then (p.1, w) else p).1
    split <;> rfl
  · rw [List.map_append]; rfl
theorem put_vals {G : Gm} {M : Addr → Prop} {H : Hp} {x : Key} {v : D} {w : V} (rv : Rep G M H v w) {kvs : List (Key × V)} {ds : List D} (r : RepL G M H ds (kvs.map (·.2))) :
    RepL G M H (pvS (kvs.map (fun p => keyD p.1)) ds (keyD x) v) ((putK kvs x w).map (·.2)) := by
  unfold pvS putK inK
  rw [keys_any, valV_any]
  split
  · rename_i h0
    clear h0
    induction kvs generalizing ds with
    | nil => cases ds with
      | nil => exact rfl
      | cons d ds => obtain ⟨_, _, e, _⟩ := r; cases e
    | cons p ps ih => cases ds with
      | nil => cases r
      | cons d ds =>
        obtain ⟨v1, ws, e, q, r⟩ := r
        injection e with e1 e2
        subst e1 e2
        refine ⟨_, _, rfl, ?_, ih r⟩
        show Rep G M H (if keq (keyD p.1) (keyD x) = true then v else d) (if p.1 = x then (p.1, w) else p).2
        rw [keq_key]
        by_cases h : p.1 = x
        · rw [if_pos (decide_eq_true h), if_pos h]; exact rv
        · rw [if_neg (by simp [h]), if_neg h]; exact q
  · rw [List.map_append]
    exact r.append ⟨w, [], rfl, rv, rfl⟩
theorem PSet.or {X : Cx} {t1 t2 : TSet} (h1 : PSet X t1) (h2 : PSet X t2) : PSet X (fun o i v H Q => t1 o i v H Q ∨ t2 o i v H Q) := by
  intro pins s σ H o i v ov iv u Q I ro ri rv h
  rcases h with h | h
  · exact h1 pins s σ H o i v ov iv u Q I ro ri rv h
  · exact h2 pins s σ H o i v ov iv u Q I ro ri rv h
theorem putOwn_some {i : Nat} {r r' : List Sl} {g : D → Option D} (h : putOwn i r g = some r') : isOwn i r = true ∧ ∀ s d, r[i]? = some s → (s = .own d ∨ s = .io d) → ∃ d', g d = some d' := by
  unfold putOwn at h
  unfold isOwn
  split at h
  · rename_i d e
    rw [e]
    refine ⟨rfl, fun s d2 e2 hs => ?_⟩
    cases e2
    rcases hs with hs | hs <;> cases hs
    rw [Option.map_eq_some_iff] at h
    obtain ⟨d', hd, _⟩ := h
    exact ⟨d', hd⟩
  · rename_i d e
    rw [e]
    refine ⟨rfl, fun s d2 e2 hs => ?_⟩
    cases e2
    rcases hs with hs | hs <;> cases hs
    rw [Option.map_eq_some_iff] at h
    obtain ⟨d', hd, _⟩ := h
    exact ⟨d', hd⟩
  · cases h
/-- xs[k] = e, xs an owned list -/
def sset (i : Nat) (fv fk : List Sl → RE D) : List Sl → RS := fun r => (fv r).s fun v r1 => if isOwn i r1 = true then (fk r1).s fun k r2 => (match putOwn i r2 (setD k v) with
  | some r3 => .nx r3
  | none => .bad) else .bad
theorem s_set (i : Nat) {x : Str} {k : Expr} {fk : List Sl → RE D} {p p2 : Pos} (hu : X.A.units + 64 < cLine) (he : PE X e (tE J fe)) (hk : PE X k (tB J fk)) (hN : X.N[i]? = some x := by rfl) (hv : Vis X.env.scope x := by first | exact Or.inl rfl | exact Or.inr (Or.inl rfl) | exact Or.inr (Or.inr rfl)) (hd : (x == ("__debug__" : Str)) = false := by decide)
    (hcd : (x == ("__classdict__" : Str)) = false := by decide)
    (ha' : ∀ v, assign (.Subscript (.Name x p) k p2) X.env v = (do
      let ov ← holding [v] (eval (.Name x p) X.env)
      let iv ← holding [v, ov] (eval k X.env)
      standAt p2
      holding [v, ov, iv] (setItem ov iv v)
      release [v, ov, iv] []) := by intro _; rfl) (hs : swapsWithSole [.Subscript (.Name x p) k p2] e pos.line X.env = pure false := by rfl) (hw : swappedStores [.Subscript (.Name x p) k p2] e X.env = pure none := by rfl) :
    PS X (.Assign [.Subscript (.Name x p) k p2] e pos) (tS J (sset i fe fk)) :=
  PSi (ps_asg he (pg_sub (pe_var hN hv hd hcd) hk (PSet.or set_list (set_dict (show X.A.units + 1 < cLine by omega))) ha') hs hw) fun E σ H ⟨M, r, I, h⟩ => ⟨M, r, I, Out.s h fun v r1 w M1 H1 st1 I1 rv h1 => by
    split at h1
    · rename_i ho
      obtain ⟨a, s0, d0, es0, ow0, ea, m0, q0, hs0⟩ := own_at I1 ho
      refine ⟨_, ea, M1, r1, I1, Out.s h1 fun k r2 vk M2 H2 st2 I2 rk h2 => ?_⟩
      cases ep : putOwn i r2 (setD k v) with
      | none => rw [ep] at h2; exact h2.elim
      | some r3 =>
        rw [ep] at h2
        obtain ⟨ho2, hg2⟩ := putOwn_some ep
        obtain ⟨a2, s2, d2, es2, ow2, ea2, m2, q2, hs2⟩ := own_at I2 ho2
        rw [ea] at ea2; cases ea2
        obtain ⟨d3, hd3⟩ := hg2 s2 d2 es2 hs2
        rcases setD_some hd3 with ⟨xs, z, j, rfl, rfl, hj, rfl⟩ | ⟨ks, ds, rfl, hk1, hk2, hk3, rfl⟩
        · obtain ⟨vs, hva, rl⟩ := q2
          cases rk.int
          refine .inl ⟨a, vs, z, j, rfl, rfl, hva, by rw [← rl.length]; exact hj, ?_⟩
          have st : Step M2 H2 M2 (upd H2 a (.lst (vs.set j w))) := ⟨fun b o h n => by rw [upd_ne (by rintro rfl; exact n m2)]; exact h, fun b h => .inl h⟩
          have rv' := Rep.step (st2.trans st) I1.md _ _ rv
          have rl' := RepL.step st I2.md _ _ rl
          obtain ⟨I3, st3⟩ := put_core I2 es2 hs2 ea _ hd3 ep kept_upd (I2.md.upd (o := .lst (vs.set j w)) trivial) ⟨_, upd_same, rl'.set j rv'⟩
          exact h2 M2 σ _ st3 I3
        · obtain ⟨vs, hva, rl⟩ := q2
          obtain ⟨kvs, hkv, rfl, rfl⟩ := dict_keys hva hk2
          obtain ⟨key, rfl, rfl⟩ := isK_key hk1 rk
          have hl : kvs.length < sizeLine := by
            rw [List.length_map] at hk3
            have := le_size (n := kvs.length + 1) hk3
            omega
          refine .inr ⟨a, _, rfl, DPut.k (v := w) hkv hl, ?_⟩
          have st : Step M2 H2 M2 (upd H2 a (.dK (putK kvs key w))) := ⟨fun b o h n => by rw [upd_ne (by rintro rfl; exact n m2)]; exact h, fun b h => .inl h⟩
          have rv' := Rep.step (st2.trans st) I1.md _ _ rv
          have rl' := RepL.step st I2.md _ _ rl
          obtain ⟨I3, st3⟩ := put_core I2 es2 hs2 ea _ hd3 ep kept_upd (I2.md.upd (o := .dK (putK kvs key w)) trivial) ⟨_, .inl ⟨_, upd_same, put_keys kvs, rfl⟩, put_vals rv' rl'⟩
          exact h2 M2 σ _ st3 I3
    · exact h1.elim⟩
/-- a method of an owned object by values: what it hands back, and the object behind it -/
def OwnM (G : Gm) (r : V → List V → Hp → VK → Prop) (g : D → List D → Option (D × D)) : Prop := ∀ M H a o ds vs res o' (Q : VK), MD M H → M a → g o ds = some (res, o') → OwnAt G M H a o → RepL G M H ds vs →
  (∀ v H', (∀ b u, H b = some u → b ≠ a → H' b = some u) → MD M H' → OwnAt G M H' a o' → Rep G M H' res v → Q v H') → r (.ref a) vs H Q
def mutm (i : Nat) (g : D → List D → Option (D × D)) (fs : List Sl → RE (List D)) : List Sl → RE D := fun r => if isOwn i r = true then (fs r).bind fun ds r1 => (match r1[i]? with
  | some (.own o) => (match g o ds with
    | some (res, o') => .ok res (r1.set i (.own o'))
    | none => .bad)
  | some (.io o) => (match g o ds with
    | some (res, o') => .ok res (r1.set i (.io o'))
    | none => .bad)
  | _ => .bad) else .bad
theorem mut_core {r : V → List V → Hp → VK → Prop} {g : D → List D → Option (D × D)} {i : Nat} {fs : List Sl → RE (List D)} (hr : OwnM J.G r g) (σ : St) (H : Hp) (Q : VK) (h : tE J (mutm i g fs) σ H Q) :
    tVar i σ H fun x H1 => (∃ a, x = .ref a ∧ ∃ M d, OwnAt J.G M H1 a d) ∧ tA J fs σ H1 fun xs H2 => r x xs H2 Q := by
  obtain ⟨M, r0, I, h⟩ := h
  unfold mutm at h
  split at h
  · rename_i ho
    obtain ⟨a, s0, d0, es0, ow0, ea, m0, q0, hs0⟩ := own_at I ho
    refine ⟨_, ea, ⟨a, rfl, M, d0, q0⟩, M, r0, I, Out.bind h fun ds r1 vs M1 H1 st1 I1 rd1 h1 => ?_⟩
    have fin : ∀ (s s' : Sl) (o o' res : D), r1[i]? = some s → s.owned = true → s'.owned = true → OwnAt J.G M1 H1 a o → g o ds = some (res, o') → σ[i]? = some (some (.ref a)) → M1 a →
        (∀ H', OwnAt J.G M1 H' a o' → SlotOk J M1 H' s' (some (some (.ref a)))) → Out J (RV J) M1 H1 σ (.ok res (r1.set i s')) Q → r (.ref a) vs H1 Q := fun s s' o o' res es ow ow' q hg ea m hn h1 => by
      refine hr M1 H1 a o ds vs res o' Q I1.md m hg q rd1 fun v H' kp md own' rv => ?_
      exact h1 v M1 H' ⟨fun b u hb n => kp b u hb (fun e => n (e ▸ m)), fun b h => .inl h⟩ (I1.write es ow ea ow' kp md (hn H' own')) rv
    split at h1
    · rename_i o es
      obtain ⟨a', ea', m, q, n0, h0⟩ := I1.slot i _ es
      rw [ea] at ea'; cases ea'
      split at h1
      · rename_i res o' hg
        exact fin (.own o) (.own o') o o' res es rfl rfl q hg ea m (fun H' own' => ⟨a, rfl, m, own', n0, h0⟩) h1
      · exact h1.elim
    · rename_i o es
      obtain ⟨a', ea', m, q, hio⟩ := I1.slot i _ es
      rw [ea] at ea'; cases ea'
      split at h1
      · rename_i res o' hg
        exact fin (.io o) (.io o') o o' res es rfl rfl q hg ea m (fun H' own' => ⟨a, rfl, m, own', hio⟩) h1
      · exact h1.elim
    · exact h1.elim
  · exact h.elim
end
end DL

set_option Elab.async false
set_option linter.all false
set_option maxRecDepth 100000
set_option maxHeartbeats 4000000
namespace DL
open PySem L2

/-! ### what is walked -/
/-- the iterator gives out ds, whatever happens around -/
def ItD (G : Gm) (M0 : Addr → Prop) (H0 : Hp) (T : It) (ds : List D) : Prop := ∀ (i : Nat) M H, Step M0 H0 M H → MD M H →
  (∀ d, ds[i]? = some d → T.go i H ∧ ∀ x H', T.yld i H x H' → Extn H H' ∧ Rep G M H' d x) ∧ (ds.length ≤ i → T.stop i H)
def tI (J : Jx) (f : List Sl → RE (List D)) : TI := fun σ H R => ∃ M r, SI J M r σ H ∧ Out J (fun _ _ M1 H1 ds (T : It) => ItD J.G M1 H1 T ds) M H σ (f r) R
def gSeq : D → Option (List D)
  | .lst xs => some xs
  | .tup xs => some xs
  | .str z => some (z.cps.toList.map fun c => .str ⟨#[c]⟩)
  | .scr ns => some (ns.map .int)
  | _ => none
def iseq (f : List Sl → RE D) : List Sl → RE (List D) := fun r => (f r).bind fun x r1 => match gSeq x with
  | some ds => .ok ds r1
  | none => .bad
section
variable {X : Cx} {J : Jx} {tg e : Expr} {f : List Sl → RE D} {pos : Pos}
/-- the reading of a walked value: a list, a tuple, a text -/
def iAny (K : PySem.W.Frag) (tl : TE) : TI := fun σ H R => tl σ H fun x H1 => (∃ a, x = .ref a ∧ (∃ xs, SqL K H1 a xs) ∧ R (Itl K a) H1) ∨ (∃ a, x = .ref a ∧ (∃ xs, SqT K H1 a xs) ∧ R (Itt K a) H1) ∨ (∃ z, x = .str z ∧ R (Its z) H1) ∨ (∃ a o kvs, x = .ref a ∧ H1 a = some (.frz o (.dK kvs)) ∧ R (Itk a o kvs) H1)
theorem pi_any {tl : TE} (hl : PE X e tl) : PI X tg e (iAny X.K tl) := by
  refine ⟨fun pins s σ H R I h => ?_⟩
  refine thn (hl.run pins s σ H _ I h) fun v s1 ⟨x, H1, I1, rx, q⟩ => ?_
  rcases q with ⟨a, ea, ⟨xs, hq⟩, q⟩ | ⟨a, ea, ⟨xs, hq⟩, q⟩ | ⟨z, ez, q⟩ | ⟨a, ob, kvs, ea, hq, q⟩
  · subst ea
    obtain rfl : v = Value.ref a := rx
    obtain ⟨its, _, pl, _⟩ := I1.list hq
    exact wpAny_pyIter_list pl.isList (pi_one (tk := s1.toks) I1 _ (turn_list a _) ⟨_, Heap.get?_push_size _ rfl, rfl, rfl⟩ q)
  · subst ea
    obtain rfl : v = Value.ref a := rx
    obtain ⟨its, _, pl, _⟩ := I1.tuple hq
    exact wpAny_pyIter_tuple (show s1.heap.IsTuple a its.toArray from pl) (pi_one (tk := s1.toks) I1 _ (turn_tuple a _) ⟨_, Heap.get?_push_size _ rfl, rfl, rfl⟩ q)
  · subst ez
    obtain ⟨t, rfl⟩ := rx
    by_cases ha : z.cps.all (· < 128) = true
    · exact wpAny_pyIter_ascii ha (pi_one (tk := s1.toks) I1 _ (turn_str _ z t "str_ascii_iterator" (.inl rfl)) ⟨_, Heap.get?_push_size _ rfl, rfl, rfl⟩ q)
    · exact wpAny_pyIter_wide (by simpa using ha) (pi_one (tk := s1.toks) I1 _ (turn_str _ z t "str_iterator" (.inr rfl)) ⟨_, Heap.get?_push_size _ rfl, rfl, rfl⟩ q)
  · subst ea
    obtain rfl : v = Value.ref a := rx
    obtain ⟨hg, hgt, hex, es, ep, us, edat, esz, _, dat⟩ := I1.frzK hq
    exact iter_keys hg hgt hex edat (pi_one (tk := s1.toks) I1 _ (turn_keys _ edat) ⟨_, Heap.get?_push_size _ rfl, rfl, by rw [esz] <;> rfl⟩ q)
theorem PIi {wi wi' : TI} (h : PI X tg e wi) (w : ∀ σ H R, wi' σ H R → wi σ H R) : PI X tg e wi' := ⟨fun pins s σ H R I q => h.run pins s σ H R I (w σ H R q)⟩
theorem itd_list {G : Gm} {M0 : Addr → Prop} {H0 : Hp} {K : PySem.W.Frag} {a : Addr} {xs : List D} {vs : List V} (md : MD M0 H0) (n : ¬ M0 a) (h : H0 a = some (.lst vs)) (r : RepL G M0 H0 xs vs) : ItD G M0 H0 (Itl K a) xs := by
  intro i M H st md'
  have h' := st.keep a _ h n
  have r' := RepL.step st md _ _ r
  refine ⟨fun d hd => ?_, fun hl => ⟨vs, SqL.of h', by rw [← r.length]; exact hl⟩⟩
  obtain ⟨v, hv, rv⟩ := r'.get hd
  refine ⟨⟨vs, v, SqL.of h', hv⟩, fun x H' ⟨e, q⟩ => ?_⟩
  subst e
  have z := q vs (SqL.of h')
  rw [hv] at z; cases z
  exact ⟨fun _ _ h => h, rv⟩
theorem itd_tup {G : Gm} {M0 : Addr → Prop} {H0 : Hp} {a : Addr} {xs : List D} {vs : List V} (md : MD M0 H0) (h : SqT G.K H0 a vs) (r : RepL G M0 H0 xs vs) : ItD G M0 H0 (Itt G.K a) xs := by
  intro i M H st md'
  have h' := st.sqt md h
  have r' := RepL.step st md _ _ r
  refine ⟨fun d hd => ?_, fun hl => ⟨vs, h', by rw [← r.length]; exact hl⟩⟩
  obtain ⟨v, hv, rv⟩ := r'.get hd
  refine ⟨⟨vs, v, h', hv⟩, fun x H' ⟨e, q⟩ => ?_⟩
  subst e
  have z := q vs h'
  rw [hv] at z; cases z
  exact ⟨fun _ _ h => h, rv⟩
theorem itd_str {G : Gm} {M0 : Addr → Prop} {H0 : Hp} {z : Str} : ItD G M0 H0 (Its z) (z.cps.toList.map fun c => .str ⟨#[c]⟩) := by
  intro i M H st md
  refine ⟨fun d hd => ?_, fun hl => by show z.cps.size ≤ i; simpa using hl⟩
  rw [List.getElem?_map, Option.map_eq_some_iff] at hd
  obtain ⟨c, hc, rfl⟩ := hd
  have hc' : z.cps[i]? = some c := by simpa using hc
  refine ⟨(Array.getElem?_eq_some_iff.mp hc').1, fun x H' ⟨e, c', h1, h2⟩ => ?_⟩
  subst e; subst h2
  rw [hc'] at h1; cases h1
  exact ⟨fun _ _ h => h, rfl⟩
theorem itd_scr {G : Gm} {M0 : Addr → Prop} {H0 : Hp} {a : Addr} {ns : List Int} (h : (¬ M0 a ∧ Rd H0 a (.lst (ns.map V.int))) ∨
      ∃ (o : Obj) (its : Array Value) (n : Nat), G.K.lookup a = some o ∧ o.cls = .type "list" ∧ o.dict = none ∧ o.data = .seq its n ∧ its.size ≤ sizeLine ∧ Vals (ns.map V.int) its.toList) : ItD G M0 H0 (Itl G.K a) (ns.map .int) := by
  intro i M H st md
  have h' : SqL G.K H a (ns.map V.int) := h.elim (fun q => .inl (st.rd q.1 q.2).1) .inr
  refine ⟨fun d hd => ?_, fun hl => ⟨_, h', by simpa using hl⟩⟩
  rw [List.getElem?_map, Option.map_eq_some_iff] at hd
  obtain ⟨c, hc, rfl⟩ := hd
  have hv : (ns.map V.int)[i]? = some (.int c) := by rw [List.getElem?_map, hc]; rfl
  refine ⟨⟨_, _, h', hv⟩, fun x H' ⟨e, q⟩ => ?_⟩
  subst e
  have z := q _ h'
  rw [hv] at z; cases z
  exact ⟨fun _ _ h => h, rfl⟩
theorem itd_dct {G : Gm} {M0 : Addr → Prop} {H0 : Hp} {a : Addr} {o : Obj} {kvs : List (Key × V)} (md : MD M0 H0) (h : H0 a = some (.frz o (.dK kvs))) : ItD G M0 H0 (Itk a o kvs) (kvs.map fun p => keyD p.1) := by
  intro i M H st md'
  have n : ¬ M0 a := fun m => by have z := md a m; rw [h] at z; exact z
  have h' := st.keep a _ h n
  refine ⟨fun d hd => ?_, fun hl => ⟨h', by simpa using hl⟩⟩
  rw [List.getElem?_map, Option.map_eq_some_iff] at hd
  obtain ⟨⟨k, v⟩, hc, rfl⟩ := hd
  refine ⟨⟨h', (List.getElem?_eq_some_iff.mp hc).1⟩, fun x H' ⟨e, k', v', h1, h2⟩ => ?_⟩
  subst e
  rw [hc] at h1
  cases h1
  subst h2
  exact ⟨fun _ _ h => h, by cases k <;> rfl⟩
theorem i_seq (hK : X.K = J.G.K) (he : PE X e (tE J f)) : PI X tg e (tI J (iseq f)) :=
  PIi (pi_any he) fun σ H R ⟨M, r, I, h⟩ => ⟨M, r, I, Out.bind h fun d r1 v M1 H1 st1 I1 rd1 h1 => by
    cases d with
    | lst xs =>
      obtain ⟨a, vs, rfl, n, ha, q⟩ := rd1
      exact .inl ⟨a, rfl, ⟨vs, SqL.of ha⟩, h1 _ M1 H1 Step.refl I1 (itd_list I1.md n ha q)⟩
    | tup xs =>
      obtain ⟨a, vs, rfl, ha, q⟩ := rd1
      rw [hK]
      exact .inr (.inl ⟨a, rfl, ⟨vs, ha.sqt⟩, h1 _ M1 H1 Step.refl I1 (itd_tup I1.md ha.sqt q)⟩)
    | str z => cases rd1; exact .inr (.inr (.inl ⟨z, rfl, h1 _ M1 H1 Step.refl I1 itd_str⟩))
    | scr ns =>
      obtain ⟨a, rfl, ha⟩ := rd1
      rw [hK]
      exact .inl ⟨a, rfl, ⟨_, ha.elim (fun q => .inl q.2) .inr⟩, h1 _ M1 H1 Step.refl I1 (itd_scr ha)⟩
    | non => exact h1.elim
    | bl b => exact h1.elim
    | int i => exact h1.elim
    | dct ks ds => exact h1.elim
    | ob c ns ds => exact h1.elim
    | fn c => exact h1.elim⟩
/-- over a dict's keys -/
def gKeys : D → Option (List D)
  | .dct (.non :: ks) _ => some ks
  | _ => none
def ikeys (f : List Sl → RE D) : List Sl → RE (List D) := fun r => (f r).bind fun x r1 => match gKeys x with
  | some ds => .ok ds r1
  | none => .bad
theorem i_keys (he : PE X e (tE J f)) : PI X tg e (tI J (ikeys f)) :=
  PIi (pi_any he) fun σ H R ⟨M, r, I, h⟩ => ⟨M, r, I, Out.bind h fun d r1 v M1 H1 st1 I1 rd1 h1 => by
    cases d with
    | dct ks ds =>
      cases ks with
      | nil => exact h1.elim
      | cons k ks => cases k with
        | non =>
          obtain ⟨a, vs, rfl, n, hd, q⟩ := rd1
          rcases hd with ⟨kvs, _, e, _⟩ | ⟨kvs, _, _, e, _⟩ | ⟨o, kvs, hd, e, _⟩
          · exfalso
            cases kvs with
            | nil => cases e
            | cons p ps => obtain ⟨k, _⟩ := p; cases k <;> cases e
          · exfalso
            cases kvs with
            | nil => cases e
            | cons p ps => cases e
          · injection e with _ e
            refine .inr (.inr (.inr ⟨a, o, kvs, rfl, hd, h1 _ M1 H1 Step.refl I1 ?_⟩))
            rw [e]
            exact itd_dct I1.md hd
        | _ => exact h1.elim
    | _ => exact h1.elim⟩
/-- lo, lo + 1, .. below hi -/
def rngL (lo hi : Int) : List D := (List.range (hi - lo).toNat).map fun (i : Nat) => .int (lo + i)
theorem itd_rng {G : Gm} {M0 : Addr → Prop} {H0 : Hp} {lo : Int} {n : Nat} : ItD G M0 H0 (Itr lo n) ((List.range n).map fun (i : Nat) => .int (lo + i)) := by
  intro i M H st md
  refine ⟨fun d hd => ?_, fun hl => by show n ≤ i; simpa using hl⟩
  rw [List.getElem?_map, Option.map_eq_some_iff] at hd
  obtain ⟨c, hc, rfl⟩ := hd
  rw [List.getElem?_eq_some_iff] at hc
  obtain ⟨hlt, e⟩ := hc
  rw [List.getElem_range] at e
  subst e
  rw [List.length_range] at hlt
  refine ⟨hlt, fun x H' ⟨e, q⟩ => ?_⟩
  subst e; subst q
  exact ⟨fun _ _ h => h, rfl⟩
def small (i : Int) : Bool := decide (-1000000000 ≤ i) && decide (i ≤ 1000000000)
theorem small_ok {i : Int} (h : small i = true) : -(2 ^ 62) ≤ i ∧ i < 2 ^ 62 := by
  unfold small at h
  rw [Bool.and_eq_true] at h
  have h1 := of_decide_eq_true h.1
  have h2 := of_decide_eq_true h.2
  exact ⟨by omega, by omega⟩
def irng1 (f : List Sl → RE D) : List Sl → RE (List D) := fun r => (f r).bind fun d r1 => match d with
  | .int j => if small j = true then .ok (rngL 0 j) r1 else .bad
  | _ => .bad
def irng2 (f g : List Sl → RE D) : List Sl → RE (List D) := fun r => (f r).bind fun d r1 => (g r1).bind fun d' r2 => match d, d' with
  | .int i, .int j => if (small i && small j) = true then .ok (rngL i j) r2 else .bad
  | _, _ => .bad
variable {a b : Expr} {fa fb : List Sl → RE D} {p : Pos}
theorem i_rng1 (hg : Gl X "range") (hm : X.mg "range" = none) (ha : PE X a (tE J fa)) (hs : starEach [a] X.env = [(false, eval a X.env)] := by rfl) : PI X tg (.Call (.Name "range" p) [a] [] pos) (tI J (irng1 fa)) :=
  PIi (pi_range1 hg hm (pa1 ha hs) hs) fun σ H R ⟨M, r, I, h⟩ => ⟨M, r, I, Out.bind h fun d r1 v M1 H1 st1 I1 rd1 h1 => by
    cases d with
    | int j =>
      cases rd1
      dsimp only at h1
      split at h1
      · rename_i hs'
        have hz := small_ok hs'
        refine ⟨j, rfl, hz.1, hz.2, h1 _ M1 H1 Step.refl I1 ?_⟩
        have z := itd_rng (G := J.G) (M0 := M1) (H0 := H1) (lo := 0) (n := (j - 0).toNat)
        rw [Int.sub_zero] at z
        unfold rngL
        rw [Int.sub_zero]
        exact z
      · exact h1.elim
    | _ => exact h1.elim⟩
theorem i_rng2 (hg : Gl X "range") (hm : X.mg "range" = none) (ha : PE X a (tE J fa)) (hb : PE X b (tE J fb)) (hs : starEach [a, b] X.env = [(false, eval a X.env), (false, eval b X.env)] := by rfl) (hs2 : starEach [b] X.env = [(false, eval b X.env)] := by rfl) : PI X tg (.Call (.Name "range" p) [a, b] [] pos) (tI J (irng2 fa fb)) :=
  PIi (pi_range2 hg hm (pa_cons ha (pa_cons hb pa_nil hs2) (hs.trans (by rw [hs2]))) hs hs2) fun σ H R ⟨M, r, I, h⟩ => ⟨M, r, I, Out.bind h fun d r1 v M1 H1 st1 I1 rd1 h1 => ⟨M1, r1, I1, Out.bind h1 fun d' r2 v' M2 H2 st2 I2 rd2 h2 => by
    cases d with
    | int i =>
      cases rd1
      cases d' with
      | int j =>
        cases rd2
        dsimp only at h2
        split at h2
        · rename_i hs'
          rw [Bool.and_eq_true] at hs'
          have hz := small_ok hs'.1
          have hy := small_ok hs'.2
          exact ⟨i, j, rfl, ⟨hz.1, hz.2, hy.1, hy.2⟩, h2 _ M2 H2 Step.refl I2 itd_rng⟩
        · exact h2.elim
      | _ => exact h2.elim
    | _ => exact h2.elim⟩⟩
end

/-! ### for, while -/
def forL : List D → (D → List Sl → RS) → (List Sl → RS) → List Sl → RS
  | [], _, _, r => .nx r
  | d :: ds, g, b, r => match g d r with
    | .nx r1 => (match b r1 with
      | .nx r2 => forL ds g b r2
      | .ct r2 => forL ds g b r2
      | .bk r2 => .nx r2
      | o => o)
    | _ => .bad
def sfor (fi : List Sl → RE (List D)) (g : D → List Sl → RS) (b : List Sl → RS) : List Sl → RS := fun r => (fi r).s fun ds r1 => forL ds g b r1
def whileN : Nat → (List Sl → RE Bool) → (List Sl → RS) → List Sl → RS
  | 0, _, _, _ => .bad
  | n + 1, c, b, r => (c r).s fun k r1 => if k = true then (match b r1 with
      | .nx r2 => whileN n c b r2
      | .ct r2 => whileN n c b r2
      | .bk r2 => .nx r2
      | o => o) else .nx r1
open Classical in
/-- the while loop, if it comes to an end -/
noncomputable def swhile (c : List Sl → RE Bool) (b : List Sl → RS) : List Sl → RS := fun r => if h : ∃ n, whileN n c b r ≠ .bad then whileN (Classical.choose h) c b r else .bad
theorem whileN_up {c : List Sl → RE Bool} {b : List Sl → RS} : ∀ (n : Nat) (r : List Sl), whileN n c b r ≠ .bad → whileN (n + 1) c b r = whileN n c b r
  | 0, r, h => absurd rfl h
  | n + 1, r, h => by
    unfold whileN at h ⊢
    cases e : c r with
    | ok k r1 =>
      rw [e] at h
      dsimp only [RE.s] at h ⊢
      by_cases hk : k = true
      · rw [if_pos hk] at h ⊢
        rw [if_pos hk]
        cases eb : b r1 with
        | nx r2 => rw [eb] at h; exact whileN_up n r2 h
        | ct r2 => rw [eb] at h; exact whileN_up n r2 h
        | bk r2 => rfl
        | rt d r2 => rfl
        | exn x r2 => rfl
        | bad => rfl
      · rw [if_neg hk, if_neg hk]
    | exn x r1 => rfl
    | bad => rfl
theorem whileN_add {c : List Sl → RE Bool} {b : List Sl → RS} {n : Nat} {r : List Sl} (h : whileN n c b r ≠ .bad) : ∀ k, whileN (n + k) c b r = whileN n c b r
  | 0 => rfl
  | k + 1 => by
    have e := whileN_add h k
    have h' : whileN (n + k) c b r ≠ .bad := by rw [e]; exact h
    exact (whileN_up (n + k) r h').trans e
theorem swhile_eq {c : List Sl → RE Bool} {b : List Sl → RS} {n : Nat} {r : List Sl} (h : whileN n c b r ≠ .bad) : swhile c b r = whileN n c b r := by
  have hx : ∃ n, whileN n c b r ≠ .bad := ⟨n, h⟩
  unfold swhile
  rw [dif_pos hx]
  have h2 := Classical.choose_spec hx
  rcases Nat.le_total n (Classical.choose hx) with q | q
  · obtain ⟨k, ek⟩ := Nat.exists_eq_add_of_le q
    rw [ek]; exact whileN_add h k
  · obtain ⟨k, ek⟩ := Nat.exists_eq_add_of_le q
    have := whileN_add h2 k
    rw [← ek] at this
    exact this.symm
section
variable {X : Cx} {J : Jx} {tg iter c : Expr} {body : List Stmt} {fi : List Sl → RE (List D)} {g : D → List Sl → RS} {fb : List Sl → RS} {fc : List Sl → RE Bool} {pos : Pos}
theorem s_for (hp : PassesOwn (model X.prog X.w) X.A X.env X.xe) (hc : X.calm = true) (hi : PI X tg iter (tI J fi)) {vs : List Nat} (hg : PG X tg (tG J vs g)) (ok : GOk g) (hb : PSs X body (tS J fb)) (hs : ∀ x, foldedSetIterable iter X.env x = pure x := by intro _; rfl) :
    PS X (.For tg iter body [] pos) (tS J (sfor fi g fb)) :=
  PSi (ps_for hp hc hi hg hb hs) fun E σ H ⟨M, r, I, h⟩ => ⟨M, r, I, Out.s h fun ds r1 T M1 H1 st1 I1 it h1 => by
    refine ⟨fun i m σ' H' => m = ds.length - i ∧ i ≤ ds.length ∧ ∃ M' r', SI J M' r' σ' H' ∧ Step M1 H1 M' H' ∧ OutS J M' H' (forL (ds.drop i) g fb r') E, ⟨ds.length, by simp, Nat.zero_le _, M1, r1, I1, Step.refl, by simpa using h1⟩, ?_⟩
    rintro i m σ' H' ⟨rfl, hi, M', r', I', st', h'⟩
    obtain ⟨it1, it2⟩ := it i M' H' st' I'.md
    by_cases hlt : i < ds.length
    · have hd : ds[i]? = some ds[i] := List.getElem?_eq_getElem hlt
      obtain ⟨go, yl⟩ := it1 _ hd
      refine .inr ⟨go, fun σ2 H2 => ∃ M2 r2, SI J M2 r2 σ2 H2 ∧ Step M1 H1 M2 H2 ∧ OutS J M2 H2 (forL (ds.drop (i + 1)) g fb r2) E, fun σ2 H2 ⟨M2, r2, q⟩ => ⟨ds.length - (i + 1), by omega, rfl, by omega, M2, r2, q⟩, fun x H2 y => ?_⟩
      obtain ⟨ex, rx⟩ := yl x H2 y
      rw [List.drop_eq_getElem_cons hlt] at h'
      have h2 := OutS.step (Step.ext ex) h'
      refine ⟨M', r', ds[i], I'.ext ex, rx, ?_⟩
      have eq : forL (ds[i] :: ds.drop (i + 1)) g fb r' = (match g ds[i] r' with
        | .nx r1 => (match fb r1 with
          | .nx r2 => forL (ds.drop (i + 1)) g fb r2
          | .ct r2 => forL (ds.drop (i + 1)) g fb r2
          | .bk r2 => .nx r2
          | o => o)
        | _ => .bad) := rfl
      rw [eq] at h2
      rcases ok ds[i] r' with ⟨r3, e3⟩ | e3
      · rw [e3] at h2 ⊢
        intro M3 σ3 H3 st3 I3 _
        refine ⟨M3, r3, I3, ?_⟩
        have h3 := OutS.step st3 h2
        have st4 : Step M1 H1 M3 H3 := (st'.trans (Step.ext ex)).trans st3
        dsimp only at h3
        cases eb : fb r3 with
        | nx r4 => rw [eb] at h3; exact fun M4 σ4 H4 s4 I4 => ⟨M4, r4, I4, st4.trans s4, OutS.step s4 h3⟩
        | ct r4 => rw [eb] at h3; exact fun M4 σ4 H4 s4 I4 => ⟨M4, r4, I4, st4.trans s4, OutS.step s4 h3⟩
        | bk r4 => rw [eb] at h3; exact h3
        | rt d r4 => rw [eb] at h3; exact h3
        | exn x r4 => rw [eb] at h3; exact h3
        | bad => rw [eb] at h3; exact h3.elim
      · rw [e3] at h2; exact h2.elim
    · have e : i = ds.length := by omega
      subst e
      rw [List.drop_length] at h'
      exact .inl ⟨it2 (Nat.le_refl _), h' M' σ' H' Step.refl I'⟩⟩
theorem s_while (hp : PassesOwn (model X.prog X.w) X.A X.env X.xe) (hc : PT X c (tT J fc)) (hb : PSs X body (tS J fb)) : PS X (.While c body [] pos) (tS J (swhile fc fb)) :=
  PSi (ps_while hp hc hb) fun E σ H ⟨M, r, I, h⟩ => by
    have hx : ∃ n, whileN n fc fb r ≠ .bad := by
      apply Classical.byContradiction
      intro hn
      unfold swhile at h
      rw [dif_neg hn] at h
      exact h
    obtain ⟨n, hn⟩ := hx
    rw [swhile_eq hn] at h
    refine ⟨fun m σ' H' => ∃ M' r', SI J M' r' σ' H' ∧ OutS J M' H' (whileN m fc fb r') E, ⟨n, M, r, I, h⟩, ?_⟩
    rintro m σ' H' ⟨M', r', I', h'⟩
    cases m with
    | zero => exact h'.elim
    | succ m =>
      refine ⟨M', r', I', Out.s h' fun k r1 v M1 H1 st1 I1 rv h1 => ?_⟩
      cases rv
      by_cases hk : k = true
      · rw [if_pos hk] at h1 ⊢
        refine ⟨fun σ2 H2 => ∃ M2 r2, SI J M2 r2 σ2 H2 ∧ OutS J M2 H2 (whileN m fc fb r2) E, fun σ2 H2 q => ⟨m, Nat.lt_succ_self _, q⟩, M1, r1, I1, ?_⟩
        cases eb : fb r1 with
        | nx r4 => rw [eb] at h1; exact fun M4 σ4 H4 s4 I4 => ⟨M4, r4, I4, OutS.step s4 h1⟩
        | ct r4 => rw [eb] at h1; exact fun M4 σ4 H4 s4 I4 => ⟨M4, r4, I4, OutS.step s4 h1⟩
        | bk r4 => rw [eb] at h1; exact h1
        | rt d r4 => rw [eb] at h1; exact h1
        | exn x r4 => rw [eb] at h1; exact h1
        | bad => rw [eb] at h1; exact h1.elim
      · rw [if_neg hk] at h1 ⊢
        exact h1 M1 σ' H1 Step.refl I1
end
end DL

set_option Elab.async false
set_option linter.all false
set_option maxRecDepth 100000
set_option maxHeartbeats 4000000
namespace DLX
open PySem PySem.W PySem.Calls PyProof.Rows PySem.HandSPX

/-- def __init__(self, f): super().__init__(f); self.f = f -/
def body1 (f : Str) (p0 p1 ap q1 pos pos' : Pos) (a1 a2 a3 a4 : Pos) : List Stmt :=
  [.Expr (.Call (.Attribute (.Call (.Name "super" p0) [] [] p1) "__init__" ap) [.Name f q1] [] pos) pos', .Assign [.Attribute (.Name "self" a1) f a2] (.Name f a3) a4]
/-- def __init__(self, f, g): super().__init__(f, g); self.f = f; self.g = g -/
def body2 (f g : Str) (p0 p1 ap q1 q2 pos pos' : Pos) (a1 a2 a3 a4 b1 b2 b3 b4 : Pos) : List Stmt :=
  [.Expr (.Call (.Attribute (.Call (.Name "super" p0) [] [] p1) "__init__" ap) [.Name f q1, .Name g q2] [] pos) pos', .Assign [.Attribute (.Name "self" a1) f a2] (.Name f a3) a4, .Assign [.Attribute (.Name "self" b1) g b2] (.Name g b3) b4]
def args1 (f : Str) (p1 p2 : Pos) : Arguments := { posonlyargs := [], args := [{ arg := "self", annotation := none, pos := p1 }, { arg := f, annotation := none, pos := p2 }], vararg := none, kwonlyargs := [], kw_defaults := [], kwarg := none, defaults := [] }
def args2 (f g : Str) (p1 p2 p3 : Pos) : Arguments := { posonlyargs := [], args := [{ arg := "self", annotation := none, pos := p1 }, { arg := f, annotation := none, pos := p2 }, { arg := g, annotation := none, pos := p3 }], vararg := none, kwonlyargs := [], kw_defaults := [], kwarg := none, defaults := [] }
def scope1 (f : Str) : Scope := { kind := .function, names := [("self", .local), (f, .local), ("__class__", .free), ("super", .globalImplicit)], isGenerator := false, isCoroutine := false, more := [] }
def scope2 (f g : Str) : Scope := { kind := .function, names := [("self", .local), (f, .local), (g, .local), ("__class__", .free), ("super", .globalImplicit)], isGenerator := false, isCoroutine := false, more := [] }

/-- what the written part tells of such a class, at C, its __init__ at fI -/
structure Cl (P : Program) (K : Frag) (mg : Str → Option Value) (c : Str) (C fI : Addr) (fs : List Str) : Prop where
  gC : mg c = some (.ref C)
  cls : ∃ nm q N bs bm sn sub ab col dd k0 k1 k2 k3 k5, K.lookup C = some (excClassObj nm q C N bs bm true sn sub ab col dd k0 k1 k2 k3 k5 "ValueError.__new__") ∧ refsVE bm = true
  sa : findIn K (.ref C) "__setattr__" = some (some (.builtin "object.__setattr__"))
  ga : findIn K (.ref C) "__getattribute__" = some (some (.builtin "BaseException.__getattribute__"))
  gg : findIn K (.ref C) "__getattr__" = some none
  no : ∀ f ∈ fs, findIn K (.ref C) f = some none
  iC : findIn K (.ref C) "__init__" = some (some (.ref fI))
  tC : typeIn K (.ref fI) = some (.type "function")
  kC : keepIn K (.ref C) = true
  exC : subIn K (.ref C) (.type "BaseException") = some true
  veC : subIn K (.ref C) (.type "ValueError") = some true
  tyC : typeIn K (.ref C) = some (.type "type")
  hdC : hasDictIn K C = true
  selfC : mroIn K C (.ref C) = some true
  sup : ks_superIn K C C "__init__" = some (some (.builtin "ValueError.__init__"))
  op : nsIn K cStatics "thirdparty.any" = some none
  ms : nsIn K mainGlobals "super" = some none
  tops : (P.main.scope.names.lookup ("super" : Str)).isSome = false
/-- its __init__, as it lies in the written part -/
structure Fn (P : Program) (K : Frag) (fI C : Addr) (q : Str) (a : Arguments) (b : List Stmt) (sc : Scope) : Prop where
  ex : ∃ (oc : Value) (od : Option Addr) (doc pm : Value) (an : Option Addr) (cda : Addr) (ct : Value) (osl : Array (Option Value)) (cc : Addr) (ccl cl : Value) (cdd cld : Option Addr) (vs : Array Value) (ccs csl : Array (Option Value)) (file : Str) (tf : Tok),
    K.lookup fI = some ⟨oc, od, .func (ksFn "__init__" q a b sc .none .none doc pm an (.ref cda) ct cc), osl⟩ ∧ codeIn K (.ref cda) q = true ∧
    K.lookup cda = some ⟨ccl, cdd, .fields vs, ccs⟩ ∧ vs[2]? = some (.str file tf) ∧ ((P.main.file : Str) == file) = true ∧ K.lookup cc = some ⟨cl, cld, .cell (some (.ref C)), csl⟩
/-- what __init__ leaves of a fresh exception at x -/
structure End (h h' : Heap) (x C dx : Addr) (mA : Str → Option Value) : Prop where
  keep : ∀ b o, b ≠ x → h.get? b = some o → h'.get? b = some o
  obj : ∃ t, h'.get? x = some { cls := .ref C, dict := some dx, data := .fields #[.ref t, .none, .none, .none, .bool false, .none] }
  dbig : h.objs.size ≤ dx
  dne : dx ≠ x
  ns : h'.Ns1 dx mA
section
variable {prog : Program} {w : World} {A : Around} {E : Value → Shared → Prop} {R : Result → Shared → Prop} {K : Frag} {mg : Str → Option Value} {c : Str} {C fI : Addr} {fs : List Str}
theorem ex_ref {h : Heap} {x C t : Addr} (hx : h.get? x = some (excO C t)) : InstAt h x (excO C t) C none := ⟨hx, rfl, rfl, trivial⟩
/-- the call of ValueError.__init__ bound to the exception -/
theorem call_super (T : Cl prog K mg c C fI fs) {h : Heap} {g : Array GenState} {d : Drawn} {t : Nat} {os : OsState} {u x t0 : Addr} {rest : List Value} {Q : Value → Shared → Prop} (X : K.In h) (hu : h.get? u = some (kxs_mw "ValueError.__init__" x)) (hx : h.get? x = some (excO C t0)) (hz : rest.length ≤ sizeLine)
    (hq : ∀ h' t1, (∀ b o, b ≠ x → h.get? b = some o → h'.get? b = some o) → h'.get? x = some (excO C t1) → h.objs.size < h'.objs.size → Q .none ⟨h', g, d, t, os⟩) :
    wpAny (model prog w) A (call (.ref u) rest) Q E ⟨h, g, d, t, os⟩ := by
  obtain ⟨nm, q, N, bs, bm, sn, sub, ab, col, dd, k0, k1, k2, k3, k5, hC, hbm⟩ := T.cls
  refine wpAny_call (codeAny_of_tree ?_)
  show wpAny (model prog w) A.in1 (callAny (.ref u) ⟨rest, []⟩) _ _ ⟨h, g, d, t, os⟩
  unfold callAny
  dsimp only
  refine wpAny_bind (wpAny_load hu ?_)
  have e1 : (Value.type "method-wrapper" == Value.type "method" || Value.type "method-wrapper" == Value.type "builtin_function_or_method" ||
      Value.type "method-wrapper" == Value.type "method-wrapper") = true := by decide
  simp only [kxs_mw, e1, if_true]
  refine KFB.if_so (by decide) ?_
  refine wpAny_bind (check_bound_init F.excBase_ValueError.toExcCallFacts (X _ _ hC) hx rfl ?_)
  refine wpAny_bind (wpAny_pure (wpAny_pure ⟨plainId_quiet F.excBase_ValueError.init.plain _, ?_⟩))
  refine codeAny_builtin F.excBase_ValueError.initEntry ?_
  exact exc_init_tree (c2 := .none) (c3 := .none) (b4 := .bool false) (dv := none) (t0 := t0) (cls := .ref C) hx hz fun h' k1 k2 k3 => hq h' _ k1 k2 (Heap.lt_size k3)
/-- super().__init__(..): behind it the exception has other args -/
theorem super_stmt (T : Cl prog K mg c C fI fs) {q : Str} {ar : Arguments} {b : List Stmt} {sc : Scope} {oc : Value} {od : Option Addr} {doc pm : Value} {an : Option Addr} {cda : Addr} {ct : Value} {osl : Array (Option Value)} {cc : Addr} {ccl cl : Value} {cdd cld : Option Addr} {vs : Array Value} {ccs csl : Array (Option Value)} {file : Str} {tf : Tok} {a0 : Arg}
    (ho : K.lookup fI = some ⟨oc, od, .func (ksFn "__init__" q ar b sc .none .none doc pm an (.ref cda) ct cc), osl⟩) (hcode : K.lookup cda = some ⟨ccl, cdd, .fields vs, ccs⟩) (hvs : vs[2]? = some (.str file tf)) (hfile : ((prog.main.file : Str) == file) = true) (hcell : K.lookup cc = some ⟨cl, cld, .cell (some (.ref C)), csl⟩)
    (hp : (ar.posonlyargs ++ ar.args).head? = some a0) (h0 : a0.arg = "self") {L : Addr} {body : List Stmt} {p0 p1 ap pos pos' : Pos} {e : Expr} {es : List Expr} {s : Shared} {m mb : Str → Option Value} {x t0 : Addr} {us : List Value} {Q : Flow → Shared → Prop}
    (X : K.In s.heap) (hg : s.heap.Ns mainGlobals mg) (hb : s.heap.Ns builtinsNs mb) (hbb : ∀ y : Str, y ≠ "__name__" → mb y = bootBuiltins y) (hn : s.heap.Ns L m) (hv : m "self" = some (.ref x)) (hx : s.heap.get? x = some (excO C t0)) (hnx : K.lookup x = none)
    (hks : sc.names.lookup ("super" : Str) = some .globalImplicit) (hkc : sc.names.lookup ("__class__" : Str) = some .free) (hka : sc.names.lookup ("self" : Str) = some .local) (hk : sc.kind = .function) (hz : us.length ≤ sizeLine)
    (hargs : ∀ (s1 : Shared) (Q1 : List Value → Shared → Prop), s1.heap.Ns L m → Q1 us s1 → wpAny (model prog w) A (spliced (backTo pos (starEach (e :: es) (ksEnv q sc L fI (.ref cda) cc)))) Q1 E s1)
    (he : starEach (e :: es) (ksEnv q sc L fI (.ref cda) cc) = (false, eval e (ksEnv q sc L fI (.ref cda) cc)) :: starEach es (ksEnv q sc L fI (.ref cda) cc)) (hpl : (backTo pos (starEach es (ksEnv q sc L fI (.ref cda) cc))).any (·.1) = false)
    (hxL : x ≠ L)
    (hq : ∀ h' t1 tk, (∀ b o, b ≠ x → s.heap.get? b = some o → h'.get? b = some o) → h'.get? x = some (excO C t1) → h'.Ns L m → s.heap.objs.size ≤ h'.objs.size → Q .next { s with heap := h', toks := tk })
    {pl : Sem Bool} (hev : eval (.Call (.Attribute (.Call (.Name "super" p0) [] [] p1) "__init__" ap) (e :: es) [] pos) (ksEnv q sc L fI (.ref cda) cc) = (do
      let ov ← attributeBase (.Call (.Name "super" p0) [] [] p1) "__init__" (ksEnv q sc L fI (.ref cda) cc) (eval (.Call (.Name "super" p0) [] [] p1) (ksEnv q sc L fI (.ref cda) cc))
      standAt ap.atName
      let (f, first) ← holding [ov] (getMethod ov "__init__" pl)
      callWith pos f first (backTo pos (starEach (e :: es) (ksEnv q sc L fI (.ref cda) cc))) []))
    (hsw : swapsWith (.Call (.Attribute (.Call (.Name "super" p0) [] [] p1) "__init__" ap) (e :: es) [] pos) none pos'.line (ksEnv q sc L fI (.ref cda) cc) = pure false := by rfl) :
    _root_.PySem.wpAt (model prog w) A (.func body (ksEnv q sc L fI (.ref cda) cc)) (exec (.Expr (.Call (.Attribute (.Call (.Name "super" p0) [] [] p1) "__init__" ap) (e :: es) [] pos) pos') (ksEnv q sc L fI (.ref cda) cc)) Q E s := by
  obtain ⟨nm, qn, N, bs, bm, sn, sub, ab, col, dd, k0, k1, k2, k3, k5, hC, hbm⟩ := T.cls
  have hcd : clsIn K C = some { name := nm, bases := bs, mro := .ref C :: bm, ns := N, qualname := qn, hasDict := true, slotNames := sn, subclasses := sub, abstract := ab, collection := col, hasDel := false } := by
    unfold clsIn
    rw [hC] <;> rfl
  have hC1 := X _ _ hC
  refine ks_wpAt_Expr_any ?_ (by first | rfl | (simp [interactive]; intro z; rw [hk] at z; cases z)) hsw
  refine ks_wpAt_MethodCall (pl := pl) ?_ hev
  obtain ⟨hh, g, d, t, os⟩ := s
  refine ks_wpAt_super_base (env := ksEnv q sc L fI (.ref cda) cc) hks hkc (by decide) rfl (X _ _ ho) rfl hp rfl (X _ _ hcode) rfl hvs hfile T.tops ?_
  refine ks_loadName_global hk hks ?_
  refine loadGlobal_builtin (env := ksEnv q sc L fI (.ref cda) cc) hg (mg_none_of X hg T.ms) hb ((hbb "super" (by decide +kernel)).trans (show bootBuiltins "super" = some (.type "super") by decide +kernel)) ⟨rfl, ?_⟩
  refine wpAny_loadName_free hk hkc rfl ⟨_, X _ _ hcell, rfl⟩ ?_
  rw [h0]
  refine wpAny_loadName_local hk hka hn hv ?_
  refine ks_wpAny_isType_cls hC1 rfl ⟨rfl, ?_⟩
  refine ks_wpAny_call_super hC1 rfl hx rfl (fun c e => by cases e) (looks_mroIn X T.selfC) (fun h1 e1 k1 => ?_)
  have X1 : K.In h1 := X.keeps k1
  have hx1 := k1 _ _ hx
  have hso := e1
  have hm := T.sup
  unfold ks_superIn at hm
  rw [hcd] at hm
  have I1 : InstAt h1 x (excO C t0) C none := ex_ref hx1
  have hI : Looks (model prog w) h1 (isInstance (.ref x) (.type "ValueError")) true := I1.type.andThen (looks_subIn X1 T.veC)
  have nxC : x ≠ C := fun e => by rw [e, hC] at hnx; cases hnx
  refine kxs_getMethod kxs_ValueError hso (looks_opaque X1 T.op) (fun A Q E s k q => wpAny_bind ((looks_clsIn X1 hcd) A _ E s k (wpAny_pure q))) rfl X1 hm hI nxC (by decide) ?_
  have hns1 : (h1.push (kxs_mw "ValueError.__init__" x)).Ns L m := (hn.keeps k1).keeps fun b o e => Heap.get?_push_of_some _ e
  have hu : (h1.push (kxs_mw "ValueError.__init__" x)).get? h1.objs.size = some (kxs_mw "ValueError.__init__" x) := Heap.get?_push_at rfl rfl
  have hx2 : (h1.push (kxs_mw "ValueError.__init__" x)).get? x = some (excO C t0) := Heap.get?_push_of_some _ hx1
  refine kxs_callWith (i := "ValueError.__init__") (x := x) (u := h1.objs.size) ?_ ?_
  · rw [he]
    show (false || (backTo pos (starEach es (ksEnv q sc L fI (.ref cda) cc))).any (·.1)) = false
    rw [hpl]; rfl
  have fin : wpAny (model prog w) A (call (.ref h1.objs.size) us) (fun _ s' => Q .next s') E ⟨h1.push (kxs_mw "ValueError.__init__" x), g, d, t + 1, os⟩ := by
    refine call_super T (X1.keeps fun b o e => Heap.get?_push_of_some _ e) hu hx2 hz fun h' t1 k2 e2 sz => ?_
    have kk : ∀ b o, b ≠ x → hh.get? b = some o → h'.get? b = some o := fun b o nb e => k2 b o nb (Heap.get?_push_of_some _ (k1 b o e))
    refine hq h' t1 _ kk e2 ?_ ?_
    · obtain ⟨oL, es', ep, hL, r⟩ := hn
      exact ⟨oL, es', ep, kk _ _ (Ne.symm hxL) hL, r⟩
    · have z1 := Heap.lt_size hso
      have z2 : (h1.push (kxs_mw "ValueError.__init__" x)).objs.size = h1.objs.size + 1 := Heap.size_push ..
      show hh.objs.size ≤ h'.objs.size
      have z3 : hh.objs.size < h1.objs.size := z1
      omega
  have ha := hargs ⟨h1.push (kxs_mw "ValueError.__init__" x), g, d, t + 1, os⟩ (fun vs s1 => KxsAt "ValueError.__init__" h1.objs.size x s1.heap ∧ wpAny (model prog w) A (call (.ref h1.objs.size) vs) (fun _ s' => Q .next s') E s1) hns1 ⟨hu, fin⟩
  rw [he] at ha ⊢
  exact evalArgs_plain ha
theorem held_init1 (T : Cl prog K mg c C fI fs) {f q : Str} {p0 p1 ap q1 pos pos' a1 a2 a3 a4 u1 u2 : Pos} (N : Fn prog K fI C q (args1 f u1 u2) (body1 f p0 p1 ap q1 pos pos' a1 a2 a3 a4) (scope1 f)) (hf : f ∈ fs) (hne : (("self" : Str) == f) = false) (hd : (f == ("__debug__" : Str)) = false)
    (lf : (scope1 f).names.lookup f = some .local) (lk : (scope1 f).names.lookup ("super" : Str) = some .globalImplicit) (lc : (scope1 f).names.lookup ("__class__" : Str) = some .free)
    (hbd : ∀ (doc pm ct : Value) (an : Option Addr) (cda cc : Addr) (y z : Value), bindArgs (ksFn "__init__" q (args1 f u1 u2) (body1 f p0 p1 ap q1 pos pos' a1 a2 a3 a4) (scope1 f) .none .none doc pm an (.ref cda) ct cc) ⟨[y, z], []⟩ = pure [(("self" : Str), y), (f, z)])
    (hev : ∀ (L cda cc : Addr), ∃ pl, eval (.Call (.Attribute (.Call (.Name "super" p0) [] [] p1) "__init__" ap) [.Name f q1] [] pos) (ksEnv q (scope1 f) L fI (.ref cda) cc) = (do
      let ov ← attributeBase (.Call (.Name "super" p0) [] [] p1) "__init__" (ksEnv q (scope1 f) L fI (.ref cda) cc) (eval (.Call (.Name "super" p0) [] [] p1) (ksEnv q (scope1 f) L fI (.ref cda) cc))
      standAt ap.atName
      let (g, first) ← holding [ov] (getMethod ov "__init__" pl)
      callWith pos g first (backTo pos (starEach [.Name f q1] (ksEnv q (scope1 f) L fI (.ref cda) cc))) []))
    (hsw1 : ∀ (L cda cc : Addr), swapsWith (.Call (.Attribute (.Call (.Name "super" p0) [] [] p1) "__init__" ap) [.Name f q1] [] pos) none pos'.line (ksEnv q (scope1 f) L fI (.ref cda) cc) = pure false)
    (hsw2 : ∀ (L cda cc : Addr), swapsWith (.Name f a3) (some (.Attribute (.Name "self" a1) f a2)) a4.line (ksEnv q (scope1 f) L fI (.ref cda) cc) = pure false)
    {s : Shared} {mb : Str → Option Value} {x t0 : Addr} {v : Value} (X : K.In s.heap) (hlim : s.heap.NoLimit) (hg : s.heap.Ns mainGlobals mg) (hb : s.heap.Ns builtinsNs mb) (hbb : ∀ y : Str, y ≠ "__name__" → mb y = bootBuiltins y)
    (hx : s.heap.get? x = some (excO C t0)) (hnx : K.lookup x = none) (hroom : A.depth < recursionLimit)
    (hq : ∀ h' tk dx, End s.heap h' x C dx (fun y => if y = f then some v else none) → R (.ok (.ret .none)) { s with heap := h', toks := tk }) :
    codeAny (model prog w) A (.call (.ref fI) ⟨[.ref x, v], []⟩) R s := by
  obtain ⟨oc, od, doc, pm, an, cda, ct, osl, cc, ccl, cl, cdd, cld, vs, ccs, csl, file, tf, ho, hcd, hcode, hvs, hfile, hcell⟩ := N.ex
  obtain ⟨nm, qn, NN, bs, bm, sn, sub, ab, col, dd, k0, k1, k2, k3, k5, hC, hbm⟩ := T.cls
  have hcl : clsIn K C = some { name := nm, bases := bs, mro := .ref C :: bm, ns := NN, qualname := qn, hasDict := true, slotNames := sn, subclasses := sub, abstract := ab, collection := col, hasDel := false } := by
    unfold clsIn
    rw [hC] <;> rfl
  have ls : (scope1 f).names.lookup ("self" : Str) = some .local := by simp [scope1, List.lookup]
  have mself : ([((f : Str), v), (("self" : Str), Value.ref x)] : List (Str × Value)).lookup ("self" : Str) = some (.ref x) := by simp [List.lookup, hne]
  have mf : ([((f : Str), v), (("self" : Str), Value.ref x)] : List (Str × Value)).lookup f = some v := by simp [List.lookup]
  refine ks_codeAny_call_defAt (binds := [("self", .ref x), (f, v)]) hroom (X _ _ ho) rfl hlim (codeRec_of X hcd) rfl (BindsTo.of_eq (hbd ..)) (fun y hy => ?_) (fun y hy => ?_) (fun h1 hn k => ?_) rfl rfl rfl
  · simp [scope1] at hy; rcases hy with rfl | rfl | rfl | rfl <;> simp
  · simp at hy; rcases hy with rfl | rfl
    · exact ls
    · exact lf
  have X1 := X.keeps k
  have hx1 := k _ _ hx
  have hxL : x ≠ s.heap.objs.size := Nat.ne_of_lt (Heap.lt_size hx)
  show _root_.PySem.wpAt (model prog w) (A.deeper (ksEnv q (scope1 f) s.heap.objs.size fI (.ref cda) cc)) (.func (body1 f p0 p1 ap q1 pos pos' a1 a2 a3 a4) (ksEnv q (scope1 f) s.heap.objs.size fI (.ref cda) cc)) (execs (body1 f p0 p1 ap q1 pos pos' a1 a2 a3 a4) (ksEnv q (scope1 f) s.heap.objs.size fI (.ref cda) cc)) _ _ _
  obtain ⟨pl, hev'⟩ := hev s.heap.objs.size cda cc
  refine ks_wpAt_execs_cons (super_stmt T ho hcode hvs hfile hcell (a0 := { arg := "self", annotation := none, pos := u1 }) rfl rfl (us := [v]) X1 (hg.keeps k) (hb.keeps k) hbb hn mself hx1 hnx lk lc ls rfl (by rw [sizeLine_eq]; exact (by decide : 1 ≤ 16777216)) (fun s1 Q1 hn1 hq1 => ?_) rfl rfl hxL (fun h2 t1 tk k2 e2 hn2 sz2 => ?_) (pl := pl) hev' (hsw1 ..))
  · show wpAny _ _ (spliced ((false, eval (.Name f q1) _) :: [])) _ _ _
    exact Calls.spliced_cons (ESX.ldL (env := ksEnv q (scope1 f) s.heap.objs.size fI (.ref cda) cc) hn1 mf (Calls.spliced_nil hq1) rfl lf hd)
  have X2 : K.In h2 := fun b o e => k2 b o (fun z => by rw [z] at e; rw [hnx] at e; cases e) (X1 b o e)
  refine ks_wpAt_execs_cons (ks_wpAt_Assign_Attr ?_ (hsw2 ..))
  refine wpAt_of_wpAny (ESX.ldL (env := ksEnv q (scope1 f) s.heap.objs.size fI (.ref cda) cc) hn2 mf ?_ rfl lf hd)
  refine ESX.ldL (env := ksEnv q (scope1 f) s.heap.objs.size fI (.ref cda) cc) hn2 mself ?_ rfl ls (by decide)
  refine set_plain X2 (ox := excO C t1) (od := none) (ex_ref e2) T.sa ?_
  refine exc_osa X2 e2 hcl (show refsVE (.ref C :: bm) = true from hbm) rfl (T.no f hf) (fun h3 tk3 dx k3 dn dne hx3 hn3 => ?_)
  refine wpAt_of_wpAny (wpAny_execs_nil ?_)
  have z : s.heap.objs.size < h1.objs.size := hn.lt
  refine hq h3 tk3 dx ⟨fun b o nb e => k3 b o nb (k2 b o nb (k b o e)), ⟨t1, hx3⟩, ?_, dne, hn3⟩
  have sz2' : h1.objs.size ≤ h2.objs.size := sz2
  have dn2 : h2.objs.size ≤ dx := dn
  omega
theorem held_init2 (T : Cl prog K mg c C fI fs) {f g q : Str} {p0 p1 ap q1 q2 pos pos' a1 a2 a3 a4 b1 b2 b3 b4 u1 u2 u3 : Pos} (N : Fn prog K fI C q (args2 f g u1 u2 u3) (body2 f g p0 p1 ap q1 q2 pos pos' a1 a2 a3 a4 b1 b2 b3 b4) (scope2 f g)) (hf : f ∈ fs) (hg1 : g ∈ fs) (hne2 : (("self" : Str) == g) = false) (hfg : (f == g) = false) (hgd : (g == ("__debug__" : Str)) = false) (lg : (scope2 f g).names.lookup g = some .local) (hne : (("self" : Str) == f) = false) (hd : (f == ("__debug__" : Str)) = false)
    (lf : (scope2 f g).names.lookup f = some .local) (lk : (scope2 f g).names.lookup ("super" : Str) = some .globalImplicit) (lc : (scope2 f g).names.lookup ("__class__" : Str) = some .free)
    (hbd : ∀ (doc pm ct : Value) (an : Option Addr) (cda cc : Addr) (y z z2 : Value), bindArgs (ksFn "__init__" q (args2 f g u1 u2 u3) (body2 f g p0 p1 ap q1 q2 pos pos' a1 a2 a3 a4 b1 b2 b3 b4) (scope2 f g) .none .none doc pm an (.ref cda) ct cc) ⟨[y, z, z2], []⟩ = pure [(("self" : Str), y), (f, z), (g, z2)])
    (hev : ∀ (L cda cc : Addr), ∃ pl, eval (.Call (.Attribute (.Call (.Name "super" p0) [] [] p1) "__init__" ap) [.Name f q1, .Name g q2] [] pos) (ksEnv q (scope2 f g) L fI (.ref cda) cc) = (do
      let ov ← attributeBase (.Call (.Name "super" p0) [] [] p1) "__init__" (ksEnv q (scope2 f g) L fI (.ref cda) cc) (eval (.Call (.Name "super" p0) [] [] p1) (ksEnv q (scope2 f g) L fI (.ref cda) cc))
      standAt ap.atName
      let (k, first) ← holding [ov] (getMethod ov "__init__" pl)
      callWith pos k first (backTo pos (starEach [.Name f q1, .Name g q2] (ksEnv q (scope2 f g) L fI (.ref cda) cc))) []))
    (hsw1 : ∀ (L cda cc : Addr), swapsWith (.Call (.Attribute (.Call (.Name "super" p0) [] [] p1) "__init__" ap) [.Name f q1, .Name g q2] [] pos) none pos'.line (ksEnv q (scope2 f g) L fI (.ref cda) cc) = pure false)
    (hsw3 : ∀ (L cda cc : Addr), swapsWith (.Name g b3) (some (.Attribute (.Name "self" b1) g b2)) b4.line (ksEnv q (scope2 f g) L fI (.ref cda) cc) = pure false)
    (hsw2 : ∀ (L cda cc : Addr), swapsWith (.Name f a3) (some (.Attribute (.Name "self" a1) f a2)) a4.line (ksEnv q (scope2 f g) L fI (.ref cda) cc) = pure false)
    {s : Shared} {mb : Str → Option Value} {x t0 : Addr} {v v2 : Value} (X : K.In s.heap) (hlim : s.heap.NoLimit) (hg : s.heap.Ns mainGlobals mg) (hb : s.heap.Ns builtinsNs mb) (hbb : ∀ y : Str, y ≠ "__name__" → mb y = bootBuiltins y)
    (hx : s.heap.get? x = some (excO C t0)) (hnx : K.lookup x = none) (hroom : A.depth < recursionLimit)
    (hq : ∀ h' tk dx, End s.heap h' x C dx (fun y => if y = g then some v2 else if y = f then some v else none) → R (.ok (.ret .none)) { s with heap := h', toks := tk }) :
    codeAny (model prog w) A (.call (.ref fI) ⟨[.ref x, v, v2], []⟩) R s := by
  obtain ⟨oc, od, doc, pm, an, cda, ct, osl, cc, ccl, cl, cdd, cld, vs, ccs, csl, file, tf, ho, hcd, hcode, hvs, hfile, hcell⟩ := N.ex
  obtain ⟨nm, qn, NN, bs, bm, sn, sub, ab, col, dd, k0, k1, k2, k3, k5, hC, hbm⟩ := T.cls
  have hcl : clsIn K C = some { name := nm, bases := bs, mro := .ref C :: bm, ns := NN, qualname := qn, hasDict := true, slotNames := sn, subclasses := sub, abstract := ab, collection := col, hasDel := false } := by
    unfold clsIn
    rw [hC] <;> rfl
  have ls : (scope2 f g).names.lookup ("self" : Str) = some .local := by simp [scope2, List.lookup]
  have mself : ([((g : Str), v2), ((f : Str), v), (("self" : Str), Value.ref x)] : List (Str × Value)).lookup ("self" : Str) = some (.ref x) := by simp [List.lookup, hne, hne2]
  have mf : ([((g : Str), v2), ((f : Str), v), (("self" : Str), Value.ref x)] : List (Str × Value)).lookup f = some v := by simp [List.lookup, hfg]
  have mg2 : ([((g : Str), v2), ((f : Str), v), (("self" : Str), Value.ref x)] : List (Str × Value)).lookup g = some v2 := by simp [List.lookup]
  refine ks_codeAny_call_defAt (binds := [("self", .ref x), (f, v), (g, v2)]) hroom (X _ _ ho) rfl hlim (codeRec_of X hcd) rfl (BindsTo.of_eq (hbd ..)) (fun y hy => ?_) (fun y hy => ?_) (fun h1 hn k => ?_) rfl rfl rfl
  · simp [scope2] at hy; rcases hy with rfl | rfl | rfl | rfl | rfl <;> simp
  · simp at hy; rcases hy with rfl | rfl | rfl
    · exact ls
    · exact lf
    · exact lg
  have X1 := X.keeps k
  have hx1 := k _ _ hx
  have hxL : x ≠ s.heap.objs.size := Nat.ne_of_lt (Heap.lt_size hx)
  show _root_.PySem.wpAt (model prog w) (A.deeper (ksEnv q (scope2 f g) s.heap.objs.size fI (.ref cda) cc)) (.func (body2 f g p0 p1 ap q1 q2 pos pos' a1 a2 a3 a4 b1 b2 b3 b4) (ksEnv q (scope2 f g) s.heap.objs.size fI (.ref cda) cc)) (execs (body2 f g p0 p1 ap q1 q2 pos pos' a1 a2 a3 a4 b1 b2 b3 b4) (ksEnv q (scope2 f g) s.heap.objs.size fI (.ref cda) cc)) _ _ _
  obtain ⟨pl, hev'⟩ := hev s.heap.objs.size cda cc
  refine ks_wpAt_execs_cons (super_stmt T ho hcode hvs hfile hcell (a0 := { arg := "self", annotation := none, pos := u1 }) rfl rfl (us := [v, v2]) X1 (hg.keeps k) (hb.keeps k) hbb hn mself hx1 hnx lk lc ls rfl (by rw [sizeLine_eq]; exact (by decide : 2 ≤ 16777216)) (fun s1 Q1 hn1 hq1 => ?_) rfl rfl hxL (fun h2 t1 tk k2 e2 hn2 sz2 => ?_) (pl := pl) hev' (hsw1 ..))
  · show wpAny _ _ (spliced ((false, eval (.Name f q1) _) :: (false, eval (.Name g q2) _) :: [])) _ _ _
    exact Calls.spliced_cons (ESX.ldL (env := ksEnv q (scope2 f g) s.heap.objs.size fI (.ref cda) cc) hn1 mf (Calls.spliced_cons (ESX.ldL (env := ksEnv q (scope2 f g) s.heap.objs.size fI (.ref cda) cc) hn1 mg2 (Calls.spliced_nil hq1) rfl lg hgd)) rfl lf hd)
  have X2 : K.In h2 := fun b o e => k2 b o (fun z => by rw [z] at e; rw [hnx] at e; cases e) (X1 b o e)
  refine ks_wpAt_execs_cons (ks_wpAt_Assign_Attr ?_ (hsw2 ..))
  refine wpAt_of_wpAny (ESX.ldL (env := ksEnv q (scope2 f g) s.heap.objs.size fI (.ref cda) cc) hn2 mf ?_ rfl lf hd)
  refine ESX.ldL (env := ksEnv q (scope2 f g) s.heap.objs.size fI (.ref cda) cc) hn2 mself ?_ rfl ls (by decide)
  refine set_plain X2 (ox := excO C t1) (od := none) (ex_ref e2) T.sa ?_
  refine exc_osa X2 e2 hcl (show refsVE (.ref C :: bm) = true from hbm) rfl (T.no f hf) (fun h3 tk3 dx k3 dn dne hx3 hn3 => ?_)
  have X3 : K.In h3 := fun b o e => k3 b o (fun z => by rw [z] at e; rw [hnx] at e; cases e) (X2 b o e)
  have hn3' : h3.Ns s.heap.objs.size (fun y => ([((g : Str), v2), ((f : Str), v), (("self" : Str), Value.ref x)] : List (Str × Value)).lookup y) := by
    obtain ⟨oL, es', ep, hL, r⟩ := hn2
    exact ⟨oL, es', ep, k3 _ _ (Ne.symm hxL) hL, r⟩
  refine ks_wpAt_execs_cons (ks_wpAt_Assign_Attr ?_ (hsw3 ..))
  refine wpAt_of_wpAny (ESX.ldL (env := ksEnv q (scope2 f g) s.heap.objs.size fI (.ref cda) cc) hn3' mg2 ?_ rfl lg hgd)
  refine ESX.ldL (env := ksEnv q (scope2 f g) s.heap.objs.size fI (.ref cda) cc) hn3' mself ?_ rfl ls (by decide)
  obtain ⟨od1, es1, ep1, hod1, _⟩ := id hn3
  refine set_plain X3 (ox := { cls := .ref C, dict := some dx, data := .fields #[.ref t1, .none, .none, .none, .bool false, .none] }) (od := some od1) ⟨hx3, rfl, rfl, hod1⟩ T.sa ?_
  refine PySem.OEX.osa_old X3 hx3 hn3 (nl := [f]) (fun y hy => ?_) (by show 1 ≤ 1000; decide) hcl (show refsVE (.ref C :: bm) = true from hbm) rfl (T.no g hg1) (fun h4 tk4 k4 hn4 => ?_)
  · by_cases e : y = f
    · subst e; exact List.mem_singleton_self _
    · rw [if_neg e] at hy; exact absurd rfl hy
  refine wpAt_of_wpAny (wpAny_execs_nil ?_)
  have z : s.heap.objs.size < h1.objs.size := hn.lt
  have sz2' : h1.objs.size ≤ h2.objs.size := sz2
  have dn2 : h2.objs.size ≤ dx := dn
  have dn' : s.heap.objs.size ≤ dx := by omega
  refine hq h4 tk4 dx ⟨fun b o nb e => k4 b o (fun eb => ?_) (k3 b o nb (k2 b o nb (k b o e))), ⟨t1, k4 _ _ (Ne.symm dne) hx3⟩, dn', dne, hn4⟩
  subst eb
  exact absurd (Heap.lt_size e) (Nat.not_lt_of_le dn')
end
end DLX

set_option Elab.async false
set_option linter.all false
set_option maxRecDepth 100000
set_option maxHeartbeats 4000000
namespace DLX
open PySem PySem.W PySem.Calls PyProof.Rows PySem.HandSPX
/-- __init__ of such a class does its work -/
def InitOk (prog : Program) (w : World) (K : Frag) (mg : Str → Option Value) (C fI : Addr) (n : Nat) (mA : List Value → Str → Option Value) : Prop :=
  ∀ (A : Around) (R : Result → Shared → Prop) (s : Shared) (mb : Str → Option Value) (x t0 : Addr) (us : List Value), us.length = n → K.In s.heap → s.heap.NoLimit → s.heap.Ns mainGlobals mg → s.heap.Ns builtinsNs mb → (∀ y : Str, y ≠ "__name__" → mb y = bootBuiltins y) →
    s.heap.get? x = some (excO C t0) → K.lookup x = none → A.depth < recursionLimit → (∀ h' tk dx, End s.heap h' x C dx (mA us) → R (.ok (.ret .none)) { s with heap := h', toks := tk }) → codeAny (model prog w) A (.call (.ref fI) ⟨.ref x :: us, []⟩) R s
/-- a made exception of the class -/
structure Made (h h' : Heap) (e C d : Addr) (mA : Str → Option Value) : Prop where
  keep : ∀ b o, h.get? b = some o → h'.get? b = some o
  new : h.objs.size ≤ e
  obj : ∃ oe vs, h'.get? e = some oe ∧ oe.cls = .ref C ∧ oe.dict = some d ∧ oe.data = .fields vs ∧ vs[1]? = some .none
  dbig : h.objs.size ≤ d
  dne : d ≠ e
  ns : h'.Ns1 d mA
section
variable {prog : Program} {w : World} {A : Around} {E : Value → Shared → Prop} {R : Result → Shared → Prop} {K : Frag} {mg : Str → Option Value} {c : Str} {C fI : Addr} {fs : List Str} {n : Nat} {mA : List Value → Str → Option Value}
theorem held_made (T : Cl prog K mg c C fI fs) (In : InitOk prog w K mg C fI n mA) {s : Shared} {mb : Str → Option Value} {us : List Value} (hn : us.length = n) (hz : us.length ≤ sizeLine) (X : K.In s.heap) (hlim : s.heap.NoLimit) (hg : s.heap.Ns mainGlobals mg) (hb : s.heap.Ns builtinsNs mb) (hbb : ∀ y : Str, y ≠ "__name__" → mb y = bootBuiltins y) (hroom : A.depth + 1 < recursionLimit)
    (hq : ∀ h' tk e d, Made s.heap h' e C d (mA us) → R (.ok (.ret (.ref e))) { s with heap := h', toks := tk }) : codeAny (model prog w) A (.call (.ref C) ⟨us, []⟩) R s := by
  obtain ⟨nm, q, N, bs, bm, sn, sub, ab, col, dd, k0, k1, k2, k3, k5, hC, hbm⟩ := T.cls
  obtain ⟨hp, g, dr, tk, os⟩ := s
  have k : ∀ b o, hp.get? b = some o → ((hp.push (kdv_tup us)).push (excO C hp.objs.size)).get? b = some o := fun b o e => Heap.get?_push_of_some _ (Heap.get?_push_of_some _ e)
  have hget : ((hp.push (kdv_tup us)).push (excO C hp.objs.size)).get? (hp.objs.size + 1) = some (excO C hp.objs.size) := by heap_get
  have hnx : K.lookup (hp.objs.size + 1) = none := by
    cases e : K.lookup (hp.objs.size + 1) with
    | none => rfl
    | some o =>
      have z := Heap.lt_size (show hp.get? (hp.objs.size + 1) = some o from X _ _ e)
      exact absurd (Nat.lt_of_succ_lt z) (Nat.lt_irrefl _)
  refine call_own F.excBase_ValueError (fun X => refsVE_contains X bm hbm) (X _ _ hC) (looks_findIn X T.iC) (fun self => bind_fn X self T.tC) hz ?_
  refine In _ _ ⟨(hp.push (kdv_tup us)).push (excO C hp.objs.size), g, dr, tk, os⟩ mb _ _ us hn (X.keeps k) (hlim.keeps k) (hg.keeps k) (hb.keeps k) hbb hget hnx hroom fun h' tk' dx ⟨k', ⟨t, hx⟩, dn, dne, hns⟩ => ?_
  have old : ∀ b o, hp.get? b = some o → h'.get? b = some o := fun b o e => k' b o (Nat.ne_of_lt (Nat.lt_succ_of_lt (Heap.lt_size e))) (k b o e)
  have z : hp.objs.size + 1 + 1 ≤ dx := by
    have q := dn
    rw [Heap.size_push, Heap.size_push] at q
    exact q
  exact ⟨rfl, hq h' tk' (hp.objs.size + 1) dx ⟨old, Nat.le_succ _, ⟨_, _, hx, rfl, rfl, rfl, rfl⟩, Nat.le_trans (Nat.le_trans (Nat.le_succ _) (Nat.le_succ _)) z, dne, hns⟩⟩
end
end DLX
namespace DL
open PySem L2 PySem.W
section
variable {X : Cx} {c : Str} {C fI : Addr} {fs : List Str} {mA : List Value → Str → Option Value}
/-- C(e, ..), an exception of ours with the fields fs -/
def tMkH (C : Addr) (fs : List Str) (ta : TA) : St → Hp → XK → Prop := fun σ H Q => ta σ H fun vs H1 => vs.length = fs.length ∧ ∀ d, H1 d = none → Q (.ref C) (some d) (upd H1 d (.xd (fs.zip vs)))
theorem pmk_held {e : Expr} {es : List Expr} {ta : TA} {p pos : Pos} (T : DLX.Cl X.prog X.K X.mg c C fI fs) (In : DLX.InitOk X.prog X.w X.K X.mg C fI fs.length mA) (hrel : ∀ (vs : List V) (us : List Value), vs.length = fs.length → Vals vs us → ∀ f, RelO ((fs.zip vs).lookup f) (mA us f)) (hfs : fs.length ≤ 10)
    (hr : X.A.depth + 2 < recursionLimit) (ha : PA X (e :: es) ta) (hg : Gl X c) (hdb : (c == ("__debug__" : Str)) = false := by decide)
    (he : starEach (e :: es) X.env = (false, eval e X.env) :: starEach es X.env := by rfl) (hpl : (backTo pos (starEach es X.env)).any (·.1) = false := by rfl) : PMk X (.Call (.Name c p) (e :: es) [] pos) (tMkH C fs ta) := by
  intro pins s σ H Q I h
  refine wpAny_Call_Name_kw (ld_glob I hg T.gC ?_ hdb)
  refine PySem.W.callWith_K (h₀ := X.base) I.ok.mod.kin T.kC (thn (ha.run pos pins s σ H _ I h) fun us s1 ⟨vs, H1, I1, r1, hl, q1⟩ => ⟨I1.kIn, ?_⟩) he hpl
  have hlim := I1.nolimit
  have M1 := I1.mod
  obtain ⟨mb, hb1, hb2⟩ := M1.blt
  have kp : ∀ b o, X.base.get? b = some o → s1.heap.get? b = some o := I1.bk
  have hgN := M1.glob.keeps kp
  have hbN := hb1.keeps kp
  obtain ⟨hp, g, dr, tk, os⟩ := s1
  have hul : us.length = fs.length := r1.length.symm.trans hl
  refine wpAny_call (DLX.held_made T In hul (by show us.length ≤ sizeLine; rw [hul, sizeLine_eq]; omega) I1.kIn hlim hgN hbN hb2 (by omega) fun h' tk' e d Md => ?_)
  show MkP X pins σ Q (.ref e) ⟨h', g, dr, tk', os⟩
  obtain ⟨oe, fv, hoe, hc, hd, hdat, h1⟩ := Md.obj
  have hns := Md.ns
  obtain ⟨G', g1, g2⟩ := restrict h' fun b => decide (b ≠ e)
  have gk : ∀ b, b ≠ e → G'.get? b = h'.get? b := fun b hb => g1 b (decide_eq_true hb)
  have ge : G'.get? e = none := g2 e (by simp)
  have old : ∀ b o, hp.get? b = some o → G'.get? b = some o := fun b o q => (gk b (Nat.ne_of_lt (Nat.lt_of_lt_of_le (Heap.lt_size q) Md.new))).trans (Md.keep b o q)
  have ob : ObjOk X.prog X.w (upd H1 d (.xd (fs.zip vs))) G' d (.xd (fs.zip vs)) := ⟨_, hns.at (fun o q => (gk d Md.dne).trans q), fun f => hrel vs us hl r1 f⟩
  have J : Inv X pins σ (upd H1 d (.xd (fs.zip vs))) ⟨G', g, dr, tk', os⟩ := I1.laid (t' := tk') old Md.dbig ob
  refine ⟨e, oe, fv, ⟨G', g, dr, tk', os⟩, _, .ref C, some d, rfl, J, fun b o q => ?_, ge, hoe, ⟨hc, hd⟩, hdat, h1, ?_, rfl, I1.bare, raises_own T.exC T.tyC, q1 d (I1.hok.fresh Md.dbig)⟩
  · by_cases hb : b = e
    · have q' : G'.get? b = some o := q
      rw [hb, ge] at q'; cases q'
    · exact (gk b hb).symm.trans q
  · rw [upd_ne (Ne.symm Md.dne)]
    exact I1.hok.fresh Md.new
/-- raise C(e, ..) -/
def sraise (c : Str) (fs : List Str) (f : List Sl → RE (List D)) : List Sl → RS := fun r => (f r).s fun ds r1 => if ds.length = fs.length then .exn ⟨c, fs, ds⟩ r1 else .bad
variable {J : Jx}
theorem s_raise {e : Expr} {es : List Expr} {f : List Sl → RE (List D)} {p pos pos2 : Pos} (hmg : X.mg = J.G.mg) (hc : X.calm = true) (tk : Takes X J.W) (T : DLX.Cl X.prog X.K X.mg c C fI fs) (In : DLX.InitOk X.prog X.w X.K X.mg C fI fs.length mA)
    (hrel : ∀ (vs : List V) (us : List Value), vs.length = fs.length → Vals vs us → ∀ f, RelO ((fs.zip vs).lookup f) (mA us f)) (hfs : fs.length ≤ 10) (hr : X.A.depth + 2 < recursionLimit) (ha : PA X (e :: es) (tA J f)) (hg : Gl X c) (hdb : (c == ("__debug__" : Str)) = false := by decide)
    (he : starEach (e :: es) X.env = (false, eval e X.env) :: starEach es X.env := by rfl) (hpl : (backTo pos (starEach es X.env)).any (·.1) = false := by rfl) : PS X (.Raise (some (.Call (.Name c p) (e :: es) [] pos)) none pos2) (tS J (sraise c fs f)) :=
  PSi (ps_raise hc tk (pmk_held T In hrel hfs hr ha hg hdb he hpl)) fun E σ H ⟨M, r, I, h⟩ => ⟨M, r, I, Out.s h fun ds r1 vs M1 H1 st1 I1 rd1 h1 => by
    split at h1
    · rename_i hl
      refine ⟨by rw [← rd1.length]; exact hl, fun d hd => ?_⟩
      have ex := ext_new (H := H1) (o := .xd (fs.zip vs)) hd
      refine h1 (.ref C) (some d) M1 σ _ (Step.ext ex) (I1.ext ex) ⟨C, by rw [← hmg]; exact T.gC, rfl, vs, by rw [← rd1.length]; exact hl.symm, RepL.step (Step.ext ex) I1.md _ _ rd1, .inr ⟨d, rfl, upd_same⟩⟩
    · exact h1.elim⟩
end
end DL

set_option Elab.async false
set_option linter.all false
set_option maxRecDepth 100000
set_option maxHeartbeats 4000000
namespace DL
open PySem L2
open PyProof.Rows

/-- a def's promise, called where no guard is up (repr of an object asks it) -/
structure FnG (P : Program) (w : World) (K : PySem.W.Frag) (mg : Str → Option Value) (base : Heap) (k : Nat) (f : Addr) (fd : FuncData) (ps : List Str) (sp : Sp) : Prop where
  len : ∀ vs H Q E, sp vs H Q E → vs.length = ps.length
  run : ∀ (A : Around) (outer : List Env) (s : Shared) (H : Hp) (args : Args) (us : List Value) (vs : List V) (Q : VK) (E : XK), Room k A → A.guards = some [] → Env0 P w K mg base A outer s H → BindsTo s fd args (ps.zip us) →
    Vals vs us → sp vs H Q E → codeAny (model P w) A (.call (.ref f) args) (CR (L2.CX P w) outer P w H s Q E) s
section
variable {P : Program} {w : World} {K : PySem.W.Frag} {mg : Str → Option Value} {base : Heap}
theorem fnG_of {k : Nat} {f : Addr} {x qual : Str} {st : Stmt} {fd : FuncData} {N ps : List Str} {sp : Sp} (F : Fun K x qual st f fd) (S : FnScope N ps (defScope st)) (len : ∀ vs H Q E, sp vs H Q E → vs.length = ps.length)
    (hbody : ∀ (cdv : Value) (A : Around) (outer : List Env) (s : Shared) (H : Hp) (vs : List V) (Q : VK) (E : XK), Room k (A.deeper (envOfC qual (defScope st) s.heap.objs.size f cdv)) → A.guards = some [] → sp vs H Q E →
      ∃ t, PSs (cxOf (L2.CX P w) P w K mg base N qual (defScope st) f cdv A outer s H E) (defBody st) t ∧ t { nx := fun _ H' => Q .non H', rt := Q } (L2.start N vs) H) : FnG P w K mg base (k + 1) f fd ps sp := by
  obtain ⟨oc, od, kV, doc, pm, an, cdv, ct, osl, rfl, lk, hcd⟩ := F.ex
  constructor
  · exact len
  intro A outer s H args us vs Q E hr hgd e0 hb r hsp
  have kp : ∀ b o, base.get? b = some o → s.heap.get? b = some o := fun b o e => (e0.bs b o e).1
  have KX : K.In s.heap := e0.mod.kin.keeps kp
  have hkind : ∀ y ∈ ps.zip us, (defScope st).names.lookup y.1 = some .local ∨ ((defScope st).names.lookup y.1 = some .cell ∧
      ((cellsFrom (s.heap.objs.size + 1) (defScope st).names []).lookup y.1).isSome = true) := by
    rintro ⟨n, v⟩ hy
    exact (S.par n (List.of_mem_zip hy).1).elim .inl fun q => .inr ⟨q, PySem.W.cellsFrom_some _ _ _ (.inl q)⟩
  refine codeAny_call_function hr.depth (KX _ _ lk) rfl S.co S.gen rfl (PySem.W.codeRec_of KX hcd) (hb _ _ _ _ (wpAny_newFunctionEnv_cells S.kind hkind fun env he s1 y => ?_))
  subst he
  obtain ⟨t, ht, hq⟩ := hbody cdv A outer s H vs Q E (hr.deeper _) hgd hsp
  have I := inv_start (CX := L2.CX P w) (E := E) S hr.hd e0 (len _ _ _ _ hsp) r y
  refine ⟨(e0.mod.nolimit.keeps kp).keeps y.toInCall.keep, codeAny_func (wpAny_mono (ht.run [] s1 (L2.start N vs) H _ I hq) (fun fl s' hs => ?_) fun e s' hs => hs)⟩
  match fl, hs with
  | .ret u, ⟨v, σ', H', J, rv, q⟩ => exact ⟨v, H', J.os, J.bare, J.base, J.hok, rv, q⟩
  | .next, ⟨σ', H', J, q⟩ => exact ⟨.non, H', J.os, J.bare, J.base, J.hok, rfl, q⟩
  | .brk, ⟨_, _, _, q⟩ => exact q.elim
  | .cont, ⟨_, _, _, q⟩ => exact q.elim
theorem FnG.mono {j k : Nat} {f : Addr} {fd : FuncData} {ps : List Str} {sp : Sp} (F : FnG P w K mg base j f fd ps sp) (h : j ≤ k) : FnG P w K mg base k f fd ps sp :=
  ⟨F.len, fun A outer s H args us vs Q E hr => F.run A outer s H args us vs Q E (hr.mono h)⟩
end
section
variable {X : Cx} {k : Nat} {f C : Addr} {fd : FuncData} {ps : List Str} {sp : Sp} {W : WX} {x m : Str} {p pos apos : Pos} {e o : Expr} {es : List Expr} {ta : TE} {t : TA} {ds : List Value} {dvs : List V}
/-- the callee runs; what it lets out is wished for at the slots -/
theorem run_fnG {pins : List (Addr × Obj)} {σ : L2.St} {H : Hp} {s : Shared} {Q : VK} {us : List Value} {vs : List V} (F : FnG X.prog X.w X.K X.mg X.base k f fd ps sp) (hr : Room k X.A) (hgd : X.A.guards = some []) (hb : Binds X.K fd ps ds) (hd : Vals dvs ds) (tk : Takes X W)
    (I : L2.Inv X pins σ H s) (r : Vals vs us) (h : sp (vs ++ dvs) H Q (WE W σ)) : wpAny (model X.prog X.w) X.A (PySem.call (.ref f) us) (EP X pins σ Q) X.xe s := by
  have r2 := r.append hd
  have hl : (us ++ ds).length = ps.length := r2.length.symm.trans (F.len _ _ _ _ h)
  refine wpAny_call (codeAny_mono (F.run X.A X.stack s H _ _ _ Q _ hr hgd I.env0 (hb s us I.kIn hl) r2 h) fun q s' hq => ?_)
  match q, hq with
  | .error e, hq => exact passAt tk σ pins H s e s' I hq
  | .ok (.ret u), hq => exact I.after hq
  | .ok .next, hq => exact hq.elim
  | .ok .brk, hq => exact hq.elim
  | .ok .cont, hq => exact hq.elim
def tCallG (sp : Sp) (dvs : List V) (W : WX) (t : TA) : TE := fun σ H Q => t σ H fun vs H1 => sp (vs ++ dvs) H1 Q (WE W σ)
theorem pe_callG (F : FnG X.prog X.w X.K X.mg X.base k f fd ps sp) (hr : Room k X.A) (hgd : X.A.guards = some []) (hg : Gl X x) (hm : X.mg x = some (.ref f)) (hk : PySem.W.keepIn X.K (.ref f) = true) (hb : Binds X.K fd ps ds) (hd : Vals dvs ds) (tk : Takes X W)
    (ha : PA X (e :: es) t) (hdb : (x == ("__debug__" : Str)) = false := by decide) (he : starEach (e :: es) X.env = (false, eval e X.env) :: starEach es X.env := by rfl) (hpl : (backTo pos (starEach es X.env)).any (·.1) = false := by rfl) :
    PE X (.Call (.Name x p) (e :: es) [] pos) (tCallG sp dvs W t) :=
  ⟨fun pins s σ H Q I h => wpAny_Call_Name_kw (ld_glob I hg hm (PySem.W.callWith_K (h₀ := X.base) I.ok.mod.kin hk
    (thn (ha.run pos pins s σ H _ I h) fun us s1 ⟨vs, H1, I1, r, q⟩ => ⟨I1.kIn, run_fnG F hr hgd hb hd tk I1 r q⟩) he hpl) hdb)⟩
theorem pe_call0G (F : FnG X.prog X.w X.K X.mg X.base k f fd ps sp) (hr : Room k X.A) (hgd : X.A.guards = some []) (hg : Gl X x) (hm : X.mg x = some (.ref f)) (hk : PySem.W.keepIn X.K (.ref f) = true) (hb : Binds X.K fd ps ds) (hd : Vals dvs ds) (tk : Takes X W) (hdb : (x == ("__debug__" : Str)) = false := by decide) :
    PE X (.Call (.Name x p) [] [] pos) (tCallG sp dvs W tNil) :=
  ⟨fun pins s σ H Q I h => wpAny_Call_Name_kw (ld_glob I hg hm (PySem.W.callWith_K0 I.kIn hk (run_fnG (us := []) (vs := []) F hr hgd hb hd tk I .nil h)) hdb)⟩
/-- o.m(e, ..) -/
def tMethG (C : Addr) (m : Str) (sp : Sp) (dvs : List V) (W : WX) (ta : TE) (t : TA) : TE := fun σ H Q => ta σ H fun x H1 => ∃ a dx fs, x = .ref a ∧ H1 a = some (.ins C dx fs) ∧ fs.lookup m = none ∧ t σ H1 fun vs H2 => sp (x :: (vs ++ dvs)) H2 Q (WE W σ)
theorem pe_methG {pl : Sem Bool} (he : PE X o ta) (c : Cls X.K C) (hm : Meth X.K C m f) (F : FnG X.prog X.w X.K X.mg X.base k f fd ps sp) (hr : Room k X.A) (hgd : X.A.guards = some []) (hb : Binds X.K fd ps ds) (hd : Vals dvs ds) (tk : Takes X W) (ha : PA X (e :: es) t)
    (hst : starEach (e :: es) X.env = (false, eval e X.env) :: starEach es X.env := by rfl) (hpl : (backTo pos (starEach es X.env)).any (·.1) = false := by rfl)
    (ht : eval (.Call (.Attribute o m apos) (e :: es) [] pos) X.env = (do let ov ← eval o X.env; standAt apos.atName; let (f, first) ← holding [ov] (getMethod ov m pl); callWith pos f first (backTo pos (starEach (e :: es) X.env)) (backToKw pos (keywordEach [] X.env))) := by rfl) :
    PE X (.Call (.Attribute o m apos) (e :: es) [] pos) (tMethG C m sp dvs W ta t) := by
  constructor
  intro pins s σ H Q I h
  refine PySem.W.methodCall_KW (pl := pl) (thn (he.run pins s σ H _ I h) fun u s1 hh => ?_) ht
  obtain ⟨x, H1, I1, rx, a, dx, fs, ex, ea, l, q⟩ := hh
  subst ex
  obtain rfl : u = Value.ref a := rx
  exact getmeth_ok I1 ea c hm l (PySem.W.callWith_K (first := [.ref a]) (h₀ := X.base) I.ok.mod.kin hm.kp (thn (ha.run pos pins s1 σ H1 _ I1 q) fun us s2 ⟨vs, H2, I2, r, q2⟩ =>
    ⟨I2.kIn, run_fnG (us := .ref a :: us) (vs := .ref a :: vs) F hr hgd hb hd tk I2 (.cons rfl r) q2⟩) hst hpl)
theorem pe_meth0G {pl : Sem Bool} (he : PE X o ta) (c : Cls X.K C) (hm : Meth X.K C m f) (F : FnG X.prog X.w X.K X.mg X.base k f fd ps sp) (hr : Room k X.A) (hgd : X.A.guards = some []) (hb : Binds X.K fd ps ds) (hd : Vals dvs ds) (tk : Takes X W)
    (ht : eval (.Call (.Attribute o m apos) [] [] pos) X.env = (do let ov ← eval o X.env; standAt apos.atName; let (f, first) ← holding [ov] (getMethod ov m pl); callWith pos f first (backTo pos (starEach [] X.env)) (backToKw pos (keywordEach [] X.env))) := by rfl) :
    PE X (.Call (.Attribute o m apos) [] [] pos) (tMethG C m sp dvs W ta tNil) := by
  constructor
  intro pins s σ H Q I h
  refine PySem.W.methodCall_KW (pl := pl) (thn (he.run pins s σ H _ I h) fun u s1 hh => ?_) ht
  obtain ⟨x, H1, I1, rx, a, dx, fs, ex, ea, l, q⟩ := hh
  subst ex
  obtain rfl : u = Value.ref a := rx
  exact getmeth_ok I1 ea c hm l (PySem.W.callWith_K0 (first := [.ref a]) I1.kIn hm.kp (run_fnG (us := [.ref a]) (vs := [.ref a]) F hr hgd hb hd tk I1 (.cons rfl .nil) q))
/-- C(e, ..): a new instance, then __init__ -/
def tMakeG (C : Addr) (sp : Sp) (dvs : List V) (W : WX) (t : TA) : TE := fun σ H Q => t σ H fun vs H1 => ∀ x dx, H1 x = none → H1 dx = none → dx ≠ x → sp (.ref x :: (vs ++ dvs)) (upd (upd H1 dx (.own x)) x (.ins C dx [])) (fun v H2 => v = .non ∧ Q (.ref x) H2) (WE W σ)
theorem run_makeG {pins : List (Addr × Obj)} {σ : L2.St} {H : Hp} {s : Shared} {Q : VK} {us : List Value} {vs : List V} (M : Mk X.K C f) (F : FnG X.prog X.w X.K X.mg X.base k f fd ps sp) (hr : Room (k + 1) X.A) (hgd : X.A.guards = some []) (hb : Binds X.K fd ps ds) (hd : Vals dvs ds) (tk : Takes X W) (I : L2.Inv X pins σ H s) (r : Vals vs us)
    (h : ∀ x dx, H x = none → H dx = none → dx ≠ x → sp (.ref x :: (vs ++ dvs)) (upd (upd H dx (.own x)) x (.ins C dx [])) (fun v H2 => v = .non ∧ Q (.ref x) H2) (WE W σ)) : wpAny (model X.prog X.w) X.A (PySem.call (.ref C) us) (EP X pins σ Q) X.xe s := by
  have hq := h (s.heap.objs.size + 1) s.heap.objs.size (I.hok.fresh (Nat.le_succ _)) (I.hok.fresh (Nat.le_refl _)) (Nat.ne_of_lt (Nat.lt_succ_self _))
  have I2 := Inv.made (C := C) I
  have r2 : Vals (V.ref (s.heap.objs.size + 1) :: (vs ++ dvs)) (Value.ref (s.heap.objs.size + 1) :: (us ++ ds)) := .cons rfl (r.append hd)
  have hl : (Value.ref (s.heap.objs.size + 1) :: us ++ ds).length = ps.length := r2.length.symm.trans (F.len _ _ _ _ hq)
  have hg2 : (X.A.under (.builtin "type.__call__" ⟨.ref C :: us, []⟩)).guards = some [] := by unfold Around.under; simp only [hgd]; rfl
  have run := F.run (X.A.under (.builtin "type.__call__" ⟨.ref C :: us, []⟩)) X.stack _ _ ⟨Value.ref (s.heap.objs.size + 1) :: us, []⟩ _ _ _ _ (hr.make C us []) hg2 (I2.env0.make C us []) (hb _ (Value.ref (s.heap.objs.size + 1) :: us) I2.kIn hl) r2 hq
  refine wpAny_call (make_map (f := f) I.kIn M.makes M.init (beq_iff_eq.mp M.fn) (codeAny_mono run fun q s' hq' => ?_))
  match q, hq' with
  | .error e, hq' => exact passAt tk σ pins _ _ e s' I2 hq'
  | .ok (.ret u), hq' =>
    obtain ⟨v, H', I3, rv, ev, q3⟩ := I2.after hq'
    subst ev
    exact ⟨rv, ⟨V.ref (s.heap.objs.size + 1), H', I3, rfl, q3⟩⟩
  | .ok .next, hq' => exact hq'.elim
  | .ok .brk, hq' => exact hq'.elim
  | .ok .cont, hq' => exact hq'.elim
theorem pe_makeG (M : Mk X.K C f) (F : FnG X.prog X.w X.K X.mg X.base k f fd ps sp) (hr : Room (k + 1) X.A) (hgd : X.A.guards = some []) (hg : Gl X x) (hm : X.mg x = some (.ref C)) (hb : Binds X.K fd ps ds) (hd : Vals dvs ds) (tk : Takes X W)
    (ha : PA X (e :: es) t) (hdb : (x == ("__debug__" : Str)) = false := by decide) (he : starEach (e :: es) X.env = (false, eval e X.env) :: starEach es X.env := by rfl) (hpl : (backTo pos (starEach es X.env)).any (·.1) = false := by rfl) :
    PE X (.Call (.Name x p) (e :: es) [] pos) (tMakeG C sp dvs W t) :=
  ⟨fun pins s σ H Q I h => wpAny_Call_Name_kw (ld_glob I hg hm (PySem.W.callWith_K (h₀ := X.base) I.ok.mod.kin M.kp
    (thn (ha.run pos pins s σ H _ I h) fun us s1 ⟨vs, H1, I1, r, q⟩ => ⟨I1.kIn, run_makeG M F hr hgd hb hd tk I1 r q⟩) he hpl) hdb)⟩
theorem pe_make0G (M : Mk X.K C f) (F : FnG X.prog X.w X.K X.mg X.base k f fd ps sp) (hr : Room (k + 1) X.A) (hgd : X.A.guards = some []) (hg : Gl X x) (hm : X.mg x = some (.ref C)) (hb : Binds X.K fd ps ds) (hd : Vals dvs ds) (tk : Takes X W) (hdb : (x == ("__debug__" : Str)) = false := by decide) :
    PE X (.Call (.Name x p) [] [] pos) (tMakeG C sp dvs W tNil) :=
  ⟨fun pins s σ H Q I h => wpAny_Call_Name_kw (ld_glob I hg hm (PySem.W.callWith_K0 I.kIn M.kp (run_makeG (us := []) (vs := []) M F hr hgd hb hd tk I .nil h)) hdb)⟩
end
end DL

set_option Elab.async false
set_option linter.all false
set_option maxRecDepth 100000
set_option maxHeartbeats 4000000
namespace DL
open PySem L2
open PyProof.Rows (envOfC)

/-! ### the promise of a def -/
def okF (r : RF) (A : D → D → Prop) (B : Xn → D → Prop) : Prop := match r with
  | .ok d io => A d io
  | .exn x io => B x io
  | .bad => False
theorem okF_ne {r : RF} {A : D → D → Prop} {B : Xn → D → Prop} (h : okF r A B) : r ≠ .bad := fun e => by subst e; exact h
def spP (G : Gm) (F : List D → RF) : Sp := fun vs H Q E => ∃ M ds, MD M H ∧ RepL G M H ds vs ∧
  okF (F ds) (fun d _ => ∀ v H', Extn H H' → Rep G M H' d v → Q v H') (fun x _ => ∀ cls dd H', Extn H H' → RepX G M H' x cls dd → E cls dd H')
/-- .. whose first parameter is changed in place -/
def spI (G : Gm) (F : List D → RF) : Sp := fun vs H Q E => ∃ M a o ws ds, vs = .ref a :: ws ∧ MD M H ∧ M a ∧ OwnAt G M H a o ∧ RepL G M H ds ws ∧
  okF (F (o :: ds)) (fun d io => ∀ v H', (∀ b u, H b = some u → b ≠ a → H' b = some u) → MD M H' → OwnAt G M H' a io → Rep G M H' d v → Q v H')
    (fun x io => ∀ cls dd H', (∀ b u, H b = some u → b ≠ a → H' b = some u) → MD M H' → OwnAt G M H' a io → RepX G M H' x cls dd → E cls dd H')
def runP (n np : Nat) (f : List Sl → RS) : List D → RF := fun ds => if ds.length = np then (match f (ds.map .val ++ List.replicate (n - np) .un) with
  | .nx _ => .ok .non .non
  | .rt d _ => .ok d .non
  | .exn x _ => .exn x .non
  | _ => .bad) else .bad
def ioOf (r : List Sl) (k : D → RF) : RF := match r with
  | .io d :: _ => k d
  | _ => .bad
def runI (n np : Nat) (f : List Sl → RS) : List D → RF := fun ds => if ds.length = np then (match ds with
  | o :: ds => (match f (.io o :: ds.map .val ++ List.replicate (n - np) .un) with
    | .nx r => ioOf r fun io => .ok .non io
    | .rt d r => ioOf r fun io => .ok d io
    | .exn x r => ioOf r fun io => .exn x io
    | _ => .bad)
  | _ => .bad) else .bad
/-! less owned is less wanted -/
section
variable {G : Gm} {M M' : Addr → Prop} {H : Hp}
mutual
theorem Rep.anti (h : ∀ b, M b → M' b) : ∀ (d : D) (v : V), Rep G M' H d v → Rep G M H d v
  | .non, _, q => q
  | .bl _, _, q => q
  | .int _, _, q => q
  | .str _, _, q => q
  | .tup xs, _, ⟨a, vs, e, q, r⟩ => ⟨a, vs, e, q, RepL.anti h xs vs r⟩
  | .lst xs, _, ⟨a, vs, e, n, q, r⟩ => ⟨a, vs, e, fun m => n (h _ m), q, RepL.anti h xs vs r⟩
  | .dct ks ds, _, ⟨a, vs, e, n, q, r⟩ => ⟨a, vs, e, fun m => n (h _ m), q, RepL.anti h ds vs r⟩
  | .ob c ns ds, _, ⟨a, C, dx, vs, e, n, hc, q, l, r⟩ => ⟨a, C, dx, vs, e, fun m => n (h _ m), hc, q, l, RepL.anti h ds vs r⟩
  | .fn c, _, q => q
  | .scr ns, _, ⟨a, e, q⟩ => ⟨a, e, q.elim (fun z => .inl ⟨fun m => z.1 (h _ m), z.2⟩) .inr⟩
theorem RepL.anti (h : ∀ b, M b → M' b) : ∀ (ds : List D) (vs : List V), RepL G M' H ds vs → RepL G M H ds vs
  | [], _, q => q
  | d :: ds, _, ⟨v, ws, e, q, r⟩ => ⟨v, ws, e, Rep.anti h d v q, RepL.anti h ds ws r⟩
end
theorem OwnAt.anti (h : ∀ b, M b → M' b) {a : Addr} : ∀ {d : D}, OwnAt G M' H a d → OwnAt G M H a d
  | .lst xs, ⟨vs, q, r⟩ => ⟨vs, q, RepL.anti h xs vs r⟩
  | .dct ks ds, ⟨vs, q, r⟩ => ⟨vs, q, RepL.anti h ds vs r⟩
  | .ob c ns ds, ⟨C, dx, vs, hc, q, l, r⟩ => ⟨C, dx, vs, hc, q, l, RepL.anti h ds vs r⟩
theorem RepX.anti (h : ∀ b, M b → M' b) {x : Xn} {cls : Value} {dd : Option Addr} (q : RepX G M' H x cls dd) : RepX G M H x cls dd := by
  obtain ⟨C, h1, h2, vs, h3, h4, h5⟩ := q
  exact ⟨C, h1, h2, vs, h3, RepL.anti h _ _ h4, h5⟩
theorem MD.anti (h : ∀ b, M b → M' b) (md : MD M' H) : MD M H := fun b m => md b (h b m)
end

/-- the context of a def's body -/
abbrev cxB (P : Program) (w : World) (K : PySem.W.Frag) (mg : Str → Option Value) (base : Heap) (N : List Str) (qual : Str) (st : Stmt) (f : Addr) (cdv : Value) (A : Around) (outer : List Env) (s : Shared) (H : Hp) (E : XK) : Cx :=
  cxOf (L2.CX P w) P w K mg base N qual (defScope st) f cdv A outer s H E
/-- what a body's derivation is given -/
structure BX (X : Cx) (J : Jx) (P : Program) (w : World) (base : Heap) (k : Nat) : Prop where
  prog : X.prog = P
  w : X.w = w
  base : X.base = base
  K : X.K = J.G.K
  mg : X.mg = J.G.mg
  tk : Takes X J.W
  po : PassesOwn (model X.prog X.w) X.A X.env X.xe
  room : Room k X.A
  calm : X.calm = true
  nd : X.N.Nodup
  stk : X.stack = X.env :: X.outer
  fr : X.env.frame = some X.env.locals
  gd : X.A.guards = some []
theorem BX.hu {X : Cx} {J : Jx} {P : Program} {w : World} {base : Heap} {k : Nat} (B : BX X J P w base k) : X.A.units + 64 < cLine := by have := B.room.un; omega
theorem BX.dp {X : Cx} {J : Jx} {P : Program} {w : World} {base : Heap} {k : Nat} (B : BX X J P w base k) : X.A.depth + 2 < recursionLimit := by have := B.room.dp; omega
/-- the body of the def st, read as fb -/
def BodyOk (P : Program) (w : World) (K : PySem.W.Frag) (mg : Str → Option Value) (base : Heap) (N : List Str) (qual : Str) (st : Stmt) (f : Addr) (k : Nat) (fb : List Sl → RS) : Prop :=
  ∀ (cdv : Value) (A : Around) (outer : List Env) (s : Shared) (H : Hp) (E : XK) (J : Jx), J.G = ⟨K, mg⟩ → J.hx = none → BX (cxB P w K mg base N qual st f cdv A outer s H E) J P w base k → PSs (cxB P w K mg base N qual st f cdv A outer s H E) (defBody st) (tS J fb)
section
variable {P : Program} {w : World} {K : PySem.W.Frag} {mg : Str → Option Value} {base : Heap} {x qual : Str} {st : Stmt} {f : Addr} {fd : FuncData} {N ps : List Str} {k : Nat} {fb : List Sl → RS}
theorem bx_of {cdv : Value} {A : Around} {outer : List Env} {s : Shared} {H : Hp} {E : XK} (nd : N.Nodup) (hr : Room k (A.deeper (envOfC qual (defScope st) s.heap.objs.size f cdv))) (hgd : A.guards = some []) (J : Jx) (hJ : J.G = ⟨K, mg⟩) (hW : J.W = fun cls d _ H => E cls d H) : BX (cxB P w K mg base N qual st f cdv A outer s H E) J P w base k where
  prog := rfl
  w := rfl
  base := rfl
  K := by rw [hJ]; rfl
  mg := by rw [hJ]; rfl
  tk := by rw [hW]; exact takes_of rfl rfl rfl rfl
  po := passes_of rfl
  room := hr
  calm := rfl
  nd := nd
  stk := rfl
  fr := rfl
  gd := hgd
theorem start_slot {G : Gm} {M : Addr → Prop} {H : Hp} {ds : List D} {vs : List V} {n : Nat} (r : RepL G M H ds vs) (j : Nat) (s : Sl) (h : (ds.map Sl.val ++ List.replicate n Sl.un)[j]? = some s) : s = .un ∨ ∃ d v, s = .val d ∧ (vs.map some ++ List.replicate n none)[j]? = some (some v) ∧ Rep G M H d v := by
  have hl := r.length
  by_cases hj : j < ds.length
  · rw [List.getElem?_append_left (by simpa using hj), List.getElem?_map, Option.map_eq_some_iff] at h
    obtain ⟨d, hd, rfl⟩ := h
    obtain ⟨v, hv, rv⟩ := r.get hd
    exact .inr ⟨d, v, rfl, by rw [List.getElem?_append_left (by simpa using (by omega)), List.getElem?_map, hv]; rfl, rv⟩
  · rw [List.getElem?_append_right (by simpa using (by omega))] at h
    obtain ⟨hx, e⟩ := List.getElem?_eq_some_iff.mp h
    rw [List.getElem_replicate] at e
    exact .inl e.symm
theorem runP_len {n np : Nat} {f : List Sl → RS} {ds : List D} (h : runP n np f ds ≠ .bad) : ds.length = np := by
  unfold runP at h
  split at h
  · rename_i e; exact e
  · exact absurd rfl h
theorem runI_len {n np : Nat} {f : List Sl → RS} {ds : List D} (h : runI n np f ds ≠ .bad) : ds.length = np := by
  unfold runI at h
  split at h
  · rename_i e; exact e
  · exact absurd rfl h
theorem start_len {n : Nat} {vs : List V} (h : vs.length ≤ n) : ∀ {N : List Str}, N.length = n → (L2.start N vs).length = n := fun {N} e => by
  unfold L2.start
  rw [List.length_append, List.length_map, List.length_replicate, e]
  omega
theorem fnP (F : Fun K x qual st f fd) (S : FnScope N ps (defScope st)) (hps : ps.length ≤ N.length) (B : BodyOk P w K mg base N qual st f k fb) : FnG P w K mg base (k + 1) f fd ps (spP ⟨K, mg⟩ (runP N.length ps.length fb)) := by
  refine fnG_of F S (fun vs H Q E h => ?_) (fun cdv A outer s H vs Q E hr hgd h => ?_)
  · obtain ⟨M, ds, md, r, h⟩ := h
    rw [← r.length]
    exact runP_len (okF_ne h)
  · obtain ⟨M, ds, md, r, h⟩ := h
    have hl := runP_len (okF_ne h)
    have hv : vs.length = ps.length := by rw [← r.length]; exact hl
    let J : Jx := { G := ⟨K, mg⟩, M0 := M, H0 := H, io := none, W := fun cls d _ H => E cls d H, hx := none }
    refine ⟨tS J fb, B cdv A outer s H E J rfl rfl (bx_of S.nd hr hgd J rfl rfl), M, ds.map .val ++ List.replicate (N.length - ps.length) .un, ⟨md, fun _ h => h, fun a h => (by cases h), fun _ _ h _ => h, ?_, fun j s h => ?_, fun j i s t a h1 h2 h3 h4 => ?_⟩, ?_⟩
    · rw [start_len (by omega) rfl, List.length_append, List.length_map, List.length_replicate]
      omega
    · have hst : L2.start N vs = vs.map some ++ List.replicate (N.length - ps.length) none := by unfold L2.start; rw [hv]
      rcases start_slot (G := ⟨K, mg⟩) r j s h with e | ⟨d, v, e, q, rv⟩
      · subst e; trivial
      · subst e; rw [hst]; exact ⟨v, q, rv⟩
    · rcases start_slot (G := ⟨K, mg⟩) r j s h1 with e | ⟨d, v, e, q, rv⟩ <;> subst e <;> cases h3
    · unfold runP at h
      rw [if_pos hl] at h
      have ex : ∀ {M' : Addr → Prop} {r' : List Sl} {σ' : St} {H' : Hp}, SI J M' r' σ' H' → Extn H H' := fun I b o e => I.keep b o e (by intro z; cases z)
      cases e : fb (ds.map .val ++ List.replicate (N.length - ps.length) .un) with
      | nx r' => rw [e] at h; exact fun M' σ' H' st I => h .non H' (ex I) rfl
      | rt d r' => rw [e] at h; exact fun v M' σ' H' st I rv => h v H' (ex I) (rv.anti I.m0)
      | exn x r' => rw [e] at h; exact fun cls dd M' σ' H' st I rx => h cls dd H' (ex I) (rx.anti I.m0)
      | bk r' => rw [e] at h; exact h.elim
      | ct r' => rw [e] at h; exact h.elim
      | bad => rw [e] at h; exact h.elim
theorem fnI (F : Fun K x qual st f fd) (S : FnScope N ps (defScope st)) (hps : ps.length ≤ N.length) (B : BodyOk P w K mg base N qual st f k fb) : FnG P w K mg base (k + 1) f fd ps (spI ⟨K, mg⟩ (runI N.length ps.length fb)) := by
  refine fnG_of F S (fun vs H Q E h => ?_) (fun cdv A outer s H vs Q E hr hgd h => ?_)
  · obtain ⟨M, a, o, ws, ds, e, md, m, own, r, h⟩ := h
    subst e
    have hl := runI_len (okF_ne h)
    rw [List.length_cons] at hl ⊢
    rw [← r.length]
    exact hl
  · obtain ⟨M, a, o, ws, ds, e, md, m, own, r, h⟩ := h
    subst e
    have hl := runI_len (okF_ne h)
    rw [List.length_cons] at hl
    have hv : (V.ref a :: ws).length = ps.length := by rw [List.length_cons, ← r.length]; exact hl
    let J : Jx := { G := ⟨K, mg⟩, M0 := M, H0 := H, io := some a, W := fun cls d _ H => E cls d H, hx := none }
    have hst : L2.start N (V.ref a :: ws) = some (V.ref a) :: (ws.map some ++ List.replicate (N.length - ps.length) none) := by unfold L2.start; rw [hv]; rfl
    refine ⟨tS J fb, B cdv A outer s H E J rfl rfl (bx_of S.nd hr hgd J rfl rfl), M, .io o :: (ds.map .val ++ List.replicate (N.length - ps.length) .un), ⟨md, fun _ h => h, fun b h => (by cases h; exact m), fun _ _ h _ => h, ?_, fun j s h => ?_, fun j i s t b h1 h2 h3 h4 h5 h6 => ?_⟩, ?_⟩
    · rw [start_len (by omega) rfl, List.length_cons, List.length_append, List.length_map, List.length_replicate]
      omega
    · rw [hst]
      cases j with
      | zero => cases h; exact ⟨a, rfl, m, own, rfl⟩
      | succ j =>
        rcases start_slot (G := ⟨K, mg⟩) r j s h with e | ⟨d, v, e, q, rv⟩
        · subst e; trivial
        · subst e; exact ⟨v, q, rv⟩
    · cases j with
      | zero =>
        cases i with
        | zero => rfl
        | succ i => rcases start_slot (G := ⟨K, mg⟩) r i t h2 with e | ⟨d, v, e, q, rv⟩ <;> subst e <;> cases h4
      | succ j => rcases start_slot (G := ⟨K, mg⟩) r j s h1 with e | ⟨d, v, e, q, rv⟩ <;> subst e <;> cases h3
    · have hl' : (o :: ds).length = ps.length := hl
      unfold runI at h
      rw [if_pos hl'] at h
      dsimp only at h
      have kp : ∀ {M' : Addr → Prop} {r' : List Sl} {σ' : St} {H' : Hp}, SI J M' r' σ' H' → ∀ b u, H b = some u → b ≠ a → H' b = some u := fun I b u e n => I.keep b u e (by intro z; cases z; exact n rfl)
      have io : ∀ {M' : Addr → Prop} {r' : List Sl} {σ' : St} {H' : Hp} {d : D}, SI J M' (.io d :: r') σ' H' → OwnAt J.G M H' a d := fun I => by
        obtain ⟨b, _, m', own', e⟩ := I.slot 0 _ rfl
        cases e
        exact own'.anti I.m0
      cases e : fb (.io o :: (ds.map .val ++ List.replicate (N.length - ps.length) .un)) with
      | nx r' =>
        rw [List.cons_append, e] at h
        cases r' with
        | nil => exact h.elim
        | cons s0 r' =>
          cases s0 with
          | io d => exact fun M' σ' H' st I => h .non H' (kp I) (I.md.anti I.m0) (io I) rfl
          | _ => exact h.elim
      | rt d0 r' =>
        rw [List.cons_append, e] at h
        cases r' with
        | nil => exact h.elim
        | cons s0 r' =>
          cases s0 with
          | io d => exact fun v M' σ' H' st I rv => h v H' (kp I) (I.md.anti I.m0) (io I) (rv.anti I.m0)
          | _ => exact h.elim
      | exn x r' =>
        rw [List.cons_append, e] at h
        cases r' with
        | nil => exact h.elim
        | cons s0 r' =>
          cases s0 with
          | io d => exact fun cls dd M' σ' H' st I rx => h cls dd H' (kp I) (I.md.anti I.m0) (io I) (rx.anti I.m0)
          | _ => exact h.elim
      | bk r' => rw [List.cons_append, e] at h; exact h.elim
      | ct r' => rw [List.cons_append, e] at h; exact h.elim
      | bad => rw [List.cons_append, e] at h; exact h.elim
end

/-! ### calls -/
def doF (m : RF) (r : List Sl) : RE D := match m with
  | .ok d _ => .ok d r
  | .exn x _ => .exn x r
  | .bad => .bad
def call (F : List D → RF) (fs : List Sl → RE (List D)) : List Sl → RE D := fun r => (fs r).bind fun ds r1 => doF (F ds) r1
/-- the first argument a name whose object is changed -/
def doI (i : Nat) (F : List D → RF) (ds : List D) (r : List Sl) : RE D := match r[i]? with
  | some (.own o) => (match F (o :: ds) with
    | .ok d o' => .ok d (r.set i (.own o'))
    | .exn x o' => .exn x (r.set i (.own o'))
    | .bad => .bad)
  | some (.io o) => (match F (o :: ds) with
    | .ok d o' => .ok d (r.set i (.io o'))
    | .exn x o' => .exn x (r.set i (.io o'))
    | .bad => .bad)
  | _ => .bad
def callI (i : Nat) (F : List D → RF) (fs : List Sl → RE (List D)) : List Sl → RE D := fun r => if isOwn i r = true then (fs r).bind fun ds r1 => doI i F ds r1 else .bad
section
variable {X : Cx} {J : Jx} {k : Nat} {f : Addr} {fd : FuncData} {ps : List Str} {F : List D → RF} {x : Str} {p pos : Pos} {e : Expr} {es : List Expr} {fs : List Sl → RE (List D)}
theorem doF_core {M : Addr → Prop} {H : Hp} {σ : St} {r : List Sl} {ds : List D} {vs : List V} {Q : VK} (I : SI J M r σ H) (rd : RepL J.G M H ds vs) (h : Out J (RV J) M H σ (doF (F ds) r) Q) : spP J.G F vs H Q (WE J.W σ) := by
  refine ⟨M, ds, I.md, rd, ?_⟩
  unfold doF at h
  cases e : F ds with
  | ok d o => rw [e] at h; exact fun v H' ex rv => h v M H' (Step.ext ex) (I.ext ex) rv
  | exn x o => rw [e] at h; exact fun cls dd H' ex rx => h cls dd M H' (Step.ext ex) (I.ext ex) rx
  | bad => rw [e] at h; exact h.elim
theorem e_call (Fk : FnG X.prog X.w X.K X.mg X.base k f fd ps (spP J.G F)) (hr : Room k X.A) (hgd : X.A.guards = some []) (tk : Takes X J.W) (hg : Gl X x) (hm : X.mg x = some (.ref f)) (hk : PySem.W.keepIn X.K (.ref f) = true) (hb : Binds X.K fd ps [])
    (ha : PA X (e :: es) (tA J fs)) (hdb : (x == ("__debug__" : Str)) = false := by decide) (he : starEach (e :: es) X.env = (false, eval e X.env) :: starEach es X.env := by rfl) (hpl : (backTo pos (starEach es X.env)).any (·.1) = false := by rfl) :
    PE X (.Call (.Name x p) (e :: es) [] pos) (tE J (call F fs)) :=
  PEi (pe_callG Fk hr hgd hg hm hk hb .nil tk ha hdb he hpl) fun σ H Q ⟨M, r, I, h⟩ => ⟨M, r, I, Out.bind h fun ds r1 vs M1 H1 st1 I1 rd1 h1 => by show spP J.G F (vs ++ []) H1 Q (WE J.W σ); rw [List.append_nil]; exact doF_core I1 rd1 h1⟩
theorem doI_core {i : Nat} {M : Addr → Prop} {H : Hp} {σ : St} {r : List Sl} {ds : List D} {vs : List V} {a : Addr} {Q : VK} (I : SI J M r σ H) (ea : σ[i]? = some (some (.ref a))) (rd : RepL J.G M H ds vs) (h : Out J (RV J) M H σ (doI i F ds r) Q) : spI J.G F (.ref a :: vs) H Q (WE J.W σ) := by
  have fin : ∀ (s : Sl) (o : D) (mk : D → Sl), r[i]? = some s → s.owned = true → (∀ d, (mk d).owned = true) → OwnAt J.G M H a o → M a → (∀ H' o', OwnAt J.G M H' a o' → SlotOk J M H' (mk o') (some (some (.ref a)))) →
      Out J (RV J) M H σ (match F (o :: ds) with
        | .ok d o' => .ok d (r.set i (mk o'))
        | .exn x o' => .exn x (r.set i (mk o'))
        | .bad => .bad) Q → spI J.G F (.ref a :: vs) H Q (WE J.W σ) := fun s o mk es ow ow' own m new h => by
    refine ⟨M, a, o, vs, ds, rfl, I.md, m, own, rd, ?_⟩
    cases e : F (o :: ds) with
    | ok d o' => rw [e] at h; exact fun v H' kp md own' rv => h v M H' ⟨fun b u hb n => kp b u hb (by rintro rfl; exact n m), fun b h => .inl h⟩ (I.write es ow ea (ow' o') kp md (new H' o' own')) rv
    | exn x o' => rw [e] at h; exact fun cls dd H' kp md own' rx => h cls dd M H' ⟨fun b u hb n => kp b u hb (by rintro rfl; exact n m), fun b h => .inl h⟩ (I.write es ow ea (ow' o') kp md (new H' o' own')) rx
    | bad => rw [e] at h; exact h.elim
  unfold doI at h
  split at h
  · rename_i o es
    obtain ⟨a', ea', m, q, n0, h0⟩ := I.slot i _ es
    rw [ea] at ea'; cases ea'
    exact fin (.own o) o .own es rfl (fun _ => rfl) q m (fun H' o' own' => ⟨a, rfl, m, own', n0, h0⟩) h
  · rename_i o es
    obtain ⟨a', ea', m, q, hio⟩ := I.slot i _ es
    rw [ea] at ea'; cases ea'
    exact fin (.io o) o .io es rfl (fun _ => rfl) q m (fun H' o' own' => ⟨a, rfl, m, own', hio⟩) h
  · exact h.elim
theorem e_callI (i : Nat) {y : Str} {py : Pos} (Fk : FnG X.prog X.w X.K X.mg X.base k f fd ps (spI J.G F)) (hr : Room k X.A) (hgd : X.A.guards = some []) (tk : Takes X J.W) (hg : Gl X x) (hm : X.mg x = some (.ref f)) (hk : PySem.W.keepIn X.K (.ref f) = true) (hb : Binds X.K fd ps [])
    (ha : PA X es (tA J fs)) (hN : X.N[i]? = some y := by rfl) (hv : Vis X.env.scope y := by first | exact Or.inl rfl | exact Or.inr (Or.inl rfl) | exact Or.inr (Or.inr rfl)) (hd : (y == ("__debug__" : Str)) = false := by decide) (hcd : (y == ("__classdict__" : Str)) = false := by decide)
    (hdb : (x == ("__debug__" : Str)) = false := by decide) (he : starEach (.Name y py :: es) X.env = (false, eval (.Name y py) X.env) :: starEach es X.env := by rfl) (hpl : (backTo pos (starEach es X.env)).any (·.1) = false := by rfl) :
    PE X (.Call (.Name x p) (.Name y py :: es) [] pos) (tE J (callI i F fs)) :=
  PEi (pe_callG Fk hr hgd hg hm hk hb .nil tk (pa_cons (pe_var hN hv hd hcd) ha he) hdb he hpl) fun σ H Q ⟨M, r, I, h⟩ => by
    unfold callI at h
    split at h
    · rename_i ho
      obtain ⟨a, s0, d0, es0, ow0, ea, m0, q0, hs0⟩ := own_at I ho
      exact ⟨_, ea, M, r, I, Out.bind h fun ds r1 vs M1 H1 st1 I1 rd1 h1 => by show spI J.G F ((V.ref a :: vs) ++ []) H1 Q (WE J.W σ); rw [List.append_nil]; exact doI_core I1 ea rd1 h1⟩
    · exact h.elim
end
end DL

set_option Elab.async false
set_option linter.all false
set_option maxRecDepth 100000
set_option maxHeartbeats 4000000
namespace DL
open PySem L2

/-! ### list comprehensions -/
def wipeR : List Sl → List Nat → List Sl
  | r, [] => r
  | r, v :: vs => (wipeR r vs).set v .un
/-- the block's own names as they were ahead -/
def back (r0 : List Sl) : List Sl → List Nat → List Sl
  | r, [] => r
  | r, v :: vs => (back r0 r vs).set v (r0.getD v .un)
def noOwn (r : List Sl) (vs : List Nat) : Bool := vs.all fun v => match r[v]? with
  | some s => !s.owned
  | none => false
def lcL (g : D → List Sl → RS) (t : List Sl → RE Bool) (e : List Sl → RE D) (vs : List Nat) : List D → List D → List Sl → RE (List D)
  | [], acc, r => .ok acc r
  | d :: ds, acc, r => match g d r with
    | .nx r1 => (t r1).bind fun b r2 => if b = true then (e r2).bind fun y r3 => if acc.length < LIM then lcL g t e vs ds (acc ++ [y]) (wipeR r3 vs) else .bad else lcL g t e vs ds acc (wipeR r2 vs)
    | _ => .bad
def lcomp (fi : List Sl → RE (List D)) (g : D → List Sl → RS) (t : List Sl → RE Bool) (e : List Sl → RE D) (vs : List Nat) : List Sl → RE D := fun r => (fi r).bind fun ds r1 => if noOwn r1 vs = true then (match lcL g t e vs ds [] (wipeR r1 vs) with
  | .ok ys r2 => .ok (.lst ys) (back r1 r2 vs)
  | _ => .bad) else .bad
/-- inside a block nothing is let out, and the list D that grows is not of the frame -/
def Jx.blk (J : Jx) (D : Addr) (o : HO) : Jx := { J with W := fun _ _ _ _ => False, M0 := fun b => J.M0 b ∨ b = D, H0 := fun b => if b = D then some o else J.H0 b }
section
variable {J : Jx} {M : Addr → Prop} {r : List Sl} {σ : St} {H : Hp}
theorem SlotOk.drop {J : Jx} {s : Sl} {o : Option (Option V)} (h : SlotOk J M H s o) : SlotOk J M H .un none := trivial
theorem SI.wipe (I : SI J M r σ H) : ∀ vs : List Nat, SI J M (wipeR r vs) (L2.wipe σ vs) H
  | [] => I
  | v :: vs => (SI.wipe I vs).drop
/-- into the block's turn -/
theorem SI.toBlk {p : Addr} {o : HO} (I : SI J M r σ H) (m : M p) (h : H p = some o) (h0 : J.H0 p = none) (hio : J.io ≠ some p) (fl : ∀ (j : Nat) s, r[j]? = some s → s.owned = true → σ[j]? ≠ some (some (.ref p))) : SI (J.blk p o) M r σ H where
  md := I.md
  m0 := fun b hb => hb.elim (I.m0 b) fun e => e ▸ m
  io0 := fun a ha => .inl (I.io0 a ha)
  keep := fun b u hb n => by
    have hb' : (if b = p then some o else J.H0 b) = some u := hb
    by_cases e : b = p
    · subst e; rw [if_pos rfl] at hb'; cases hb'; exact h
    · rw [if_neg e] at hb'; exact I.keep b u hb' n
  len := I.len
  slot := fun i s hs => by
    have z := I.slot i s hs
    cases s with
    | own d =>
      obtain ⟨a, ea, ma, oa, n0, h0'⟩ := z
      have ne : a ≠ p := fun e => fl i _ hs rfl (e ▸ ea)
      exact ⟨a, ea, ma, oa, fun h => h.elim n0 ne, by show (if a = p then _ else J.H0 a) = none; rw [if_neg ne]; exact h0'⟩
    | un => trivial
    | val d => exact z
    | io d => exact z
    | xc x => exact z
  dist := I.dist
/-- .. and out of it -/
theorem SI.ofBlk {p : Addr} {o : HO} (I : SI (J.blk p o) M r σ H) (h0 : J.H0 p = none) (hio : ∀ a, J.io = some a → J.M0 a) : SI J M r σ H where
  md := I.md
  m0 := fun b hb => I.m0 b (.inl hb)
  io0 := hio
  keep := fun b u hb n => I.keep b u (by
    show (if b = p then _ else J.H0 b) = some u
    by_cases e : b = p
    · subst e; rw [h0] at hb; cases hb
    · rw [if_neg e]; exact hb) n
  len := I.len
  slot := fun i s hs => by
    have z := I.slot i s hs
    cases s with
    | own d =>
      obtain ⟨a, ea, ma, oa, n0, h0'⟩ := z
      have ne : a ≠ p := fun e => n0 (.inr e)
      have h0'' : (if a = p then some o else J.H0 a) = none := h0'
      rw [if_neg ne] at h0''
      exact ⟨a, ea, ma, oa, fun h => n0 (.inl h), h0''⟩
    | un => trivial
    | val d => exact z
    | io d => exact z
    | xc x => exact z
  dist := I.dist
theorem SI.flBlk {p : Addr} {o : HO} (I : SI (J.blk p o) M r σ H) (hio : J.io ≠ some p) : ∀ (j : Nat) s, r[j]? = some s → s.owned = true → σ[j]? ≠ some (some (.ref p)) := fun j s hs ho e => by
  have z := I.slot j s hs
  cases s with
  | own d => obtain ⟨a, ea, ma, oa, n0, h0'⟩ := z; rw [e] at ea; cases ea; exact n0 (.inr rfl)
  | io d => obtain ⟨a, ea, ma, oa, h⟩ := z; rw [e] at ea; cases ea; exact hio h
  | un => cases ho
  | val d => cases ho
  | xc x => cases ho
/-- a floating owned object is written -/
theorem SI.writeFl {p : Addr} {H' : Hp} (I : SI J M r σ H) (m : M p) (h0 : J.H0 p = none) (fl : ∀ (j : Nat) s, r[j]? = some s → s.owned = true → σ[j]? ≠ some (some (.ref p))) (kp : ∀ b u, H b = some u → b ≠ p → H' b = some u) (md : MD M H') : SI J M r σ H' :=
  I.step ⟨fun b u hb n => kp b u hb (fun e => n (e ▸ m)), fun b h => .inl h⟩ md I.m0 (fun b u hb n => kp b u (I.keep b u hb n) (fun e => by subst e; rw [h0] at hb; cases hb)) fun i s a hs ho ea => by
    have ma := (I.slot i s hs).ownM ho ea
    obtain ⟨u, hu⟩ := I.md.some ma
    exact ⟨ma, (kp a u hu (fun e => fl i s hs ho (e ▸ ea))).trans hu.symm⟩
theorem wipe_get {σ : St} {i : Nat} : ∀ {vs : List Nat}, i ∉ vs → (L2.wipe σ vs)[i]? = σ[i]?
  | [], _ => rfl
  | v :: vs, h => by
    show ((L2.wipe σ vs).set v none)[i]? = _
    rw [List.getElem?_set, if_neg (show ¬ v = i from fun e => h (by rw [e]; exact List.mem_cons_self)), wipe_get fun z => h (List.mem_cons_of_mem _ z)]
theorem back_get (r0 r : List Sl) {i : Nat} : ∀ {vs : List Nat}, i ∉ vs → (back r0 r vs)[i]? = r[i]?
  | [], _ => rfl
  | v :: vs, h => by
    show ((back r0 r vs).set v _)[i]? = _
    rw [List.getElem?_set, if_neg (show ¬ v = i from fun e => h (by rw [e]; exact List.mem_cons_self)), back_get r0 r fun z => h (List.mem_cons_of_mem _ z)]
theorem back_in (r0 r : List Sl) {i : Nat} (hl : i < r.length) : ∀ {vs : List Nat}, i ∈ vs → (back r0 r vs)[i]? = some (r0.getD i .un)
  | v :: vs, h => by
    have len : ∀ ws : List Nat, (back r0 r ws).length = r.length := fun ws => by
      induction ws with
      | nil => rfl
      | cons w ws ih => show ((back r0 r ws).set w _).length = _; rw [List.length_set, ih]
    show ((back r0 r vs).set v _)[i]? = _
    rw [List.getElem?_set]
    by_cases e : v = i
    · subst e
      rw [if_pos rfl, if_pos (by rw [len]; exact hl)]
    · rw [if_neg e]
      exact back_in r0 r hl (by rcases List.mem_cons.mp h with z | z
                                · exact absurd z.symm e
                                · exact z)
theorem back_len (r0 r : List Sl) : ∀ ws : List Nat, (back r0 r ws).length = r.length
  | [] => rfl
  | w :: ws => by show ((back r0 r ws).set w _).length = _; rw [List.length_set, back_len r0 r ws]
/-- behind the block: the own names as they were ahead -/
theorem SI.backTo {r0 : List Sl} {M0 : Addr → Prop} {H0 : Hp} {vs : List Nat} (I0 : SI J M0 r0 σ H0) (I : SI J M r (L2.wipe σ vs) H) (st : Step M0 H0 M H) (no : noOwn r0 vs = true) : SI J M (back r0 r vs) σ H := by
  have hw : (L2.wipe σ vs).length = σ.length := wipe_length σ vs
  have hr : r.length = σ.length := I.len.trans hw
  refine ⟨I.md, I.m0, I.io0, I.keep, (back_len r0 r vs).trans hr, fun j s e => ?_, fun j k s t a e1 e2 h1 h2 h3 h4 => ?_⟩
  · by_cases hj : j ∈ vs
    · have hlt : j < r.length := by
        have := (List.getElem?_eq_some_iff.mp e).1
        rwa [back_len] at this
      rw [back_in r0 r hlt hj] at e
      cases e
      have hx : ∃ s0, r0[j]? = some s0 := ⟨r0[j]'(by rw [I0.len, ← hr]; exact hlt), List.getElem?_eq_getElem _⟩
      obtain ⟨s0, h0⟩ := hx
      rw [List.getD_eq_getElem?_getD, h0]
      have z := I0.slot j s0 h0
      have no' := List.all_eq_true.mp no j hj
      rw [h0] at no'
      exact z.step st I0.md fun a ho => by
        show _
        dsimp only at no'
        simp only [Option.getD_some] at ho
        rw [ho] at no'
        cases no'
    · rw [back_get r0 r hj] at e
      have z := I.slot j s e
      rw [wipe_get hj] at z
      exact z
  · have ow : ∀ (j : Nat) s, (back r0 r vs)[j]? = some s → s.owned = true → j ∉ vs ∧ r[j]? = some s := fun j s e h => by
      by_cases hj : j ∈ vs
      · exfalso
        have hlt : j < r.length := by
          have := (List.getElem?_eq_some_iff.mp e).1
          rwa [back_len] at this
        rw [back_in r0 r hlt hj] at e
        cases e
        have hx : ∃ s0, r0[j]? = some s0 := ⟨r0[j]'(by rw [I0.len, ← hr]; exact hlt), List.getElem?_eq_getElem _⟩
        obtain ⟨s0, h0⟩ := hx
        rw [List.getD_eq_getElem?_getD, h0] at h
        have no' := List.all_eq_true.mp no j hj
        rw [h0] at no'
        simp only [Option.getD_some] at h
        dsimp only at no'
        rw [h] at no'
        cases no'
      · exact ⟨hj, by rw [back_get r0 r hj] at e; exact e⟩
    obtain ⟨nj, ej⟩ := ow j s e1 h1
    obtain ⟨nk, ek⟩ := ow k t e2 h2
    exact I.dist j k s t a ej ek h1 h2 (by rw [wipe_get nj]; exact h3) (by rw [wipe_get nk]; exact h4)
end
/-- tests of a clause -/
def tyes : List Sl → RE Bool := fun r => .ok true r
section
variable {X : Cx} {J : Jx} {elt tg iter : Expr} {ifs : List Expr} {scope : Scope} {own : List (Str × Nat)} {pos : Pos} {fi : List Sl → RE (List D)} {g : D → List Sl → RS} {ft : List Sl → RE Bool} {fe : List Sl → RE D}
theorem pts_nil' : PTs X [] (tT J tyes) := ⟨fun pins s σ H Q I ⟨M, r, SI1, h⟩ => L2.pts_nil.run pins s σ H Q I (h true M H Step.refl SI1 rfl)⟩
theorem pts_one' {c : Expr} (h : PT X c (tT J ft)) : PTs X [c] (tT J ft) := pts_one h
/-- what a comprehension's parts may use: the block's wish -/
structure JB (J J' : Jx) : Prop where
  G : J'.G = J.G
  hx : J'.hx = J.hx
  W : J'.W = fun _ _ _ _ => False
theorem JB.blk {J : Jx} {p : Addr} {o : HO} : JB J (J.blk p o) := ⟨rfl, rfl, rfl⟩
def tGx (J : Jx) (vs : List Nat) (g : D → List Sl → RS) : TG := fun v σ H Q => ∃ J', JB J J' ∧ tG J' vs g v σ H Q
def tTx (J : Jx) (f : List Sl → RE Bool) : TT := fun σ H Q => ∃ J', JB J J' ∧ tT J' f σ H Q
def tEx (J : Jx) (f : List Sl → RE D) : TE := fun σ H Q => ∃ J', JB J J' ∧ tE J' f σ H Q
theorem gx_of {X : Cx} {vs : List Nat} (h : ∀ J', JB J J' → PG X tg (tG J' vs g)) : PG X tg (tGx J vs g) := ⟨fun pins s σ H v u Q I rv ⟨J', b, q⟩ => (h J' b).run pins s σ H v u Q I rv q⟩
theorem tx_of {X : Cx} (h : ∀ J', JB J J' → PTs X ifs (tT J' ft)) : PTs X ifs (tTx J ft) := ⟨fun pins s σ H Q I ⟨J', b, q⟩ => (h J' b).run pins s σ H Q I q⟩
theorem ex_of {X : Cx} (h : ∀ J', JB J J' → PE X elt (tE J' fe)) : PE X elt (tEx J fe) := ⟨fun pins s σ H Q I ⟨J', b, q⟩ => (h J' b).run pins s σ H Q I q⟩
theorem lc_read (ok : GOk g) {vs : List Nat} (σ : St) (H : Hp) (Q : VK) (h : tN J (lcomp fi g ft fe vs) σ H Q) : tLc (tI J fi) (tGx J vs g) (tTx J ft) (tEx J fe) vs σ H Q := by
  obtain ⟨M, r, I, h⟩ := h
  refine ⟨M, r, I, Out.bind h fun ds r1 T M1 H1 st1 I1 it h1 => ?_⟩
  intro p hp
  split at h1
  · rename_i no
    obtain ⟨In, stn, nm, n0, h0, fl⟩ := I1.newOwn (o := .lst []) hp trivial
    have hio : J.io ≠ some p := fun e => n0 (I1.io0 p e)
    have flw : ∀ (j : Nat) s, (wipeR r1 vs)[j]? = some s → s.owned = true → (L2.wipe σ vs)[j]? ≠ some (some (.ref p)) := fun j s hj ho e => by
      have z := ((SI.wipe In vs).slot j s hj).ownM ho e
      have I1w := SI.wipe I1 vs
      exact nm ((I1w.slot j s hj).ownM ho e)
    have hQ : ∀ ys r2, lcL g ft fe vs ds [] (wipeR r1 vs) = .ok ys r2 → Out J (RO J) M1 H1 σ (.ok (.lst ys) (back r1 r2 vs)) Q := fun ys r2 e => by rw [e] at h1; exact h1
    have hne : ∃ ys r2, lcL g ft fe vs ds [] (wipeR r1 vs) = .ok ys r2 := by
      cases e : lcL g ft fe vs ds [] (wipeR r1 vs) with
      | ok ys r2 => exact ⟨ys, r2, rfl⟩
      | exn x r2 => rw [e] at h1; exact h1.elim
      | bad => rw [e] at h1; exact h1.elim
    refine ⟨fun i m H' => m = ds.length - i ∧ i ≤ ds.length ∧ ∃ M' r' acc vacc, SI J M' r' (L2.wipe σ vs) H' ∧ Step M1 H1 M' H' ∧ M' p ∧ H' p = some (.lst vacc) ∧ RepL J.G M' H' acc vacc ∧
      (∀ (j : Nat) s, r'[j]? = some s → s.owned = true → (L2.wipe σ vs)[j]? ≠ some (some (.ref p))) ∧
      lcL g ft fe vs (ds.drop i) acc r' = lcL g ft fe vs ds [] (wipeR r1 vs), ⟨ds.length, by simp, Nat.zero_le _, _, wipeR r1 vs, [], [], SI.wipe In vs, stn, .inr rfl, upd_same, rfl, flw, rfl⟩, ?_⟩
    rintro i m H' ⟨rfl, hi, M', r', acc, vacc, I', st', mp, hpv, racc, fl', eqn⟩
    obtain ⟨it1, it2⟩ := it i M' H' st' I'.md
    by_cases hlt : i < ds.length
    · have hd : ds[i]? = some ds[i] := List.getElem?_eq_getElem hlt
      obtain ⟨go, yl⟩ := it1 _ hd
      refine .inr ⟨go, fun H2 => ∃ M2 r2 acc2 vacc2, SI J M2 r2 (L2.wipe σ vs) H2 ∧ Step M1 H1 M2 H2 ∧ M2 p ∧ H2 p = some (.lst vacc2) ∧ RepL J.G M2 H2 acc2 vacc2 ∧
        (∀ (j : Nat) s, r2[j]? = some s → s.owned = true → (L2.wipe σ vs)[j]? ≠ some (some (.ref p))) ∧ lcL g ft fe vs (ds.drop (i + 1)) acc2 r2 = lcL g ft fe vs ds [] (wipeR r1 vs),
        fun H2 ⟨M2, r2, acc2, vacc2, q⟩ => ⟨ds.length - (i + 1), by omega, rfl, by omega, M2, r2, acc2, vacc2, q⟩, fun x H2 y => ?_⟩
      obtain ⟨ex, rx⟩ := yl x H2 y
      rw [List.drop_eq_getElem_cons hlt] at eqn
      obtain ⟨ys0, rf0, hne⟩ := hne
      rw [hne] at eqn
      have I2 := I'.ext ex
      have hp2 := ex _ _ hpv
      have B2 : SI (J.blk p (.lst vacc)) M' r' (L2.wipe σ vs) H2 := I2.toBlk mp hp2 h0 hio fl'
      have eq : lcL g ft fe vs (ds[i] :: ds.drop (i + 1)) acc r' = (match g ds[i] r' with
        | .nx r1 => (ft r1).bind fun b r2 => if b = true then (fe r2).bind fun y r3 => if acc.length < LIM then lcL g ft fe vs (ds.drop (i + 1)) (acc ++ [y]) (wipeR r3 vs) else .bad else lcL g ft fe vs (ds.drop (i + 1)) acc (wipeR r2 vs)
        | _ => .bad) := rfl
      rw [eq] at eqn
      have st2 : Step M1 H1 M' H2 := st'.trans (Step.ext ex)
      refine ⟨J.blk p (.lst vacc), JB.blk, M', r', ds[i], B2, rx, ?_⟩
      rcases ok ds[i] r' with ⟨r3, e3⟩ | e3
      · rw [e3] at eqn ⊢
        have eqn : ((ft r3).bind fun b r2 => if b = true then (fe r2).bind fun y r3 => if acc.length < LIM then lcL g ft fe vs (ds.drop (i + 1)) (acc ++ [y]) (wipeR r3 vs) else .bad else lcL g ft fe vs (ds.drop (i + 1)) acc (wipeR r2 vs)) = RE.ok ys0 rf0 := eqn
        intro M3 σ3 H3 st3 B3 ew
        have ww : ∀ τ : St, L2.wipe (L2.wipe τ vs) vs = L2.wipe τ vs := fun τ => by
          apply List.ext_getElem?
          intro j
          by_cases hj : j ∈ vs
          · have inn : ∀ (ρ : St) (ws : List Nat), j ∈ ws → (L2.wipe ρ ws)[j]? = if j < ρ.length then some none else none := fun ρ ws => by
              induction ws with
              | nil => intro z; cases z
              | cons w ws ih =>
                intro z
                show ((L2.wipe ρ ws).set w none)[j]? = _
                rw [List.getElem?_set]
                by_cases e : w = j
                · subst e; rw [if_pos rfl, wipe_length]
                · rw [if_neg e]
                  exact ih (by rcases List.mem_cons.mp z with q | q
                               · exact absurd q.symm e
                               · exact q)
            rw [inn _ _ hj, inn _ _ hj, wipe_length]
          · rw [wipe_get hj]
        refine ⟨ew.trans (ww σ), J.blk p (.lst vacc), JB.blk, M3, r3, B3, ?_⟩
        have ew' : L2.wipe σ3 vs = L2.wipe σ vs := ew.trans (ww σ)
        -- the next turn's state, from a state of the block
        have nextT : ∀ {M4 : Addr → Prop} {r4 : List Sl} {H4 : Hp}, Step M3 H3 M4 H4 → SI (J.blk p (.lst vacc)) M4 r4 σ3 H4 → SI J M4 (wipeR r4 vs) (L2.wipe σ vs) H4 ∧ Step M1 H1 M4 H4 ∧ M4 p ∧ H4 p = some (.lst vacc) ∧ RepL J.G M4 H4 acc vacc ∧
            (∀ (j : Nat) s, (wipeR r4 vs)[j]? = some s → s.owned = true → (L2.wipe σ vs)[j]? ≠ some (some (.ref p))) := fun {M4 r4 H4} st4 B4 => by
          have W4 := SI.wipe B4 vs
          rw [ew'] at W4
          have hp4 : H4 p = some (.lst vacc) := B4.keep p _ (by show (if p = p then _ else _) = _; rw [if_pos rfl]) hio
          exact ⟨W4.ofBlk h0 I1.io0, st2.trans (st3.trans st4), B4.m0 p (.inr rfl), hp4, RepL.step ((Step.ext ex).trans (st3.trans st4)) I'.md _ _ racc, W4.flBlk hio⟩
        have hft : Out (J.blk p (.lst vacc)) RB M3 H3 σ3 (ft r3) (fun b H4 => if b = true then tEx J fe σ3 H4 fun y H5 => ∃ acc, H5 p = some (.lst acc) ∧ acc.length < sizeLine ∧ (∃ M2 r2 acc2 vacc2, SI J M2 r2 (L2.wipe σ vs) (upd H5 p (.lst (acc ++ [y]))) ∧ Step M1 H1 M2 (upd H5 p (.lst (acc ++ [y]))) ∧ M2 p ∧ (upd H5 p (.lst (acc ++ [y]))) p = some (.lst vacc2) ∧ RepL J.G M2 (upd H5 p (.lst (acc ++ [y]))) acc2 vacc2 ∧
            (∀ (j : Nat) s, r2[j]? = some s → s.owned = true → (L2.wipe σ vs)[j]? ≠ some (some (.ref p))) ∧ lcL g ft fe vs (ds.drop (i + 1)) acc2 r2 = lcL g ft fe vs ds [] (wipeR r1 vs))
          else (∃ M2 r2 acc2 vacc2, SI J M2 r2 (L2.wipe σ vs) H4 ∧ Step M1 H1 M2 H4 ∧ M2 p ∧ H4 p = some (.lst vacc2) ∧ RepL J.G M2 H4 acc2 vacc2 ∧
            (∀ (j : Nat) s, r2[j]? = some s → s.owned = true → (L2.wipe σ vs)[j]? ≠ some (some (.ref p))) ∧ lcL g ft fe vs (ds.drop (i + 1)) acc2 r2 = lcL g ft fe vs ds [] (wipeR r1 vs))) := by
          cases et : ft r3 with
          | exn x r4 => rw [et] at eqn; cases eqn
          | bad => rw [et] at eqn; cases eqn
          | ok b r4 =>
            rw [et] at eqn
            have eqn : (if b = true then (fe r4).bind fun y r3 => if acc.length < LIM then lcL g ft fe vs (ds.drop (i + 1)) (acc ++ [y]) (wipeR r3 vs) else .bad else lcL g ft fe vs (ds.drop (i + 1)) acc (wipeR r4 vs)) = RE.ok ys0 rf0 := eqn
            intro b' M4 H4 st4 B4 eb
            have eb : b' = b := eb
            subst eb
            by_cases hb : b' = true
            · rw [if_pos hb] at eqn ⊢
              refine ⟨J.blk p (.lst vacc), JB.blk, M4, r4, B4, ?_⟩
              cases ee : fe r4 with
              | exn x r5 => rw [ee] at eqn; cases eqn
              | bad => rw [ee] at eqn; cases eqn
              | ok y r5 =>
                rw [ee] at eqn
                have eqn : (if acc.length < LIM then lcL g ft fe vs (ds.drop (i + 1)) (acc ++ [y]) (wipeR r5 vs) else .bad) = RE.ok ys0 rf0 := eqn
                intro vy M5 H5 st5 B5 ry
                by_cases hz : acc.length < LIM
                · rw [if_pos hz] at eqn
                  obtain ⟨I5, s5, m5, h5, ra5, f5⟩ := nextT (st4.trans st5) B5
                  refine ⟨vacc, h5, by rw [← racc.length]; exact lt_size (Nat.le_of_lt hz), M5, wipeR r5 vs, acc ++ [y], vacc ++ [vy], ?_, ?_, m5, upd_same, ?_, f5, ?_⟩
                  · exact I5.writeFl m5 h0 f5 kept_upd (I5.md.upd trivial)
                  · exact s5.trans ⟨fun b u hb n => by rw [upd_ne (by rintro rfl; exact n m5)]; exact hb, fun b h => .inl h⟩
                  · have stw : Step M5 H5 M5 (upd H5 p (.lst (vacc ++ [vy]))) := ⟨fun b u hb n => by rw [upd_ne (by rintro rfl; exact n m5)]; exact hb, fun b h => .inl h⟩
                    exact (RepL.step stw I5.md _ _ ra5).append ⟨vy, [], rfl, Rep.step stw I5.md _ _ ry, rfl⟩
                  · rw [hne]; exact eqn
                · rw [if_neg hz] at eqn; cases eqn
            · rw [if_neg hb] at eqn ⊢
              obtain ⟨I5, s5, m5, h5, ra5, f5⟩ := nextT st4 B4
              exact ⟨M4, wipeR r4 vs, acc, vacc, I5, s5, m5, h5, ra5, f5, by rw [hne]; exact eqn⟩
        exact hft
      · rw [e3] at eqn; cases eqn
    · have e : i = ds.length := by omega
      subst e
      rw [List.drop_length] at eqn
      have eqn : RE.ok acc r' = lcL g ft fe vs ds [] (wipeR r1 vs) := eqn
      refine .inl ⟨it2 (Nat.le_refl _), ?_⟩
      have hq := hQ acc r' eqn.symm
      have Ib := SI.backTo I1 I' st' no
      refine hq (.ref p) M' H' st' Ib ⟨p, rfl, mp, ⟨vacc, hpv, racc⟩, n0, h0, fun j s hj ho e => ?_⟩
      by_cases hjv : j ∈ vs
      · have z := (Ib.slot j s hj).ownM ho e
        have hlt : j < r'.length := by
          have := (List.getElem?_eq_some_iff.mp hj).1
          rwa [back_len] at this
        rw [back_in r1 r' hlt hjv] at hj
        cases hj
        have hx : ∃ s0, r1[j]? = some s0 := ⟨r1[j]'(by rw [I1.len, ← wipe_length σ vs, ← I'.len]; exact hlt), List.getElem?_eq_getElem _⟩
        obtain ⟨s0, hs0⟩ := hx
        rw [List.getD_eq_getElem?_getD, hs0] at ho
        have no' := List.all_eq_true.mp no j hjv
        rw [hs0] at no'
        simp only [Option.getD_some] at ho
        dsimp only at no'
        rw [ho] at no'
        cases no'
      · rw [back_get r1 r' hjv] at hj
        exact fl' j s hj ho (by rw [wipe_get hjv]; exact e)
  · exact h1.elim
/-- a comprehension, as an owned list -/
theorem n_lc (vs : List Nat) (hc : X.calm = true) (hN : X.N.Nodup) (hi : PI X tg iter (tI J fi)) (ok : GOk g) (bk : BlkOk X.N X.env.scope scope own) (hvs : own.map (·.2) = vs)
    (hg : ∀ (s : Shared) (H : Hp) (C : Addr) (cl : List (Str × Addr)) (fp : List Addr) (J' : Jx), JB J J' → PG (X.blk s H scope (compEnvC scope cl C X.env) fp) tg (tG J' vs g))
    (ht : ∀ (s : Shared) (H : Hp) (C : Addr) (cl : List (Str × Addr)) (fp : List Addr) (J' : Jx), JB J J' → PTs (X.blk s H scope (compEnvC scope cl C X.env) fp) ifs (tT J' ft))
    (he : ∀ (s : Shared) (H : Hp) (C : Addr) (cl : List (Str × Addr)) (fp : List Addr) (J' : Jx), JB J J' → PE (X.blk s H scope (compEnvC scope cl C X.env) fp) elt (tE J' fe)) (hs : ∀ x, foldedSetIterable iter X.env x = pure x := by intro _; rfl) :
    PE X (.ListComp elt [⟨tg, iter, ifs, 0⟩] scope pos) (tN J (lcomp fi g ft fe vs)) := by
  subst hvs
  exact PEi (pe_lc hc hN hi bk (fun s H C cl fp => gx_of fun J' b => hg s H C cl fp J' b) (fun s H C cl fp => tx_of fun J' b => ht s H C cl fp J' b) (fun s H C cl fp => ex_of fun J' b => he s H C cl fp J' b) hs) fun σ H Q h => lc_read ok σ H Q h
/-- name = [..] on one line -/
theorem s_ownLc (i : Nat) (vs : List Nat) {y : Str} {py spos : Pos} (hc : X.calm = true) (hN : X.N.Nodup) (hsw : swapsWith (.ListComp elt [⟨tg, iter, ifs, 0⟩] scope pos) (some (.Name y py)) spos.line X.env = pure true) (hi : PI X tg iter (tI J fi)) (ok : GOk g) (bk : BlkOk X.N X.env.scope scope own) (hvs : own.map (·.2) = vs)
    (hg : ∀ (s : Shared) (H : Hp) (C : Addr) (cl : List (Str × Addr)) (fp : List Addr) (J' : Jx), JB J J' → PG (X.blk s H scope (compEnvC scope cl C X.env) fp) tg (tG J' vs g))
    (ht : ∀ (s : Shared) (H : Hp) (C : Addr) (cl : List (Str × Addr)) (fp : List Addr) (J' : Jx), JB J J' → PTs (X.blk s H scope (compEnvC scope cl C X.env) fp) ifs (tT J' ft))
    (he : ∀ (s : Shared) (H : Hp) (C : Addr) (cl : List (Str × Addr)) (fp : List Addr) (J' : Jx), JB J J' → PE (X.blk s H scope (compEnvC scope cl C X.env) fp) elt (tE J' fe)) (hs : ∀ x, foldedSetIterable iter X.env x = pure x := by intro _; rfl)
    (hy : X.N[i]? = some y := by rfl) (hyl : X.env.scope.names.lookup y = some .local := by rfl) : PS X (.Assign [.Name y py] (.ListComp elt [⟨tg, iter, ifs, 0⟩] scope pos) spos) (tS J (sown i (lcomp fi g ft fe vs))) := by
  subst hvs
  refine PSi (ps_setLc hc hN hy hyl hsw hi bk (fun s H C cl fp => gx_of fun J' b => hg s H C cl fp J' b) (fun s H C cl fp => tx_of fun J' b => ht s H C cl fp J' b) (fun s H C cl fp => ex_of fun J' b => he s H C cl fp J' b) hs) fun E σ H h => ?_
  obtain ⟨M, r, I, h⟩ := h
  refine lc_read ok σ H _ ⟨M, r, I, Out.s h fun d r1 v M1 H1 st1 I1 ⟨a, ev, m, ow, n0, h0, fl⟩ h1 => ?_⟩
  subst ev
  exact h1 M1 _ H1 Step.refl (I1.setOwn m ow n0 h0 fl)
/-- .. as data -/
theorem s_asgLc (i : Nat) (vs : List Nat) {y : Str} {py spos : Pos} (hc : X.calm = true) (hN : X.N.Nodup) (hsw : swapsWith (.ListComp elt [⟨tg, iter, ifs, 0⟩] scope pos) (some (.Name y py)) spos.line X.env = pure true) (hi : PI X tg iter (tI J fi)) (ok : GOk g) (bk : BlkOk X.N X.env.scope scope own) (hvs : own.map (·.2) = vs)
    (hg : ∀ (s : Shared) (H : Hp) (C : Addr) (cl : List (Str × Addr)) (fp : List Addr) (J' : Jx), JB J J' → PG (X.blk s H scope (compEnvC scope cl C X.env) fp) tg (tG J' vs g))
    (ht : ∀ (s : Shared) (H : Hp) (C : Addr) (cl : List (Str × Addr)) (fp : List Addr) (J' : Jx), JB J J' → PTs (X.blk s H scope (compEnvC scope cl C X.env) fp) ifs (tT J' ft))
    (he : ∀ (s : Shared) (H : Hp) (C : Addr) (cl : List (Str × Addr)) (fp : List Addr) (J' : Jx), JB J J' → PE (X.blk s H scope (compEnvC scope cl C X.env) fp) elt (tE J' fe)) (hs : ∀ x, foldedSetIterable iter X.env x = pure x := by intro _; rfl)
    (hy : X.N[i]? = some y := by rfl) (hyl : X.env.scope.names.lookup y = some .local := by rfl) : PS X (.Assign [.Name y py] (.ListComp elt [⟨tg, iter, ifs, 0⟩] scope pos) spos) (tS J (sasg i (lcomp fi g ft fe vs))) := by
  subst hvs
  refine PSi (ps_setLc hc hN hy hyl hsw hi bk (fun s H C cl fp => gx_of fun J' b => hg s H C cl fp J' b) (fun s H C cl fp => tx_of fun J' b => ht s H C cl fp J' b) (fun s H C cl fp => ex_of fun J' b => he s H C cl fp J' b) hs) fun E σ H h => ?_
  obtain ⟨M, r, I, h⟩ := h
  refine lc_read ok σ H _ ⟨M, r, I, Out.s h fun d r1 v M1 H1 st1 I1 ⟨a, ev, m, ow, n0, h0, fl⟩ h1 => ?_⟩
  subst ev
  have I2 := I1.freeze n0 fl
  exact h1 _ _ H1 (Step.freeze a) (I2.set ((ow.step (Step.freeze a) I1.md rfl).rep fun z => z.2 rfl))
end
end DL

set_option Elab.async false
set_option linter.all false
set_option maxRecDepth 100000
set_option maxHeartbeats 4000000
namespace DL
open PySem L2

/-! ### built-ins of one argument -/
def gAbs : D → Option D
  | .int i => some (.int (if i < 0 then -i else i))
  | _ => none
def gToInt : D → Option D
  | .int i => some (.int i)
  | .bl b => some (.int (if b then 1 else 0))
  | _ => none
theorem RepL.ints {G : Gm} {M : Addr → Prop} {H : Hp} : ∀ {ns : List Int}, RepL G M H (ns.map D.int) (ns.map V.int)
  | [] => rfl
  | n :: ns => ⟨_, _, rfl, rfl, RepL.ints⟩
def toInts : List D → Option (List Int)
  | [] => some []
  | .int i :: ds => (toInts ds).map (i :: ·)
  | _ => none
def toBls : List D → Option (List Bool)
  | [] => some []
  | .bl i :: ds => (toBls ds).map (i :: ·)
  | _ => none
theorem toInts_rep {G : Gm} {M : Addr → Prop} {H : Hp} : ∀ {ds : List D} {vs : List V} {ns : List Int}, toInts ds = some ns → RepL G M H ds vs → vs = ns.map V.int
  | [], _, _, e, h => by cases e; cases h; rfl
  | .int i :: ds, _, _, e, ⟨v, ws, ev, rv, r⟩ => by
    cases e1 : toInts ds with
    | none => simp [toInts, e1] at e
    | some ms =>
      simp only [toInts, e1, Option.map_some, Option.some.injEq] at e
      subst e; subst ev; cases rv
      rw [toInts_rep e1 r]; rfl
theorem toBls_rep {G : Gm} {M : Addr → Prop} {H : Hp} : ∀ {ds : List D} {vs : List V} {ns : List Bool}, toBls ds = some ns → RepL G M H ds vs → vs = ns.map V.bl
  | [], _, _, e, h => by cases e; cases h; rfl
  | .bl i :: ds, _, _, e, ⟨v, ws, ev, rv, r⟩ => by
    cases e1 : toBls ds with
    | none => simp [toBls, e1] at e
    | some ms =>
      simp only [toBls, e1, Option.map_some, Option.some.injEq] at e
      subst e; subst ev; cases rv
      rw [toBls_rep e1 r]; rfl
@[simp] theorem toInts_map : ∀ ns : List Int, toInts (ns.map D.int) = some ns
  | [] => rfl
  | n :: ns => by show (toInts (ns.map D.int)).map (n :: ·) = _; rw [toInts_map ns]; rfl
@[simp] theorem toBls_map : ∀ ns : List Bool, toBls (ns.map D.bl) = some ns
  | [] => rfl
  | n :: ns => by show (toBls (ns.map D.bl)).map (n :: ·) = _; rw [toBls_map ns]; rfl
/-- the greatest, the least of whole numbers -/
def maxL : List Int → Int
  | [] => 0
  | [n] => n
  | n :: ns => max n (maxL ns)
def minL : List Int → Int
  | [] => 0
  | [n] => n
  | n :: ns => min n (minL ns)
theorem maxL_spec : ∀ {ns : List Int} {m : Int}, m ∈ ns → (∀ y ∈ ns, y ≤ m) → maxL ns = m
  | [n], m, h, _ => by simp at h; subst h; rfl
  | n :: k :: ns, m, h, hm => by
    show max n (maxL (k :: ns)) = m
    by_cases e : m ∈ k :: ns
    · rw [maxL_spec e fun y hy => hm y (List.mem_cons_of_mem _ hy)]
      have := hm n List.mem_cons_self
      omega
    · have hn : m = n := by rcases List.mem_cons.mp h with z | z
                            · exact z
                            · exact absurd z e
      subst hn
      have le : ∀ (l : List Int), l ≠ [] → (∀ y ∈ l, y ≤ m) → maxL l ≤ m := by
        intro l
        induction l with
        | nil => intro z; exact absurd rfl z
        | cons a l ih =>
          intro _ hl
          cases l with
          | nil => exact hl a List.mem_cons_self
          | cons b l =>
            have h1 := hl a List.mem_cons_self
            have h2 := ih (by simp) fun y hy => hl y (List.mem_cons_of_mem _ hy)
            show max a (maxL (b :: l)) ≤ m
            omega
      have := le (k :: ns) (by simp) fun y hy => hm y (List.mem_cons_of_mem _ hy)
      omega
theorem minL_spec : ∀ {ns : List Int} {m : Int}, m ∈ ns → (∀ y ∈ ns, m ≤ y) → minL ns = m
  | [n], m, h, _ => by simp at h; subst h; rfl
  | n :: k :: ns, m, h, hm => by
    show min n (minL (k :: ns)) = m
    by_cases e : m ∈ k :: ns
    · rw [minL_spec e fun y hy => hm y (List.mem_cons_of_mem _ hy)]
      have := hm n List.mem_cons_self
      omega
    · have hn : m = n := by rcases List.mem_cons.mp h with z | z
                            · exact z
                            · exact absurd z e
      subst hn
      have le : ∀ (l : List Int), l ≠ [] → (∀ y ∈ l, m ≤ y) → m ≤ minL l := by
        intro l
        induction l with
        | nil => intro z; exact absurd rfl z
        | cons a l ih =>
          intro _ hl
          cases l with
          | nil => exact hl a List.mem_cons_self
          | cons b l =>
            have h1 := hl a List.mem_cons_self
            have h2 := ih (by simp) fun y hy => hl y (List.mem_cons_of_mem _ hy)
            show m ≤ min a (minL (b :: l))
            omega
      have := le (k :: ns) (by simp) fun y hy => hm y (List.mem_cons_of_mem _ hy)
      omega
def gSum : D → Option D
  | .lst xs => (toInts xs).map fun ns => .int ns.sum
  | _ => none
def gMax : D → Option D
  | .lst xs => (toInts xs).bind fun ns => if ns = [] then none else some (.int (maxL ns))
  | _ => none
def gMin : D → Option D
  | .lst xs => (toInts xs).bind fun ns => if ns = [] then none else some (.int (minL ns))
  | _ => none
def gAll : D → Option D
  | .lst xs => (toBls xs).map fun ns => .bl (ns.all id)
  | _ => none
def gAny : D → Option D
  | .lst xs => (toBls xs).map fun ns => .bl (ns.any id)
  | _ => none
/-- list(x) -/
def gList : D → Option (List D)
  | .lst xs => some xs
  | .tup xs => some xs
  | .scr ns => some (ns.map .int)
  | _ => none
def gTuple : D → Option D
  | .lst xs => some (.tup xs)
  | .tup xs => some (.tup xs)
  | .scr ns => some (.tup (ns.map .int))
  | _ => none
theorem od_abs {G : Gm} : C1D G (fun xs H Q => ∃ i, xs = [.int i] ∧ Q (.int (if i < 0 then -i else i)) H) gAbs := by
  intro M H x vx d Q md e rx q
  unfold gAbs at e
  split at e
  · cases e; cases rx.int; exact ⟨_, rfl, q _ H (fun _ _ h => h) rfl⟩
  · cases e
theorem od_toInt {G : Gm} : C1D G (fun xs H Q => (∃ i, xs = [.int i] ∧ Q (.int i) H) ∨ ∃ k, xs = [.bl k] ∧ Q (.int (if k then 1 else 0)) H) gToInt := by
  intro M H x vx d Q md e rx q
  unfold gToInt at e
  split at e
  · cases e; cases rx.int; exact .inl ⟨_, rfl, q _ H (fun _ _ h => h) rfl⟩
  · cases e; cases rx.bl; exact .inr ⟨_, rfl, q _ H (fun _ _ h => h) rfl⟩
  · cases e
theorem od_sum {G : Gm} : C1D G (rSum G.K) gSum := by
  intro M H x vx d Q md e rx q
  unfold gSum at e
  split at e
  · rw [Option.map_eq_some_iff] at e
    obtain ⟨ns, en, rfl⟩ := e
    obtain ⟨a, vs, rfl, ha, r⟩ := rx.lst
    have z := toInts_rep en r
    subst z
    exact ⟨a, ns, rfl, SqL.of ha, q _ H (fun _ _ h => h) rfl⟩
  · cases e
theorem od_max {G : Gm} : C1D G (rMax G.K) gMax := by
  intro M H x vx d Q md e rx q
  unfold gMax at e
  split at e
  · rw [Option.bind_eq_some_iff] at e
    obtain ⟨ns, en, e⟩ := e
    split at e
    · cases e
    · rename_i hne
      cases e
      obtain ⟨a, vs, rfl, ha, r⟩ := rx.lst
      have z := toInts_rep en r
      subst z
      exact ⟨a, ns, rfl, SqL.of ha, List.length_pos_iff.mpr hne, fun m hm hle => by rw [maxL_spec hm hle] at q; exact q _ H (fun _ _ h => h) rfl⟩
  · cases e
theorem od_min {G : Gm} : C1D G (rMin G.K) gMin := by
  intro M H x vx d Q md e rx q
  unfold gMin at e
  split at e
  · rw [Option.bind_eq_some_iff] at e
    obtain ⟨ns, en, e⟩ := e
    split at e
    · cases e
    · rename_i hne
      cases e
      obtain ⟨a, vs, rfl, ha, r⟩ := rx.lst
      have z := toInts_rep en r
      subst z
      exact ⟨a, ns, rfl, SqL.of ha, List.length_pos_iff.mpr hne, fun m hm hle => by rw [minL_spec hm hle] at q; exact q _ H (fun _ _ h => h) rfl⟩
  · cases e
theorem od_all {G : Gm} : C1D G (rAll G.K) gAll := by
  intro M H x vx d Q md e rx q
  unfold gAll at e
  split at e
  · rw [Option.map_eq_some_iff] at e
    obtain ⟨ns, en, rfl⟩ := e
    obtain ⟨a, vs, rfl, ha, r⟩ := rx.lst
    have z := toBls_rep en r
    subst z
    exact ⟨a, ns, rfl, SqL.of ha, q _ H (fun _ _ h => h) rfl⟩
  · cases e
theorem od_any {G : Gm} : C1D G (rAny G.K) gAny := by
  intro M H x vx d Q md e rx q
  unfold gAny at e
  split at e
  · rw [Option.map_eq_some_iff] at e
    obtain ⟨ns, en, rfl⟩ := e
    obtain ⟨a, vs, rfl, ha, r⟩ := rx.lst
    have z := toBls_rep en r
    subst z
    exact ⟨a, ns, rfl, SqL.of ha, q _ H (fun _ _ h => h) rfl⟩
  · cases e
theorem od_list {G : Gm} : C1N G (fun xs H Q => ∃ p ys, xs = [.ref p] ∧ (SqL G.K H p ys ∨ SqT G.K H p ys) ∧ ∀ l, H l = none → Q (.ref l) (upd H l (.lst ys))) gList := by
  intro M H x vx ds Q md e rx q
  unfold gList at e
  split at e
  · cases e
    obtain ⟨a, vs, rfl, ha, r⟩ := rx.lst
    exact ⟨a, vs, rfl, .inl (SqL.of ha), fun l hl => q l vs hl r⟩
  · cases e
    obtain ⟨a, vs, rfl, ha, r⟩ := rx.tup
    exact ⟨a, vs, rfl, .inr ha, fun l hl => q l vs hl r⟩
  · cases e
    obtain ⟨a, rfl, ha⟩ := rx.scr
    exact ⟨a, _, rfl, .inl ha, fun l hl => q l _ hl .ints⟩
  · cases e
theorem od_tuple {G : Gm} : C1D G (rTupF G.K) gTuple := by
  intro M H x vx d Q md e rx q
  unfold gTuple at e
  split at e
  · cases e
    obtain ⟨a, vs, rfl, ha, r⟩ := rx.lst
    exact ⟨a, vs, rfl, .inl ⟨SqL.of ha, fun l o hl ho => q _ _ (ext_new hl) (Rep.newTup ho hl md r)⟩⟩
  · cases e
    obtain ⟨a, vs, rfl, ha, r⟩ := rx.tupP
    exact ⟨a, vs, rfl, .inr ⟨ha.sqt, q _ H (fun _ _ h => h) ⟨a, vs, rfl, ha, r⟩⟩⟩
  · cases e
    obtain ⟨a, rfl, ha⟩ := rx.scr
    exact ⟨a, _, rfl, .inl ⟨ha, fun l o hl ho => q _ _ (ext_new hl) (Rep.newTup ho hl md .ints)⟩⟩
  · cases e
section
variable {X : Cx} {J : Jx} {e : Expr} {f : List Sl → RE D} {p pos : Pos}
theorem e_abs (hx : Gl X "abs") (hm : X.mg "abs" = none) (he : PE X e (tB J f)) (hs : starEach [e] X.env = (false, eval e X.env) :: starEach [] X.env := by rfl) (hpl : (backTo pos (starEach [] X.env)).any (·.1) = false := by rfl) : PE X (.Call (.Name "abs" p) [e] [] pos) (tE J (un gAbs f)) :=
  e_call1 call_abs od_abs hx hm (by decide +kernel) he hs (by decide) (by decide) hpl
theorem e_toInt (hx : Gl X "int") (hm : X.mg "int" = none) (he : PE X e (tB J f)) (hs : starEach [e] X.env = (false, eval e X.env) :: starEach [] X.env := by rfl) (hpl : (backTo pos (starEach [] X.env)).any (·.1) = false := by rfl) : PE X (.Call (.Name "int" p) [e] [] pos) (tE J (un gToInt f)) :=
  e_callT1 call_int1 od_toInt hx hm (by decide +kernel) he hs (by decide) (by decide) hpl
theorem e_sum (hK : X.K = J.G.K) (hc : X.calm = true) (hx : Gl X "sum") (hm : X.mg "sum" = none) (he : PE X e (tB J f)) (hs : starEach [e] X.env = (false, eval e X.env) :: starEach [] X.env := by rfl) (hpl : (backTo pos (starEach [] X.env)).any (·.1) = false := by rfl) : PE X (.Call (.Name "sum" p) [e] [] pos) (tE J (un gSum f)) :=
  e_call1 (cr_sum hc) (hK ▸ od_sum) hx hm (by decide +kernel) he hs (by decide) (by decide) hpl
theorem e_max (hK : X.K = J.G.K) (hc : X.calm = true) (hx : Gl X "max") (hm : X.mg "max" = none) (he : PE X e (tB J f)) (hs : starEach [e] X.env = (false, eval e X.env) :: starEach [] X.env := by rfl) (hpl : (backTo pos (starEach [] X.env)).any (·.1) = false := by rfl) : PE X (.Call (.Name "max" p) [e] [] pos) (tE J (un gMax f)) :=
  e_call1 (cr_max hc) (hK ▸ od_max) hx hm (by decide +kernel) he hs (by decide) (by decide) hpl
theorem e_min (hK : X.K = J.G.K) (hc : X.calm = true) (hx : Gl X "min") (hm : X.mg "min" = none) (he : PE X e (tB J f)) (hs : starEach [e] X.env = (false, eval e X.env) :: starEach [] X.env := by rfl) (hpl : (backTo pos (starEach [] X.env)).any (·.1) = false := by rfl) : PE X (.Call (.Name "min" p) [e] [] pos) (tE J (un gMin f)) :=
  e_call1 (cr_min hc) (hK ▸ od_min) hx hm (by decide +kernel) he hs (by decide) (by decide) hpl
theorem e_all (hK : X.K = J.G.K) (hc : X.calm = true) (hx : Gl X "all") (hm : X.mg "all" = none) (he : PE X e (tB J f)) (hs : starEach [e] X.env = (false, eval e X.env) :: starEach [] X.env := by rfl) (hpl : (backTo pos (starEach [] X.env)).any (·.1) = false := by rfl) : PE X (.Call (.Name "all" p) [e] [] pos) (tE J (un gAll f)) :=
  e_call1 (cr_all hc) (hK ▸ od_all) hx hm (by decide +kernel) he hs (by decide) (by decide) hpl
theorem e_any (hK : X.K = J.G.K) (hc : X.calm = true) (hx : Gl X "any") (hm : X.mg "any" = none) (he : PE X e (tB J f)) (hs : starEach [e] X.env = (false, eval e X.env) :: starEach [] X.env := by rfl) (hpl : (backTo pos (starEach [] X.env)).any (·.1) = false := by rfl) : PE X (.Call (.Name "any" p) [e] [] pos) (tE J (un gAny f)) :=
  e_call1 (cr_any hc) (hK ▸ od_any) hx hm (by decide +kernel) he hs (by decide) (by decide) hpl
theorem n_list (hK : X.K = J.G.K) (hx : Gl X "list") (hm : X.mg "list" = none) (he : PE X e (tB J f)) (hs : starEach [e] X.env = (false, eval e X.env) :: starEach [] X.env := by rfl) (hpl : (backTo pos (starEach [] X.env)).any (·.1) = false := by rfl) : PE X (.Call (.Name "list" p) [e] [] pos) (tN J (unN gList f)) :=
  n_callT1 call_list_of (hK ▸ od_list) hx hm (by decide +kernel) he hs (by decide) (by decide) hpl
theorem e_tuple (hK : X.K = J.G.K) (hx : Gl X "tuple") (hm : X.mg "tuple" = none) (he : PE X e (tB J f)) (hs : starEach [e] X.env = (false, eval e X.env) :: starEach [] X.env := by rfl) (hpl : (backTo pos (starEach [] X.env)).any (·.1) = false := by rfl) : PE X (.Call (.Name "tuple" p) [e] [] pos) (tE J (un gTuple f)) :=
  e_callT1 call_tuple_ofF (hK ▸ od_tuple) hx hm (by decide +kernel) he hs (by decide) (by decide) hpl
end

/-! ### isinstance -/
def tyD : D → Option String
  | .non => some "NoneType"
  | .bl _ => some "bool"
  | .int _ => some "int"
  | .str _ => some "str"
  | .tup _ => some "tuple"
  | .lst _ => some "list"
  | .dct _ _ => some "dict"
  | .scr _ => some "list"
  | _ => none
def isa (t T : String) : Bool := t == T || (t == "bool" && T == "int")
def gIsi (T : String) (d : D) : Option D := (tyD d).map fun t => .bl (isa t T)
def gIsi2 (T U : String) (d : D) : Option D := (tyD d).map fun t => .bl (isa t T || isa t U)
def tyAll : List String := ["NoneType", "bool", "int", "str", "tuple", "list", "dict"]
def KnowsTy (T : String) : Prop := ∀ t ∈ tyAll, kitB t T = some (isa t T)
theorem kt_int : KnowsTy "int" := by unfold KnowsTy tyAll isa; decide +kernel
theorem kt_bool : KnowsTy "bool" := by unfold KnowsTy tyAll isa; decide +kernel
theorem kt_str : KnowsTy "str" := by unfold KnowsTy tyAll isa; decide +kernel
theorem kt_tuple : KnowsTy "tuple" := by unfold KnowsTy tyAll isa; decide +kernel
theorem kt_list : KnowsTy "list" := by unfold KnowsTy tyAll isa; decide +kernel
theorem kt_dict : KnowsTy "dict" := by unfold KnowsTy tyAll isa; decide +kernel
theorem tyD_mem {d : D} {t : String} (h : tyD d = some t) : t ∈ tyAll := by
  cases d <;> simp [tyD] at h <;> subst h <;> decide
theorem SqL.tyx {K : PySem.W.Frag} {H : Hp} {a : Addr} {vs : List V} (h : SqL K H a vs) : TyX K H (.ref a) (.type "list") := by
  rcases h with (h | ⟨o, h⟩) | ⟨o, its, n, h, hc, _⟩
  · exact .base (.lst h)
  · exact .base (.frz h)
  · exact .kList h hc
theorem SqT.tyx {K : PySem.W.Frag} {H : Hp} {a : Addr} {vs : List V} (h : SqT K H a vs) : TyX K H (.ref a) (.type "tuple") := by
  rcases h with (h | ⟨o, h⟩) | ⟨o, its, n, h, hc, _⟩
  · exact .base (.tup h)
  · exact .fTuple h
  · exact .kTuple h hc
theorem DictIs.tyx {K : PySem.W.Frag} {H : Hp} {a : Addr} {ks : List D} {vs : List V} (h : DictIs H a ks vs) : TyX K H (.ref a) (.type "dict") := by
  rcases h with ⟨kvs, h, _⟩ | ⟨kvs, h, _⟩ | ⟨o, kvs, h, _⟩
  · exact .base (.dK h)
  · exact .base (.dT h)
  · exact .fDict h
theorem tyx_of {G : Gm} {M : Addr → Prop} {H : Hp} {d : D} {v : V} {t : String} (h : tyD d = some t) (r : RepB G M H d v) : TyX G.K H v (.type t) := by
  cases d with
  | non => cases h; cases r.non; exact .base .non
  | bl b => cases h; cases r.bl; exact .base (.bl b)
  | int i => cases h; cases r.int; exact .base (.int i)
  | str s => cases h; cases r.str; exact .base (.str s)
  | tup xs => cases h; obtain ⟨a, vs, rfl, ha, _⟩ := r.tup; exact SqT.tyx ha
  | lst xs => cases h; obtain ⟨a, vs, rfl, ha, _⟩ := r.lst; exact SqL.tyx (SqL.of ha)
  | dct ks ds => cases h; obtain ⟨a, vs, rfl, ha, _⟩ := r.dct; exact ha.tyx
  | scr ns => cases h; obtain ⟨a, rfl, ha⟩ := r.scr; exact SqL.tyx ha
  | ob _ _ _ => cases h
  | fn _ => cases h
theorem TyX.ext {K : PySem.W.Frag} {H H' : Hp} (ex : Extn H H') {v : V} {t : Value} (h : TyX K H v t) : TyX K H' v t := by
  cases h with
  | base b => exact .base (by
      cases b with
      | non => exact .non
      | bl x => exact .bl x
      | int i => exact .int i
      | str x => exact .str x
      | flt x => exact .flt x
      | lst e => exact .lst (ex _ _ e)
      | frz e => exact .frz (ex _ _ e)
      | tup e => exact .tup (ex _ _ e)
      | dK e => exact .dK (ex _ _ e)
      | dT e => exact .dT (ex _ _ e)
      | ins e c1 c2 c3 c4 c5 => exact .ins (ex _ _ e) c1 c2 c3 c4 c5)
  | byt b => exact .byt b
  | set e => exact .set (ex _ _ e)
  | kList e c => exact .kList e c
  | kTuple e c => exact .kTuple e c
  | kDict e c => exact .kDict e c
  | fTuple e => exact .fTuple (ex _ _ e)
  | fDict e => exact .fDict (ex _ _ e)
section
variable {X : Cx} {J : Jx} {e : Expr} {f : List Sl → RE D} {p q q2 tp pos : Pos} {T U : String} {x y : Str}
theorem pe_tyN (hg : Gl X x) (hm : X.mg x = none) (hv : bootBuiltins x = some (.type T)) (hn : x ≠ "__name__" := by decide) (hd : (x == ("__debug__" : Str)) = false := by decide) : PE X (.Name x q) (tC (.ty T)) :=
  ⟨fun pins s σ H Q I h => ld_blt I hg hm hv ⟨.ty T, H, I, rfl, h⟩ hn hd⟩
theorem e_isi (hK : X.K = J.G.K) (kt : KnowsTy T) (hx : Gl X "isinstance") (hm : X.mg "isinstance" = none) (he : PE X e (tB J f)) (hg : Gl X x) (hmx : X.mg x = none) (hv : bootBuiltins x = some (.type T))
    (hs : starEach [e, .Name x q] X.env = (false, eval e X.env) :: starEach [.Name x q] X.env := by rfl) (hs2 : starEach [.Name x q] X.env = (false, eval (.Name x q) X.env) :: starEach [] X.env := by rfl) (hpl : (backTo pos (starEach [.Name x q] X.env)).any (·.1) = false := by rfl)
    (hn : x ≠ "__name__" := by decide) (hd : (x == ("__debug__" : Str)) = false := by decide) :
    PE X (.Call (.Name "isinstance" p) [e, .Name x q] [] pos) (tE J (un (gIsi T) f)) :=
  PEi (pe_callB call_isi hx hm PyProof.Rows.boot_isinstance (pa_cons he (pa_cons (pe_tyN hg hmx hv hn hd) pa_nil hs2) hs) (by decide) (by decide) hs hpl) fun σ H Q ⟨M, r, I, h⟩ => ⟨M, r, I, Out.bind h fun d r1 v M1 H1 st1 I1 rd1 h1 => by
    show rIsi X.K [v, .ty T] H1 Q
    unfold gIsi at h1
    cases et : tyD d with
    | none => rw [et] at h1; exact h1.elim
    | some t =>
      rw [et] at h1
      exact ⟨v, .ty T, .type t, .type T, isa t T, rfl, .ty T, hK ▸ tyx_of et rd1, kit_ty (kt t (tyD_mem et)), h1 _ M1 H1 Step.refl I1 rfl⟩⟩
theorem e_isi2 {k : Nat} (hK : X.K = J.G.K) (kt : KnowsTy T) (ku : KnowsTy U) (hx : Gl X "isinstance") (hm : X.mg "isinstance" = none) (he : PE X e (tB J f)) (hg : Gl X x) (hmx : X.mg x = none) (hv : bootBuiltins x = some (.type T)) (hgy : Gl X y) (hmy : X.mg y = none) (hvy : bootBuiltins y = some (.type U))
    (hs : starEach [e, .Tuple [.Name x q, .Name y q2] k tp] X.env = (false, eval e X.env) :: starEach [.Tuple [.Name x q, .Name y q2] k tp] X.env := by rfl) (hs2 : starEach [.Tuple [.Name x q, .Name y q2] k tp] X.env = (false, eval (.Tuple [.Name x q, .Name y q2] k tp) X.env) :: starEach [] X.env := by rfl) (hpl : (backTo pos (starEach [.Tuple [.Name x q, .Name y q2] k tp] X.env)).any (·.1) = false := by rfl)
    (hs3 : starEach [.Name x q, .Name y q2] X.env = (false, eval (.Name x q) X.env) :: starEach [.Name y q2] X.env := by rfl) (hs4 : starEach [.Name y q2] X.env = (false, eval (.Name y q2) X.env) :: starEach [] X.env := by rfl)
    (hn : x ≠ "__name__" := by decide) (hd : (x == ("__debug__" : Str)) = false := by decide) (hny : y ≠ "__name__" := by decide) (hdy : (y == ("__debug__" : Str)) = false := by decide) :
    PE X (.Call (.Name "isinstance" p) [e, .Tuple [.Name x q, .Name y q2] k tp] [] pos) (tE J (un (gIsi2 T U) f)) :=
  PEi (pe_callB call_isiT hx hm PyProof.Rows.boot_isinstance (pa_cons he (pa_cons (pe_tup (pa_cons (pe_tyN hg hmx hv hn hd) (pa_cons (pe_tyN hgy hmy hvy hny hdy) pa_nil hs4) hs3)) pa_nil hs2) hs) (by decide) (by decide) hs hpl) fun σ H Q ⟨M, r, I, h⟩ => ⟨M, r, I, Out.bind h fun d r1 v M1 H1 st1 I1 rd1 h1 => by
    refine ⟨by show 2 ≤ sizeLine; rw [sizeLine_eq]; omega, fun a ha => ?_⟩
    show rIsiT X.K [v, .ref a] (upd H1 a (.tup [.ty T, .ty U])) Q
    unfold gIsi2 at h1
    cases et : tyD d with
    | none => rw [et] at h1; exact h1.elim
    | some t =>
      rw [et] at h1
      refine ⟨v, a, _, .type t, _, isa t T || isa t U, rfl, upd_same, .cons (.ty T) (.cons (.ty U) .nil), TyX.ext (ext_new ha) (hK ▸ tyx_of et rd1), ?_, h1 _ M1 _ (Step.ext (ext_new ha)) (I1.ext (ext_new ha)) rfl⟩
      refine kitAny_cons (kit_ty (kt t (tyD_mem et))) (fun e0 => ?_) (fun e0 => by rw [e0]; rfl)
      rw [e0, Bool.false_or]
      refine kitAny_cons (kit_ty (ku t (tyD_mem et))) (fun e1 => ?_) (fun e1 => e1)
      rw [e1]
      rfl⟩
end

/-! ### methods of an owned list -/
def isLst (i : Nat) (r : List Sl) : Bool := match r[i]? with
  | some (.own (.lst _)) => true
  | some (.io (.lst _)) => true
  | _ => false
def mutl (i : Nat) (g : D → List D → Option (D × D)) (fs : List Sl → RE (List D)) : List Sl → RE D := fun r => if isLst i r = true then mutm i g fs r else .bad
theorem mutl_core {K : PySem.W.Frag} {J : Jx} {r : V → List V → Hp → VK → Prop} {g : D → List D → Option (D × D)} {i : Nat} {fs : List Sl → RE (List D)} (hr : OwnM J.G r g) (σ : St) (H : Hp) (Q : VK) (h : tE J (mutl i g fs) σ H Q) : tBM K "list" r (tVar i) (tA J fs) σ H Q := by
  obtain ⟨M, r0, I, h⟩ := h
  unfold mutl at h
  split at h
  · rename_i hl
    obtain ⟨v, ev, _, q⟩ := mut_core hr σ H Q ⟨M, r0, I, h⟩
    refine ⟨v, ev, ?_, q⟩
    unfold isLst at hl
    split at hl
    · rename_i xs es
      obtain ⟨a, ea, _, ⟨vs, ha, _⟩, _⟩ := I.slot i _ es
      rw [ev] at ea; cases ea
      exact .inl ⟨rfl, vs, SqL.of ha⟩
    · rename_i xs es
      obtain ⟨a, ea, _, ⟨vs, ha, _⟩, _⟩ := I.slot i _ es
      rw [ev] at ea; cases ea
      exact .inl ⟨rfl, vs, SqL.of ha⟩
    · cases hl
  · exact h.elim
theorem kp_upd {H : Hp} {a : Addr} {o : HO} : ∀ b u, H b = some u → b ≠ a → upd H a o b = some u := fun b u h n => by rw [upd_ne n]; exact h
theorem Step.at {M : Addr → Prop} {H : Hp} {a : Addr} {o : HO} (m : M a) : Step M H M (upd H a o) := ⟨fun b u h n => by rw [upd_ne (by rintro rfl; exact n m)]; exact h, fun b h => .inl h⟩
def gAppend : D → List D → Option (D × D)
  | .lst xs, [d] => if xs.length < LIM then some (.non, .lst (xs ++ [d])) else none
  | _, _ => none
def gInsert : D → List D → Option (D × D)
  | .lst xs, [.int i, d] => if xs.length < LIM ∧ 0 ≤ i ∧ small i = true then some (.non, .lst (xs.take i.toNat ++ [d] ++ xs.drop i.toNat)) else none
  | _, _ => none
def gPop : D → List D → Option (D × D)
  | .lst xs, [] => xs.getLast?.map fun d => (d, .lst xs.dropLast)
  | _, _ => none
def gPopAt : D → List D → Option (D × D)
  | .lst xs, [.int i] => if small i = true then (seqIndex? i xs.length).bind fun k => (xs[k]?).map fun d => (d, .lst (xs.eraseIdx k)) else none
  | _, _ => none
def gExtend : D → List D → Option (D × D)
  | .lst xs, [.lst ys] => if xs.length + ys.length ≤ LIM then some (.non, .lst (xs ++ ys)) else none
  | _, _ => none
theorem RepL.one {G : Gm} {M : Addr → Prop} {H : Hp} {d : D} {v : V} (r : Rep G M H d v) : RepL G M H [d] [v] := ⟨v, [], rfl, r, rfl⟩
theorem om_append {G : Gm} : OwnM G rAppend gAppend := by
  intro M H a o ds vs res o' Q md m e own r q
  unfold gAppend at e
  split at e
  · split at e
    · rename_i hl
      cases e
      obtain ⟨ws, ha, rw1⟩ := own
      obtain ⟨v, _, rfl, rv, e2⟩ := r
      cases e2
      refine ⟨a, ws, v, rfl, rfl, ha, by rw [← rw1.length]; exact lt_size (Nat.le_of_lt hl), ?_⟩
      have st : Step M H M (upd H a (.lst (ws ++ [v]))) := Step.at m
      exact q _ _ kp_upd (md.upd trivial) ⟨_, upd_same, (RepL.step st md _ _ rw1).append ⟨v, [], rfl, Rep.step st md _ _ rv, rfl⟩⟩ rfl
    · cases e
  · cases e
theorem om_insert {G : Gm} : OwnM G (fun x vs H Q => ∃ (l : Addr) (xs : List V) (i : Int) (y : V), x = .ref l ∧ vs = [.int i, y] ∧ H l = some (.lst xs) ∧ xs.length < sizeLine ∧ 0 ≤ i ∧ i < 2 ^ 63 ∧
    Q .non (upd H l (.lst (xs.take i.toNat ++ [y] ++ xs.drop i.toNat)))) gInsert := by
  intro M H a o ds vs res o' Q md m e own r q
  unfold gInsert at e
  split at e
  · split at e
    · rename_i hl
      cases e
      obtain ⟨hl, h0, hs⟩ := hl
      have hz := small_ok hs
      obtain ⟨ws, ha, rw1⟩ := own
      obtain ⟨v0, _, rfl, rv0, v, _, rfl, rv, e2⟩ := r
      cases e2
      cases rv0
      refine ⟨a, ws, _, v, rfl, rfl, ha, by rw [← rw1.length]; exact lt_size (Nat.le_of_lt hl), h0, by omega, ?_⟩
      rename_i i _
      have st : Step M H M (upd H a (.lst (ws.take i.toNat ++ [v] ++ ws.drop i.toNat))) := Step.at m
      have rw2 := RepL.step st md _ _ rw1
      exact q _ _ kp_upd (md.upd trivial) ⟨_, upd_same, ((rw2.take _).append (RepL.one (Rep.step st md _ _ rv))).append (rw2.drop _)⟩ rfl
    · cases e
  · cases e
theorem RepL.dropLast {G : Gm} {M : Addr → Prop} {H : Hp} {ds : List D} {vs : List V} (h : RepL G M H ds vs) : RepL G M H ds.dropLast vs.dropLast := by
  rw [List.dropLast_eq_take, List.dropLast_eq_take, ← h.length]; exact h.take _
theorem RepL.eraseIdx {G : Gm} {M : Addr → Prop} {H : Hp} {ds : List D} {vs : List V} (k : Nat) (h : RepL G M H ds vs) : RepL G M H (ds.eraseIdx k) (vs.eraseIdx k) := by
  rw [List.eraseIdx_eq_take_drop_succ, List.eraseIdx_eq_take_drop_succ]; exact (h.take _).append (h.drop _)
theorem om_pop {G : Gm} : OwnM G rPop gPop := by
  intro M H a o ds vs res o' Q md m e own r q
  unfold gPop at e
  split at e
  · rw [Option.map_eq_some_iff] at e
    obtain ⟨d, ed, e⟩ := e
    cases e
    obtain ⟨ws, ha, rw1⟩ := own
    cases r
    rw [List.getLast?_eq_getElem?] at ed
    obtain ⟨v, hv, rv⟩ := rw1.get ed
    refine ⟨a, ws, v, rfl, rfl, ha, by rw [← rw1.length]; exact hv, ?_⟩
    have st : Step M H M (upd H a (.lst ws.dropLast)) := Step.at m
    exact q _ _ kp_upd (md.upd trivial) ⟨_, upd_same, (RepL.step st md _ _ rw1).dropLast⟩ (Rep.step st md _ _ rv)
  · cases e
theorem om_popAt {G : Gm} : OwnM G rPopAt gPopAt := by
  intro M H a o ds vs res o' Q md m e own r q
  unfold gPopAt at e
  split at e
  · split at e
    · rename_i hs
      rw [Option.bind_eq_some_iff] at e
      obtain ⟨k, ek, e⟩ := e
      rw [Option.map_eq_some_iff] at e
      obtain ⟨d, ed, e⟩ := e
      cases e
      have hz := small_ok hs
      obtain ⟨ws, ha, rw1⟩ := own
      obtain ⟨v0, _, rfl, rv0, e2⟩ := r
      cases e2
      cases rv0
      obtain ⟨v, hv, rv⟩ := rw1.get ed
      refine ⟨a, ws, _, k, v, rfl, rfl, ha, by omega, by omega, by rw [← rw1.length]; exact ek, hv, ?_⟩
      have st : Step M H M (upd H a (.lst (ws.eraseIdx k))) := Step.at m
      exact q _ _ kp_upd (md.upd trivial) ⟨_, upd_same, (RepL.step st md _ _ rw1).eraseIdx k⟩ (Rep.step st md _ _ rv)
    · cases e
  · cases e
theorem om_extend {G : Gm} : OwnM G rExtend gExtend := by
  intro M H a o ds vs res o' Q md m e own r q
  unfold gExtend at e
  split at e
  · split at e
    · rename_i hl
      cases e
      obtain ⟨ws, ha, rw1⟩ := own
      obtain ⟨v, _, rfl, ⟨b, us, rfl, nb, hb, ru⟩, e2⟩ := r
      cases e2
      refine ⟨a, b, ws, us, rfl, rfl, ha, hb, by rw [← rw1.length, ← ru.length]; exact le_size hl, ?_⟩
      have st : Step M H M (upd H a (.lst (ws ++ us))) := Step.at m
      exact q _ _ kp_upd (md.upd trivial) ⟨_, upd_same, (RepL.step st md _ _ rw1).append (RepL.step st md _ _ ru)⟩ rfl
    · cases e
  · cases e
section
variable {X : Cx} {J : Jx} {e : Expr} {es : List Expr} {f : List Sl → RE D} {fs : List Sl → RE (List D)} {p apos cpos : Pos} {x name : Str} {id : String}
theorem e_lm {r : V → List V → Hp → VK → Prop} {g : D → List D → Option (D × D)} (i : Nat) (slot : Slot "list" name id) (hty : typeOf (.builtin id) = pure (.type "method_descriptor")) (hm : MtR X id r) (hr : OwnM J.G r g) (ha : PA X (e :: es) (tA J fs))
    (hN : X.N[i]? = some x := by rfl) (hv : Vis X.env.scope x := by first | exact Or.inl rfl | exact Or.inr (Or.inl rfl) | exact Or.inr (Or.inr rfl)) (hd : (x == ("__debug__" : Str)) = false := by decide) (hcd : (x == ("__classdict__" : Str)) = false := by decide)
    (hbase : attributeBase (.Name x p) name X.env (eval (.Name x p) X.env) = eval (.Name x p) X.env := by rfl)
    (hfew : ((backTo cpos (starEach (e :: es) X.env)).all (fun x => !x.1) && (backToKw cpos (keywordEach [] X.env)).all (fun x => x.1.isSome)
      && decide ((e :: es).length + ([] : List Keyword).length + (if ([] : List Keyword).isEmpty then 0 else 1) < 30)) = true := by rfl)
    (hline : (apos.endLine == cpos.line) = true := by rfl) (hs : starEach (e :: es) X.env = (false, eval e X.env) :: starEach es X.env := by rfl) (hplain : (backTo cpos (starEach es X.env)).any (·.1) = false := by rfl) :
    PE X (.Call (.Attribute (.Name x p) name apos) (e :: es) [] cpos) (tE J (mutl i g fs)) :=
  PEi (pe_bm (PySem.F.plainAttrs_list) slot hty hm (pe_var hN hv hd hcd) ha hbase hfew hline hs hplain) fun σ H Q h => mutl_core hr σ H Q h
end
end DL

set_option Elab.async false
set_option linter.all false
set_option maxRecDepth 100000
set_option maxHeartbeats 4000000
namespace DL
open PySem L2

/-! ### slices -/
def RO1 : List Sl → St → (Addr → Prop) → Hp → Option Int → Option Int → Prop := fun _ _ _ _ a b => b = a
abbrev tO (J : Jx) (f : List Sl → RE (Option Int)) : TO := tX J RO1 f
def pno : List Sl → RE (Option Int) := fun r => .ok none r
def psome (f : List Sl → RE D) : List Sl → RE (Option Int) := fun r => (f r).bind fun d r1 => match d with
  | .int i => .ok (some i) r1
  | _ => .bad
theorem POi {X : Cx} {e : Option Expr} {t t' : TO} (h : PO X e t) (w : ∀ σ H Q, t' σ H Q → t σ H Q) : PO X e t' := ⟨fun pins s σ H Q I q => h.run pins s σ H Q I (w σ H Q q)⟩
def cut {α : Type} (xs : List α) (lo hi : Option Int) : List α := (xs.drop (HT.sIx xs.length 0 lo)).take (HT.sIx xs.length xs.length hi - HT.sIx xs.length 0 lo)
def gSl (lo hi : Option Int) : D → Option D
  | .lst xs => some (.lst (cut xs lo hi))
  | .tup xs => some (.tup (cut xs lo hi))
  | .str z => if z.length ≤ LIM then some (.str ⟨(cut z.cps.toList lo hi).toArray⟩) else none
  | _ => none
theorem RepL.cut {G : Gm} {M : Addr → Prop} {H : Hp} {ds : List D} {vs : List V} (r : RepL G M H ds vs) (lo hi : Option Int) : RepL G M H (DL.cut ds lo hi) (cutV vs lo hi) := by
  unfold DL.cut cutV
  rw [← r.length]
  exact (r.drop _).take _
theorem cut_all {α : Type} {xs : List α} {lo hi : Option Int} (h : HT.sIx xs.length 0 lo = 0 ∧ HT.sIx xs.length xs.length hi = xs.length) : cut xs lo hi = xs := by
  unfold cut
  rw [h.1, h.2]
  simp
def rSlD (K : PySem.W.Frag) : V → Option Int → Option Int → Hp → VK → Prop := fun x lo hi H Q => rSlL K x lo hi H Q ∨ (rSlF K x lo hi H Q ∨ rSlS x lo hi H Q)
theorem sl_D {X : Cx} : SlR X (rSlD X.K) := SlR.or sl_list (SlR.or sl_tupF sl_str)
theorem od_sl {G : Gm} {M : Addr → Prop} {H : Hp} {x d : D} {vx : V} {lo hi : Option Int} {Q : VK} (md : MD M H) (e : gSl lo hi x = some d) (rx : RepB G M H x vx) (q : ∀ v H', Extn H H' → Rep G M H' d v → Q v H') : rSlD G.K vx lo hi H Q := by
  unfold gSl at e
  split at e
  · cases e
    obtain ⟨a, vs, rfl, ha, r⟩ := rx.lst
    exact .inl ⟨a, vs, rfl, SqL.of ha, fun p hp => q _ _ (ext_new hp) (Rep.newLst hp md (r.cut lo hi))⟩
  · cases e
    obtain ⟨a, vs, rfl, ha, r⟩ := rx.tupP
    refine .inr (.inl ⟨a, vs, rfl, ha.sqt, fun hw => ?_, fun hn p o hp ho => q _ _ (ext_new hp) (Rep.newTup ho hp md (r.cut lo hi))⟩)
    rw [← r.length] at hw
    rw [cut_all hw] at q
    exact q _ H (fun _ _ h => h) ⟨a, vs, rfl, ha, r⟩
  · split at e
    · rename_i z hl
      cases e; cases rx.str
      refine .inr (.inr ⟨z, rfl, le_size hl, q _ H (fun _ _ h => h) ?_⟩)
      show V.str _ = V.str _
      congr 1
    · cases e
  · cases e
def slc (f : List Sl → RE D) (flo fhi : List Sl → RE (Option Int)) : List Sl → RE D := fun r => (f r).bind fun x r1 => (flo r1).bind fun lo r2 => (fhi r2).bind fun hi r3 => liftO (gSl lo hi x) r3
/-- the base a name, read where it stands -/
def slcL (i : Nat) (flo fhi : List Sl → RE (Option Int)) : List Sl → RE D := fun r => if has i r then (flo r).bind fun lo r2 => (fhi r2).bind fun hi r3 => (pk i r3).bind fun x r4 => liftO (gSl lo hi x) r4 else .bad
section
variable {X : Cx} {J : Jx} {e : Expr} {lo hi : Option Expr} {f : List Sl → RE D} {flo fhi : List Sl → RE (Option Int)} {p p2 pos : Pos} {x : Str}
theorem p_none : PO X none (tO J pno) := POi po_none fun σ H Q ⟨M, r, I, h⟩ => h none M H Step.refl I rfl
theorem p_some (h : PE X e (tE J f)) : PO X (some e) (tO J (psome f)) := POi (po_some h) fun σ H Q ⟨M, r, I, q⟩ => ⟨M, r, I, Out.bind q fun d r1 v M1 H1 st1 I1 rd1 h1 => by
  cases d with
  | int i => cases rd1; exact ⟨i, rfl, h1 _ M1 H1 Step.refl I1 rfl⟩
  | _ => exact h1.elim⟩
theorem e_sl (hK : X.K = J.G.K) (he : PE X e (tE J f)) (hl : PO X lo (tO J flo)) (hh : PO X hi (tO J fhi)) : PE X (.Subscript e (.Slice lo hi none p2) pos) (tE J (slc f flo fhi)) :=
  PEi (pe_slice (hK ▸ sl_D) he hl hh) fun σ H Q ⟨M, r, I, h⟩ => ⟨M, r, I, Out.bind h fun x r1 vx M1 H1 st1 I1 rx h1 => ⟨M1, r1, I1, Out.bind h1 fun l r2 l' M2 H2 st2 I2 el h2 => ⟨M2, r2, I2, Out.bind h2 fun u r3 u' M3 H3 st3 I3 eu h3 => by
    cases el; cases eu
    cases e1 : gSl l u x with
    | none => rw [e1] at h3; exact h3.elim
    | some d => rw [e1] at h3; exact od_sl I3.md e1 (.inl (Rep.step st3 I2.md _ _ (Rep.step st2 I1.md _ _ rx))) fun v H' ex q => h3 v M3 H' (Step.ext ex) (I3.ext ex) q⟩⟩⟩
theorem e_slL (i : Nat) (hK : X.K = J.G.K) (hl : PO X lo (tO J flo)) (hh : PO X hi (tO J fhi)) (hN : X.N[i]? = some x := by rfl) (hv : Vis X.env.scope x := by first | exact Or.inl rfl | exact Or.inr (Or.inl rfl) | exact Or.inr (Or.inr rfl)) (hd : (x == ("__debug__" : Str)) = false := by decide)
    (hcd : (x == ("__classdict__" : Str)) = false := by decide) : PE X (.Subscript (.Name x p) (.Slice lo hi none p2) pos) (tE J (slcL i flo fhi)) :=
  PEi (pe_slice (hK ▸ sl_D) (pe_var hN hv hd hcd) hl hh) fun σ H Q ⟨M, r, I, h⟩ => by
    unfold slcL at h
    split at h
    · rename_i hh
      obtain ⟨v, hv⟩ := has_core I hh
      refine ⟨v, hv, M, r, I, Out.bind h fun l r2 l' M2 H2 st2 I2 el h2 => ⟨M2, r2, I2, Out.bind h2 fun u r3 u' M3 H3 st3 I3 eu h3 => ?_⟩⟩
      cases el; cases eu
      cases e : pk i r3 with
      | ok d r4 =>
        rw [e] at h3
        obtain ⟨rfl, w, hw, q⟩ := pk_core I3 e
        rw [hv] at hw
        cases hw
        have h3 : Out J (RV J) M3 H3 σ (liftO (gSl l u d) r4) Q := h3
        cases e1 : gSl l u d with
        | none => rw [e1] at h3; exact h3.elim
        | some d' => rw [e1] at h3; exact od_sl I3.md e1 q fun v H' ex q => h3 v M3 H' (Step.ext ex) (I3.ext ex) q
      | exn x r1 => unfold pk at e; split at e <;> cases e
      | bad => rw [e] at h3; exact h3.elim
    · exact h.elim

/-! ### list(range(..)) -/
def lrng (f g : List Sl → RE D) : List Sl → RE D := fun r => (f r).bind fun d r1 => (g r1).bind fun d' r2 => match d, d' with
  | .int i, .int j => if (small i && small j && decide ((j - i).toNat ≤ LIM)) = true then .ok (.lst (rngL i j)) r2 else .bad
  | _, _ => .bad
theorem rngL_rep {G : Gm} {M : Addr → Prop} {H : Hp} {a b : Int} : RepL G M H (rngL a b) (rgV a b) := by
  have e1 : rngL a b = ((List.range (b - a).toNat).map fun (i : Nat) => a + (i : Int)).map D.int := by unfold rngL; rw [List.map_map]; rfl
  have e2 : rgV a b = ((List.range (b - a).toNat).map fun (i : Nat) => a + (i : Int)).map V.int := by unfold rgV; rw [List.map_map]; rfl
  rw [e1, e2]
  exact .ints
variable {a b : Expr} {fa fb : List Sl → RE D} {p3 pos3 : Pos}
theorem n_listRg (hc : X.calm = true) (hx : Gl X "list") (hm : X.mg "list" = none) (hxr : Gl X "range") (hmr : X.mg "range" = none) (ha : PE X a (tE J fa)) (hb : PE X b (tE J fb))
    (na : starEach [a, b] X.env = (false, eval a X.env) :: starEach [b] X.env := by rfl) (nb : starEach [b] X.env = (false, eval b X.env) :: starEach [] X.env := by rfl) (hp : (backTo pos3 (starEach [b] X.env)).any (·.1) = false := by rfl)
    (ne : starEach [.Call (.Name "range" p3) [a, b] [] pos3] X.env = (false, eval (.Call (.Name "range" p3) [a, b] [] pos3) X.env) :: starEach [] X.env := by rfl) :
    PE X (.Call (.Name "list" p) [.Call (.Name "range" p3) [a, b] [] pos3] [] pos) (tN J (lrng fa fb)) :=
  PEi (pe_listRg hc hx hm (prg_2 hxr hmr ha hb na nb hp) ne) fun σ H Q ⟨M, r, I, h⟩ => ⟨M, r, I, Out.bind h fun d r1 v M1 H1 st1 I1 rd1 h1 => ⟨M1, r1, I1, Out.bind h1 fun d' r2 v' M2 H2 st2 I2 rd2 h2 => by
    cases d with
    | int i =>
      cases rd1
      cases d' with
      | int j =>
        cases rd2
        dsimp only at h2
        split at h2
        · rename_i hs'
          rw [Bool.and_eq_true, Bool.and_eq_true] at hs'
          have hz := small_ok hs'.1.1
          have hy := small_ok hs'.1.2
          have hn := of_decide_eq_true hs'.2
          refine ⟨i, j, rfl, rfl, ⟨hz.1, hz.2, hy.1, hy.2, Nat.le_trans hn (by decide)⟩, fun q hq => new_lst I2 hq rngL_rep h2⟩
        · exact h2.elim
      | _ => exact h2.elim
    | _ => exact h2.elim⟩⟩
end

/-! ### calls to which owned objects are lent -/
mutual
def imm : D → Bool
  | .non => true
  | .bl _ => true
  | .int _ => true
  | .str _ => true
  | .tup xs => immL xs
  | .fn _ => true
  | _ => false
def immL : List D → Bool
  | [] => true
  | d :: ds => imm d && immL ds
end
mutual
theorem Rep.imm {G : Gm} {M M' : Addr → Prop} {H : Hp} : ∀ (d : D) (v : V), imm d = true → Rep G M H d v → Rep G M' H d v
  | .non, _, _, h => h
  | .bl _, _, _, h => h
  | .int _, _, _, h => h
  | .str _, _, _, h => h
  | .tup xs, _, e, ⟨a, vs, ev, q, r⟩ => ⟨a, vs, ev, q, RepL.imm xs vs e r⟩
  | .fn _, _, _, h => h
theorem RepL.imm {G : Gm} {M M' : Addr → Prop} {H : Hp} : ∀ (ds : List D) (vs : List V), immL ds = true → RepL G M H ds vs → RepL G M' H ds vs
  | [], _, _, h => h
  | d :: ds, _, e, ⟨v, ws, ev, q, r⟩ => by
    have e' : (DL.imm d && DL.immL ds) = true := e
    rw [Bool.and_eq_true] at e'
    exact ⟨v, ws, ev, Rep.imm d v e'.1 q, RepL.imm ds ws e'.2 r⟩
end
def RepLB (G : Gm) (M : Addr → Prop) (H : Hp) : List D → List V → Prop
  | [], vs => vs = []
  | d :: ds, vs => ∃ v ws, vs = v :: ws ∧ RepB G M H d v ∧ RepLB G M H ds ws
theorem RepB.lent {G : Gm} {M : Addr → Prop} {H : Hp} {d : D} {v : V} (h : RepB G M H d v) : Rep G (fun _ => False) H d v := by
  rcases h with h | ⟨a, rfl, h⟩
  · exact Rep.anti (fun _ z => z.elim) _ _ h
  · exact (OwnAt.anti (M := fun _ => False) (fun _ z => z.elim) h).rep fun z => z
theorem RepLB.lent {G : Gm} {M : Addr → Prop} {H : Hp} : ∀ {ds : List D} {vs : List V}, RepLB G M H ds vs → RepL G (fun _ => False) H ds vs
  | [], _, h => h
  | d :: ds, _, ⟨v, ws, e, q, r⟩ => ⟨v, ws, e, q.lent, RepLB.lent r⟩
def RVB (J : Jx) : List Sl → St → (Addr → Prop) → Hp → List D → List V → Prop := fun _ _ M H d v => RepLB J.G M H d v
abbrev tAB (J : Jx) (f : List Sl → RE (List D)) : TA := tX J (RVB J) f
/-- a name, read where it stands behind the other arguments -/
def apk (i : Nat) (fs : List Sl → RE (List D)) : List Sl → RE (List D) := fun r => if has i r then (fs r).bind fun ds r1 => (pk i r1).bind fun d r2 => .ok (d :: ds) r2 else .bad
def doFB (m : RF) (r : List Sl) : RE D := match m with
  | .ok d _ => if imm d = true then .ok d r else .bad
  | .exn x _ => if immL x.ds = true then .exn x r else .bad
  | .bad => .bad
def callB (F : List D → RF) (fs : List Sl → RE (List D)) : List Sl → RE D := fun r => (fs r).bind fun ds r1 => doFB (F ds) r1
section
variable {X : Cx} {J : Jx} {k : Nat} {f : Addr} {fd : FuncData} {ps : List Str} {F : List D → RF} {x y : Str} {p pos : Pos} {e : Expr} {es : List Expr} {fe : List Sl → RE D} {fs : List Sl → RE (List D)}
theorem ab_nil : PA X [] (tAB J anil) := PAi pa_nil fun σ H Q ⟨M, r, I, h⟩ => h [] M H Step.refl I rfl
theorem ab_cons (ha : PE X e (tE J fe)) (hr : PA X es (tAB J fs)) (hs : starEach (e :: es) X.env = (false, eval e X.env) :: starEach es X.env := by rfl) : PA X (e :: es) (tAB J (acons fe fs)) :=
  PAi (pa_cons ha hr hs) fun σ H Q ⟨M, r, I, h⟩ => ⟨M, r, I, Out.bind h fun d r1 v M1 H1 st1 I1 rd1 h1 =>
    ⟨M1, r1, I1, Out.bind h1 fun ds r2 vs M2 H2 st2 I2 rd2 h2 => h2 (v :: vs) M2 H2 Step.refl I2 ⟨v, vs, rfl, .inl (Rep.step st2 I1.md _ _ rd1), rd2⟩⟩⟩
theorem ab_pk (i : Nat) (hr : PA X es (tAB J fs)) (hN : X.N[i]? = some y := by rfl) (hv : Vis X.env.scope y := by first | exact Or.inl rfl | exact Or.inr (Or.inl rfl) | exact Or.inr (Or.inr rfl)) (hd : (y == ("__debug__" : Str)) = false := by decide) (hcd : (y == ("__classdict__" : Str)) = false := by decide)
    (hs : starEach (.Name y p :: es) X.env = (false, eval (.Name y p) X.env) :: starEach es X.env := by rfl) : PA X (.Name y p :: es) (tAB J (apk i fs)) :=
  PAi (pa_cons (pe_var hN hv hd hcd) hr hs) fun σ H Q ⟨M, r, I, h⟩ => by
    unfold apk at h
    split at h
    · rename_i hh
      obtain ⟨v, hv⟩ := has_core I hh
      refine ⟨v, hv, M, r, I, Out.bind h fun ds r1 vs M1 H1 st1 I1 rd1 h1 => ?_⟩
      cases e : pk i r1 with
      | ok d r4 =>
        rw [e] at h1
        obtain ⟨rfl, w, hw, q⟩ := pk_core I1 e
        rw [hv] at hw
        cases hw
        exact h1 (v :: vs) M1 H1 Step.refl I1 ⟨v, vs, rfl, q, rd1⟩
      | exn x r1 => unfold pk at e; split at e <;> cases e
      | bad => rw [e] at h1; exact h1.elim
    · exact h.elim
theorem doFB_core {M : Addr → Prop} {H : Hp} {σ : St} {r : List Sl} {ds : List D} {vs : List V} {Q : VK} (I : SI J M r σ H) (rd : RepLB J.G M H ds vs) (h : Out J (RV J) M H σ (doFB (F ds) r) Q) : spP J.G F vs H Q (WE J.W σ) := by
  refine ⟨fun _ => False, ds, fun _ z => z.elim, rd.lent, ?_⟩
  unfold doFB at h
  cases e : F ds with
  | ok d o =>
    rw [e] at h
    dsimp only at h
    split at h
    · rename_i hi
      exact fun v H' ex rv => h v M H' (Step.ext ex) (I.ext ex) (Rep.imm _ _ hi rv)
    · exact h.elim
  | exn x o =>
    rw [e] at h
    dsimp only at h
    split at h
    · rename_i hi
      intro cls dd H' ex ⟨C, h1, h2, vs', h3, h4, h5⟩
      exact h cls dd M H' (Step.ext ex) (I.ext ex) ⟨C, h1, h2, vs', h3, RepL.imm _ _ hi h4, h5⟩
    · exact h.elim
  | bad => rw [e] at h; exact h.elim
theorem e_callB (Fk : FnG X.prog X.w X.K X.mg X.base k f fd ps (spP J.G F)) (hr : Room k X.A) (hgd : X.A.guards = some []) (tk : Takes X J.W) (hg : Gl X x) (hm : X.mg x = some (.ref f)) (hk : PySem.W.keepIn X.K (.ref f) = true) (hb : Binds X.K fd ps [])
    (ha : PA X (e :: es) (tAB J fs)) (hdb : (x == ("__debug__" : Str)) = false := by decide) (he : starEach (e :: es) X.env = (false, eval e X.env) :: starEach es X.env := by rfl) (hpl : (backTo pos (starEach es X.env)).any (·.1) = false := by rfl) :
    PE X (.Call (.Name x p) (e :: es) [] pos) (tE J (callB F fs)) :=
  PEi (pe_callG Fk hr hgd hg hm hk hb .nil tk ha hdb he hpl) fun σ H Q ⟨M, r, I, h⟩ => ⟨M, r, I, Out.bind h fun ds r1 vs M1 H1 st1 I1 rd1 h1 => by show spP J.G F (vs ++ []) H1 Q (WE J.W σ); rw [List.append_nil]; exact doFB_core I1 rd1 h1⟩
end

/-! ### repr -/
def gRepr (d : D) : Option D := if okd 20 d && (toPy d).showable && decide ((toPy d).shown.length ≤ LIM) && !(toPy d).hasDict then (match d with
  | .non => some (.str "None")
  | .bl b => some (.str (if b then "True" else "False"))
  | .int i => if i.natAbs.log2 < 1000 then some (.str (toString i)) else none
  | .str s => if (PySem.reprText s).length ≤ LIM then some (.str (PySem.reprText s)) else none
  | .tup _ => some (.str (toPy d).shown)
  | .lst _ => some (.str (toPy d).shown)
  | _ => none) else none
def rRepr (K : PySem.W.Frag) : List V → Hp → VK → Prop := fun xs H Q => ∃ (x : V) (d : PyData), xs = [x] ∧ Dp K H x d ∧ d.showable = true ∧ d.shown.length ≤ sizeLine ∧ d.hasDict = false ∧ d.depth ≤ 40 ∧ (match x with
  | .non => Q (.str "None") H
  | .bl b => Q (.str (if b then "True" else "False")) H
  | .int i => i.natAbs.log2 < 1920 ∧ Q (.str (toString i)) H
  | .str s => (PySem.reprText s).length ≤ sizeLine ∧ Q (.str (PySem.reprText s)) H
  | .ref a => Q (.str d.shown) H
  | _ => False)
theorem call_repr {X : Cx} (hu : X.A.units + 64 < cLine) (hgd : X.A.guards = some []) : CallR X (.builtin "repr") (rRepr X.K) := by
  intro pins s σ H xs us Q I r h
  obtain ⟨x, d, rfl, hd, hs, hl, hn, hz, q⟩ := h
  obtain ⟨u, eu, rx⟩ := vals1 r
  subst eu
  obtain ⟨as, rs⟩ := Dp.reads I d x u hd rx
  cases x with
  | non => cases (show u = Value.none from rx); exact PySem.P.repr_of_none ⟨.str _, H, I.tok _, ⟨_, rfl⟩, q⟩
  | bl b => cases (show u = Value.bool b from rx); exact PySem.P.repr_of_bool ⟨.str _, H, I.tok _, ⟨_, rfl⟩, q⟩
  | int i => obtain ⟨t, q2⟩ := (show ∃ t, u = Value.int i t from rx); cases q2; exact PySem.P.repr_of_int q.1 ⟨.str _, H, I.tok _, ⟨_, rfl⟩, q.2⟩
  | str y => obtain ⟨t, q2⟩ := (show ∃ t, u = Value.str y t from rx); cases q2; exact PySem.P.repr_of_str ⟨.str _, H, I.tok _, ⟨_, rfl⟩, q.2⟩ q.1
  | ref a =>
    cases (show u = Value.ref a from rx)
    exact PySem.repr_of_reads' rs hs (fun z => by rw [hn] at z; cases z) hgd (by omega) (fun _ _ e => e) (fun h' v tk hk => ⟨.str _, H, I.kept hk, ⟨_, rfl⟩, q⟩) hl
  | _ => exact q.elim
theorem od_repr {G : Gm} : C1D G (rRepr G.K) gRepr := by
  intro M H x vx d Q md e rx q
  unfold gRepr at e
  split at e
  · rename_i h
    rw [Bool.and_eq_true, Bool.and_eq_true, Bool.and_eq_true] at h
    obtain ⟨⟨⟨h1, h2⟩, h3⟩, h4⟩ := h
    have p1 := plain_of x 20 h1
    refine ⟨vx, toPy x, rfl, dp_ofB h1 rx, h2, le_size (of_decide_eq_true h3), by simpa using h4, by omega, ?_⟩
    split at e
    · cases e; cases rx.non; exact q _ H (fun _ _ h => h) rfl
    · cases e; cases rx.bl; exact q _ H (fun _ _ h => h) rfl
    · split at e
      · cases e; cases rx.int; exact ⟨by omega, q _ H (fun _ _ h => h) rfl⟩
      · cases e
    · split at e
      · rename_i hl; cases e; cases rx.str; exact ⟨le_size hl, q _ H (fun _ _ h => h) rfl⟩
      · cases e
    · cases e; obtain ⟨a, vs, rfl, _⟩ := rx.tup; exact q _ H (fun _ _ h => h) rfl
    · cases e; obtain ⟨a, vs, rfl, _⟩ := rx.lst; exact q _ H (fun _ _ h => h) rfl
    · cases e
  · cases e
section
variable {X : Cx} {J : Jx} {e : Expr} {f : List Sl → RE D} {p pos : Pos}
theorem e_repr (hK : X.K = J.G.K) (hu : X.A.units + 64 < cLine) (hgd : X.A.guards = some []) (hx : Gl X "repr") (hm : X.mg "repr" = none) (he : PE X e (tB J f)) (hs : starEach [e] X.env = (false, eval e X.env) :: starEach [] X.env := by rfl) (hpl : (backTo pos (starEach [] X.env)).any (·.1) = false := by rfl) : PE X (.Call (.Name "repr" p) [e] [] pos) (tE J (un gRepr f)) :=
  e_call1 (call_repr hu hgd) (hK ▸ od_repr) hx hm (by decide +kernel) he hs (by decide) (by decide) hpl
end

/-! ### try, except -/
def noXc (r : List Sl) : Bool := r.all fun s => match s with
  | .xc _ => false
  | _ => true
def dropAt (i : Nat) : RS → RS
  | .nx r => if noXc (r.set i .un) = true then .nx (r.set i .un) else .bad
  | .bk r => if noXc (r.set i .un) = true then .bk (r.set i .un) else .bad
  | .ct r => if noXc (r.set i .un) = true then .ct (r.set i .un) else .bad
  | .rt d r => if noXc (r.set i .un) = true then .rt d (r.set i .un) else .bad
  | .exn _ _ => .bad
  | .bad => .bad
def keepAt : RS → RS
  | .nx r => if noXc r = true then .nx r else .bad
  | .bk r => if noXc r = true then .bk r else .bad
  | .ct r => if noXc r = true then .ct r else .bad
  | .rt d r => if noXc r = true then .rt d r else .bad
  | .exn _ _ => .bad
  | .bad => .bad
/-- except C as n (slot i): cat tells which classes are C's -/
def stry (i : Nat) (cat : Str → Option Bool) (fb fs : List Sl → RS) : List Sl → RS := fun r => match fb r with
  | .exn x r1 => (match cat x.c with
    | some true => if noXc r1 = true then dropAt i (fs (r1.set i (.xc x))) else .bad
    | some false => .exn x r1
    | none => .bad)
  | o => o
/-- except C, without a name -/
def stry0 (cat : Str → Option Bool) (fb fs : List Sl → RS) : List Sl → RS := fun r => match fb r with
  | .exn x r1 => (match cat x.c with
    | some true => if noXc r1 = true then keepAt (fs r1) else .bad
    | some false => .exn x r1
    | none => .bad)
  | o => o
def CatOk (G : Gm) (c : Value) (cat : Str → Option Bool) : Prop := ∀ nm C b, cat nm = some b → G.mg nm = some (.ref C) → PySem.W.exmOne G.K (.ref C) c = some b
/-- what a suite's derivation is given: the exception at a -/
def Jx.sui (J : Jx) (a : Addr) (cls : Value) (d : Option Addr) : Jx := { J with hx := some (a, cls, d), W := fun _ _ _ _ => False }
section
variable {J : Jx} {M : Addr → Prop} {r : List Sl} {σ : St} {H : Hp}
theorem SI.reJ {J' : Jx} (hG : J'.G = J.G) (h0 : J'.M0 = J.M0) (h1 : J'.H0 = J.H0) (hio : J'.io = J.io) (hx : J'.hx = J.hx ∨ noXc r = true) (I : SI J M r σ H) : SI J' M r σ H := by
  obtain ⟨G', M0', H0', io', W', hx'⟩ := J'
  dsimp only at hG h0 h1 hio
  subst hG h0 h1 hio
  refine ⟨I.md, I.m0, I.io0, I.keep, I.len, fun i s hs => ?_, I.dist⟩
  have z := I.slot i s hs
  cases s with
  | un => trivial
  | val d => exact z
  | own d => exact z
  | io d => exact z
  | xc x =>
    rcases hx with hx | hx
    · dsimp only at hx; subst hx; exact z
    · have := List.all_eq_true.mp hx _ (List.mem_of_getElem? hs)
      cases this
/-- a name is bound to the exception -/
theorem SI.setXc {i : Nat} {x : Xn} {a : Addr} {cls : Value} {dd : Option Addr} (I : SI J M r σ H) (hx : J.hx = some (a, cls, dd)) (h : RepX J.G M H x cls dd) : SI J M (r.set i (.xc x)) (σ.set i (some (.ref a))) H := by
  have hl := I.len
  refine ⟨I.md, I.m0, I.io0, I.keep, by rw [List.length_set, List.length_set]; exact I.len, fun j t e => ?_, fun j k t u c e1 e2 h1 h2 h3 h4 => ?_⟩
  · rw [List.getElem?_set] at e ⊢
    by_cases hj : i = j
    · subst hj
      rw [if_pos rfl] at e ⊢
      split at e
      · cases e
        rename_i hlt
        rw [if_pos (by omega)]
        exact ⟨a, cls, dd, rfl, hx, h⟩
      · cases e
    · rw [if_neg hj] at e ⊢
      exact I.slot j t e
  · rw [List.getElem?_set] at e1 e2 h3 h4
    by_cases hj : i = j
    · subst hj
      rw [if_pos rfl] at e1
      split at e1
      · cases e1; cases h1
      · cases e1
    · by_cases hk : i = k
      · subst hk
        rw [if_pos rfl] at e2
        split at e2
        · cases e2; cases h2
        · cases e2
      · rw [if_neg hj] at e1 h3
        rw [if_neg hk] at e2 h4
        exact I.dist j k t u c e1 e2 h1 h2 h3 h4
end
section
variable {X : Cx} {J : Jx} {x n : Str} {c : Value} {i : Nat} {body suite : List Stmt} {b₀ : Stmt} {np pos pos' : Pos} {fb fs : List Sl → RS} {cat : Str → Option Bool}
theorem SI.unSui {a : Addr} {cls : Value} {d : Option Addr} {M : Addr → Prop} {r : List Sl} {σ : St} {H : Hp} (I : SI (J.sui a cls d) M r σ H) (h : noXc r = true) : SI J M r σ H := SI.reJ (J := J.sui a cls d) (J' := J) rfl rfl rfl rfl (.inr h) I
theorem noXc_set {r : List Sl} (h : noXc r = true) (i : Nat) {s : Sl} (hs : (match s with | .xc _ => false | _ => true) = true) : noXc (r.set i s) = true := by
  unfold noXc at h ⊢
  rw [List.all_eq_true] at h ⊢
  intro t ht
  rcases List.mem_or_eq_of_mem_set ht with z | z
  · exact h t z
  · subst z; exact hs
theorem tS_reW {W' : WX} {M : Addr → Prop} {r : List Sl} {σ : St} {H : Hp} (I : SI J M r σ H) : SI { J with W := W' } M r σ H := SI.reJ (J := J) rfl rfl rfl rfl (.inl rfl) I
theorem tS_unW {W' : WX} {M : Addr → Prop} {r : List Sl} {σ : St} {H : Hp} (I : SI { J with W := W' } M r σ H) : SI J M r σ H := SI.reJ (J := { J with W := W' }) (J' := J) rfl rfl rfl rfl (.inl rfl) I
/-- the body of a try, from the whole's reading -/
theorem try_core {W' : WX} {D : Ends} {M : Addr → Prop} {H : Hp} {m : RS} {k : Xn → List Sl → RS} (h : OutS J M H (match m with
    | .exn x r1 => k x r1
    | o => o) D) (hx : ∀ x r1 cls dd M' σ' H', m = .exn x r1 → Step M H M' H' → SI J M' r1 σ' H' → RepX J.G M' H' x cls dd → OutS J M' H' (k x r1) D → W' cls dd σ' H') : OutS { J with W := W' } M H m D := by
  cases m with
  | nx r1 => exact fun M' σ' H' st I => h M' σ' H' st (tS_unW I)
  | bk r1 => exact fun M' σ' H' st I => h M' σ' H' st (tS_unW I)
  | ct r1 => exact fun M' σ' H' st I => h M' σ' H' st (tS_unW I)
  | rt d r1 => exact fun v M' σ' H' st I => h v M' σ' H' st (tS_unW I)
  | exn x r1 => exact fun cls dd M' σ' H' st I rx => hx x r1 cls dd M' σ' H' rfl st (tS_unW I) rx (OutS.step st h)
  | bad => exact h
theorem sui_core {a : Addr} {cls : Value} {dd : Option Addr} {D : Ends} {M : Addr → Prop} {H : Hp} {m : RS} (h : OutS J M H (dropAt i m) D) :
    OutS (J.sui a cls dd) M H m { nx := fun σ' H' => D.nx (σ'.set i none) H', rt := D.rt, bk := fun σ' H' => D.bk (σ'.set i none) H', ct := fun σ' H' => D.ct (σ'.set i none) H' } := by
  cases m with
  | nx r1 =>
    have h : OutS J M H (if noXc (r1.set i .un) = true then .nx (r1.set i .un) else .bad) D := h
    by_cases hn : noXc (r1.set i .un) = true
    · rw [if_pos hn] at h; exact fun M' σ' H' st I => h M' _ H' st (SI.unSui (SI.drop I) hn)
    · rw [if_neg hn] at h; exact h.elim
  | bk r1 =>
    have h : OutS J M H (if noXc (r1.set i .un) = true then .bk (r1.set i .un) else .bad) D := h
    by_cases hn : noXc (r1.set i .un) = true
    · rw [if_pos hn] at h; exact fun M' σ' H' st I => h M' _ H' st (SI.unSui (SI.drop I) hn)
    · rw [if_neg hn] at h; exact h.elim
  | ct r1 =>
    have h : OutS J M H (if noXc (r1.set i .un) = true then .ct (r1.set i .un) else .bad) D := h
    by_cases hn : noXc (r1.set i .un) = true
    · rw [if_pos hn] at h; exact fun M' σ' H' st I => h M' _ H' st (SI.unSui (SI.drop I) hn)
    · rw [if_neg hn] at h; exact h.elim
  | rt d r1 =>
    have h : OutS J M H (if noXc (r1.set i .un) = true then .rt d (r1.set i .un) else .bad) D := h
    by_cases hn : noXc (r1.set i .un) = true
    · rw [if_pos hn] at h; exact fun v M' σ' H' st I rv => h v M' _ H' st (SI.unSui (SI.drop I) hn) rv
    · rw [if_neg hn] at h; exact h.elim
  | exn x r1 => exact h.elim
  | bad => exact h.elim
theorem sui_core0 {a : Addr} {cls : Value} {dd : Option Addr} {D : Ends} {M : Addr → Prop} {H : Hp} {m : RS} (h : OutS J M H (keepAt m) D) : OutS (J.sui a cls dd) M H m D := by
  cases m with
  | nx r1 =>
    have h : OutS J M H (if noXc r1 = true then .nx r1 else .bad) D := h
    by_cases hn : noXc r1 = true
    · rw [if_pos hn] at h; exact fun M' σ' H' st I => h M' _ H' st (SI.unSui I hn)
    · rw [if_neg hn] at h; exact h.elim
  | bk r1 =>
    have h : OutS J M H (if noXc r1 = true then .bk r1 else .bad) D := h
    by_cases hn : noXc r1 = true
    · rw [if_pos hn] at h; exact fun M' σ' H' st I => h M' _ H' st (SI.unSui I hn)
    · rw [if_neg hn] at h; exact h.elim
  | ct r1 =>
    have h : OutS J M H (if noXc r1 = true then .ct r1 else .bad) D := h
    by_cases hn : noXc r1 = true
    · rw [if_pos hn] at h; exact fun M' σ' H' st I => h M' _ H' st (SI.unSui I hn)
    · rw [if_neg hn] at h; exact h.elim
  | rt d r1 =>
    have h : OutS J M H (if noXc r1 = true then .rt d r1 else .bad) D := h
    by_cases hn : noXc r1 = true
    · rw [if_pos hn] at h; exact fun v M' σ' H' st I rv => h v M' _ H' st (SI.unSui I hn) rv
    · rw [if_neg hn] at h; exact h.elim
  | exn x r1 => exact h.elim
  | bad => exact h.elim
theorem s_try (i : Nat) (hK : X.K = J.G.K) (hs : X.stack = X.env :: X.outer) (hf : X.env.frame = some X.env.locals) (hN : X.N.Nodup) (hc : Names X x c) (tk : Takes X J.W) (hcat : CatOk J.G c cat)
    (hb : ∀ (W : WX) (pn : List (Addr × Obj)) (xe : Value → Shared → Prop), Takes (X.tr pn xe) W → PassesOwn (model X.prog X.w) X.A X.env xe → PSs (X.tr pn xe) body (tS { J with W := W } fb))
    (hsu : ∀ (a : Addr) (oe : Obj) (cls : Value) (d : Option Addr) (pn : List (Addr × Obj)), Zc cls d oe → (∃ vs, oe.data = .fields vs) → PSs (X.suite a ((a, oe) :: pn)) (b₀ :: suite) (tS (J.sui a cls d) fs))
    (hi : X.N[i]? = some n := by rfl) (hln : X.env.kindOf n = some .local := by rfl) : PS X (.Try body [.ExceptHandler (some (.Name x np)) (some n) (b₀ :: suite) pos'] [] [] pos) (tS J (stry i cat fb fs)) :=
  PSi (ps_try_as (tb := fun W => tS { J with W := W } fb) (ts := fun a cls d => tS (J.sui a cls d) fs) hs hf hN hi hln hc tk hb hsu) fun D σ H ⟨M, r, I, h⟩ => ⟨M, r, tS_reW I, try_core h fun x0 r1 cls dd M' σ' H' em st I' rx hk => by
    cases ec : cat x0.c with
    | none => rw [ec] at hk; exact hk.elim
    | some b =>
      obtain ⟨C, hC, rfl, _⟩ := id rx
      have hm := hcat _ _ _ ec hC
      refine ⟨b, by rw [hK]; exact hm, fun eb a na => ?_, fun eb => ?_⟩
      · subst eb
        rw [ec] at hk
        dsimp only at hk
        split at hk
        · rename_i hn
          have I2 : SI (J.sui a (.ref C) dd) M' r1 σ' H' := SI.reJ (J := J) rfl rfl rfl rfl (.inr hn) I'
          exact ⟨M', _, I2.setXc rfl rx, sui_core hk⟩
        · exact hk.elim
      · subst eb
        rw [ec] at hk
        exact hk _ _ M' σ' H' Step.refl I' rx⟩
theorem s_try0 (hK : X.K = J.G.K) (hs : X.stack = X.env :: X.outer) (hf : X.env.frame = some X.env.locals) (hc : Names X x c) (tk : Takes X J.W) (hcat : CatOk J.G c cat)
    (hb : ∀ (W : WX) (pn : List (Addr × Obj)) (xe : Value → Shared → Prop), Takes (X.tr pn xe) W → PassesOwn (model X.prog X.w) X.A X.env xe → PSs (X.tr pn xe) body (tS { J with W := W } fb))
    (hsu : ∀ (a : Addr) (oe : Obj) (cls : Value) (d : Option Addr) (pn : List (Addr × Obj)), Zc cls d oe → (∃ vs, oe.data = .fields vs) → PSs (X.suite a ((a, oe) :: pn)) (b₀ :: suite) (tS (J.sui a cls d) fs)) :
    PS X (.Try body [.ExceptHandler (some (.Name x np)) none (b₀ :: suite) pos'] [] [] pos) (tS J (stry0 cat fb fs)) :=
  PSi (ps_try_only (tb := fun W => tS { J with W := W } fb) (ts := fun a cls d => tS (J.sui a cls d) fs) hs hf hc tk hb hsu) fun D σ H ⟨M, r, I, h⟩ => ⟨M, r, tS_reW I, try_core h fun x0 r1 cls dd M' σ' H' em st I' rx hk => by
    cases ec : cat x0.c with
    | none => rw [ec] at hk; exact hk.elim
    | some b =>
      obtain ⟨C, hC, rfl, _⟩ := id rx
      have hm := hcat _ _ _ ec hC
      refine ⟨b, by rw [hK]; exact hm, fun eb a na => ?_, fun eb => ?_⟩
      · subst eb
        rw [ec] at hk
        dsimp only at hk
        split at hk
        · rename_i hn
          have I2 : SI (J.sui a (.ref C) dd) M' r1 σ' H' := SI.reJ (J := J) rfl rfl rfl rfl (.inr hn) I'
          exact ⟨M', _, I2, sui_core0 hk⟩
        · exact hk.elim
      · subst eb
        rw [ec] at hk
        exact hk _ _ M' σ' H' Step.refl I' rx⟩
/-! a field of the exception in hand -/
def xfld (i : Nat) (kn : Str → Bool) (f : Str) : List Sl → RE D := fun r => match r[i]? with
  | some (.xc x) => if kn x.c = true then (match (x.ns.zip x.ds).lookup f with
    | some d => .ok d r
    | none => .bad) else .bad
  | _ => .bad
theorem lookup_rep {G : Gm} {M : Addr → Prop} {H : Hp} {f : Str} {d : D} : ∀ {ns : List Str} {ds : List D} {vs : List V}, RepL G M H ds vs → (ns.zip ds).lookup f = some d → ∃ v, (ns.zip vs).lookup f = some v ∧ Rep G M H d v
  | [], _, _, _, h => by simp at h
  | n :: ns, [], _, _, h => by simp at h
  | n :: ns, d0 :: ds, _, ⟨v, ws, e, q, r⟩, h => by
    subst e
    rw [List.zip_cons_cons, List.lookup_cons] at h ⊢
    cases hb : (f == n) with
    | true => rw [hb] at h; cases h; exact ⟨v, rfl, q⟩
    | false => rw [hb] at h; exact lookup_rep r h
theorem e_xfld (i : Nat) {y f : Str} {py : Pos} {a : Addr} {oe : Obj} {cls : Value} {d : Option Addr} {pn : List (Addr × Obj)} {kn : Str → Bool} (hmg : X.mg = J.G.mg) (hz : Zc cls d oe) (hf : ∃ vs, oe.data = .fields vs) (hJ : J.hx = some (a, cls, d))
    (hk : ∀ c, kn c = true → ∃ C fI fs, DLX.Cl X.prog X.K X.mg c C fI fs ∧ f ∈ fs)
    (hN : X.N[i]? = some y := by rfl) (hv : Vis X.env.scope y := by first | exact Or.inl rfl | exact Or.inr (Or.inl rfl) | exact Or.inr (Or.inr rfl)) (hd : (y == ("__debug__" : Str)) = false := by decide) (hcd : (y == ("__classdict__" : Str)) = false := by decide)
    (hb : attributeBase (.Name y py) f X.env (eval (.Name y py) X.env) = eval (.Name y py) X.env := by rfl) :
    PE (X.suite a ((a, oe) :: pn)) (.Attribute (.Name y py) f pos) (tE J (xfld i kn f)) := by
  refine ⟨fun pins s σ H Q I h => ?_⟩
  obtain ⟨M, r, S, h⟩ := h
  refine attr_of hb ?_
  have hr : ∃ x dv, r[i]? = some (.xc x) ∧ kn x.c = true ∧ (x.ns.zip x.ds).lookup f = some dv ∧ Out J (RV J) M H σ (.ok dv r) Q := by
    unfold xfld at h
    split at h
    · rename_i x e
      split at h
      · rename_i hkn
        split at h
        · rename_i dv el; exact ⟨x, dv, e, hkn, el, h⟩
        · exact h.elim
      · exact h.elim
    · exact h.elim
  obtain ⟨x, dv, er, hkn, el, h⟩ := hr
  obtain ⟨a', cls', dd', ea, hx', C, hC, rfl, vs, hl, rl, hdd⟩ := S.slot i _ er
  rw [hJ] at hx'
  cases hx'
  obtain ⟨C', fI, fs, T, hfs⟩ := hk _ hkn
  have eC : C' = C := by
    have z := T.gC
    rw [hmg, hC] at z
    cases z; rfl
  subst eC
  refine thn ((pe_var (X := X.suite a ((a, oe) :: pn)) (i := i) hN hv hd hcd).run pins s σ H (fun w H1 => w = .ref a ∧ H1 = H) I ⟨.ref a, ea, rfl, rfl⟩) fun u s1 hh => ?_
  obtain ⟨w, H1, I1, rx, e1, e2⟩ := hh
  subst e1 e2
  obtain rfl : u = Value.ref a := rx
  obtain ⟨v, hv2, rv⟩ := lookup_rep rl el
  have hne : x.ns ≠ [] := by
    intro z
    rw [z] at el
    simp at el
  obtain ⟨ddA, edd, hH⟩ := hdd.resolve_left (fun z => hne z.1)
  obtain ⟨ha, _⟩ := I1.pin (a, oe) (List.mem_append_left _ List.mem_cons_self)
  obtain ⟨ovs, hod⟩ := hf
  have hx2 : ObjOk X.prog X.w H1 s1.heap ddA (.xd (x.ns.zip vs)) := I1.hok ddA _ hH
  obtain ⟨mA, hns, hr2⟩ := hx2
  obtain ⟨od, ho, hlk⟩ := lookIn_ns hns
  obtain ⟨u, hu, ru⟩ := RelO.some_of (v := v) (o := mA f) (by rw [← hv2]; exact hr2 f)
  have J2 : PySem.W.InstAt s1.heap a oe C' (some od) := ⟨ha, hz.1, by unfold PySem.W.notCls; rw [hod] <;> rfl, by rw [hz.2, edd]; exact ho⟩
  exact HandSPX.exc_get I1.kIn J2 T.ga T.gg T.exC (PySem.W.findObj_own T.hdC (T.no f hfs) rfl (by rw [hlk, hu])) (handed_of ru) ⟨v, H1, I1.tok _, ru, h v M H1 Step.refl S rv⟩
end
end DL

set_option Elab.async false
set_option linter.all false
set_option maxRecDepth 100000
set_option maxHeartbeats 4000000
namespace DL
open PySem L2

/-! ### list comprehensions over a name's list, read where it stands -/
open Classical in
/-- the list of name i is still the same -/
noncomputable def ck (i : Nat) (ds : List D) (r : List Sl) : Bool := decide (pk i r = .ok (.lst ds) r)
theorem ck_eq {i : Nat} {ds : List D} {r : List Sl} (h : ck i ds r = true) : pk i r = .ok (.lst ds) r := by classical exact of_decide_eq_true h
theorem ck_of {i : Nat} {ds : List D} {r : List Sl} (h : pk i r = .ok (.lst ds) r) : ck i ds r = true := by classical exact decide_eq_true h
def lcLB (ck : List Sl → Bool) (g : D → List Sl → RS) (t : List Sl → RE Bool) (e : List Sl → RE D) (vs : List Nat) : List D → List D → List Sl → RE (List D)
  | [], acc, r => if ck r = true then .ok acc r else .bad
  | d :: ds, acc, r => if ck r = true then (match g d r with
    | .nx r1 => (t r1).bind fun b r2 => if b = true then (e r2).bind fun y r3 => if acc.length < LIM then lcLB ck g t e vs ds (acc ++ [y]) (wipeR r3 vs) else .bad else lcLB ck g t e vs ds acc (wipeR r2 vs)
    | _ => .bad) else .bad
noncomputable def lcompB (i : Nat) (g : D → List Sl → RS) (t : List Sl → RE Bool) (e : List Sl → RE D) (vs : List Nat) : List Sl → RE D := fun r => match pk i r with
  | .ok (.lst ds) _ => if (noOwn r vs && !decide (i ∈ vs)) = true then (match lcLB (ck i ds) g t e vs ds [] (wipeR r vs) with
    | .ok ys r2 => .ok (.lst ys) (back r r2 vs)
    | _ => .bad) else .bad
  | _ => .bad
section
variable {X : Cx} {J : Jx} {elt tg : Expr} {ifs : List Expr} {scope : Scope} {own : List (Str × Nat)} {pos : Pos} {g : D → List Sl → RS} {ft : List Sl → RE Bool} {fe : List Sl → RE D}
theorem lc_readB {K : PySem.W.Frag} (ok : GOk g) {vs : List Nat} (i0 : Nat) (σ : St) (H1 : Hp) (Q : VK) (h : tN J (lcompB i0 g ft fe vs) σ H1 Q) : tLc (iAny K (tVar i0)) (tGx J vs g) (tTx J ft) (tEx J fe) vs σ H1 Q := by
  obtain ⟨M1, r1, I1, h1⟩ := h
  unfold lcompB at h1
  split at h1
  · rename_i ds _ hds
    obtain ⟨_, v0, hv0, rb⟩ := pk_core I1 hds
    obtain ⟨a0, vs0, rfl, ha0, r0⟩ := rb.lst
    refine ⟨_, hv0, .inl ⟨a0, rfl, ⟨vs0, SqL.of ha0⟩, ?_⟩⟩
    intro p hp
    split at h1
    · rename_i no0
      rw [Bool.and_eq_true] at no0
      obtain ⟨no, hi0'⟩ := no0
      have hi0 : i0 ∉ vs := by simpa using hi0'
      have it : ∀ (i : Nat) (M' : Addr → Prop) (H' : Hp) (r' : List Sl), ck i0 ds r' = true → SI J M' r' (L2.wipe σ vs) H' →
          (∀ d, ds[i]? = some d → (Itl K a0).go i H' ∧ ∀ x H2, (Itl K a0).yld i H' x H2 → Extn H' H2 ∧ Rep J.G M' H2 d x) ∧ (ds.length ≤ i → (Itl K a0).stop i H') := fun i M' H' r' hck I' => by
        have e := ck_eq hck
        obtain ⟨_, v1, hv1, rb1⟩ := pk_core I' e
        rw [wipe_get hi0, hv0] at hv1
        cases hv1
        obtain ⟨a1, vs1, e1, ha1, r1'⟩ := rb1.lst
        cases e1
        refine ⟨fun d hd => ?_, fun hl => ⟨vs1, SqL.of ha1, by rw [← r1'.length]; exact hl⟩⟩
        obtain ⟨v, hv, rv⟩ := r1'.get hd
        refine ⟨⟨vs1, v, SqL.of ha1, hv⟩, fun x H2 ⟨e, q⟩ => ?_⟩
        subst e
        have z := q vs1 (SqL.of ha1)
        rw [hv] at z; cases z
        exact ⟨fun _ _ h => h, rv⟩
      obtain ⟨In, stn, nm, n0, h0, fl⟩ := I1.newOwn (o := .lst []) hp trivial
      have hio : J.io ≠ some p := fun e => n0 (I1.io0 p e)
      have flw : ∀ (j : Nat) s, (wipeR r1 vs)[j]? = some s → s.owned = true → (L2.wipe σ vs)[j]? ≠ some (some (.ref p)) := fun j s hj ho e => by
        have z := ((SI.wipe In vs).slot j s hj).ownM ho e
        have I1w := SI.wipe I1 vs
        exact nm ((I1w.slot j s hj).ownM ho e)
      have hQ : ∀ ys r2, lcLB (ck i0 ds) g ft fe vs ds [] (wipeR r1 vs) = .ok ys r2 → Out J (RO J) M1 H1 σ (.ok (.lst ys) (back r1 r2 vs)) Q := fun ys r2 e => by rw [e] at h1; exact h1
      have hne : ∃ ys r2, lcLB (ck i0 ds) g ft fe vs ds [] (wipeR r1 vs) = .ok ys r2 := by
        cases e : lcLB (ck i0 ds) g ft fe vs ds [] (wipeR r1 vs) with
        | ok ys r2 => exact ⟨ys, r2, rfl⟩
        | exn x r2 => rw [e] at h1; exact h1.elim
        | bad => rw [e] at h1; exact h1.elim
      refine ⟨fun i m H' => m = ds.length - i ∧ i ≤ ds.length ∧ ∃ M' r' acc vacc, SI J M' r' (L2.wipe σ vs) H' ∧ Step M1 H1 M' H' ∧ M' p ∧ H' p = some (.lst vacc) ∧ RepL J.G M' H' acc vacc ∧
        (∀ (j : Nat) s, r'[j]? = some s → s.owned = true → (L2.wipe σ vs)[j]? ≠ some (some (.ref p))) ∧
        lcLB (ck i0 ds) g ft fe vs (ds.drop i) acc r' = lcLB (ck i0 ds) g ft fe vs ds [] (wipeR r1 vs), ⟨ds.length, by simp, Nat.zero_le _, _, wipeR r1 vs, [], [], SI.wipe In vs, stn, .inr rfl, upd_same, rfl, flw, rfl⟩, ?_⟩
      rintro i m H' ⟨rfl, hi, M', r', acc, vacc, I', st', mp, hpv, racc, fl', eqn⟩
      have hck : ck i0 ds r' = true := by
        cases ek : ck i0 ds r' with
        | true => rfl
        | false =>
          exfalso
          have z : lcLB (ck i0 ds) g ft fe vs (ds.drop i) acc r' = RE.bad := by cases ds.drop i <;> simp [lcLB, ek]
          rw [z] at eqn
          obtain ⟨ys, r2, hy⟩ := hne
          rw [hy] at eqn
          cases eqn
      obtain ⟨it1, it2⟩ := it i M' H' r' hck I'
      by_cases hlt : i < ds.length
      · have hd : ds[i]? = some ds[i] := List.getElem?_eq_getElem hlt
        obtain ⟨go, yl⟩ := it1 _ hd
        refine .inr ⟨go, fun H2 => ∃ M2 r2 acc2 vacc2, SI J M2 r2 (L2.wipe σ vs) H2 ∧ Step M1 H1 M2 H2 ∧ M2 p ∧ H2 p = some (.lst vacc2) ∧ RepL J.G M2 H2 acc2 vacc2 ∧
          (∀ (j : Nat) s, r2[j]? = some s → s.owned = true → (L2.wipe σ vs)[j]? ≠ some (some (.ref p))) ∧ lcLB (ck i0 ds) g ft fe vs (ds.drop (i + 1)) acc2 r2 = lcLB (ck i0 ds) g ft fe vs ds [] (wipeR r1 vs),
          fun H2 ⟨M2, r2, acc2, vacc2, q⟩ => ⟨ds.length - (i + 1), by omega, rfl, by omega, M2, r2, acc2, vacc2, q⟩, fun x H2 y => ?_⟩
        obtain ⟨ex, rx⟩ := yl x H2 y
        rw [List.drop_eq_getElem_cons hlt] at eqn
        obtain ⟨ys0, rf0, hne⟩ := hne
        rw [hne] at eqn
        have I2 := I'.ext ex
        have hp2 := ex _ _ hpv
        have B2 : SI (J.blk p (.lst vacc)) M' r' (L2.wipe σ vs) H2 := I2.toBlk mp hp2 h0 hio fl'
        have eq : lcLB (ck i0 ds) g ft fe vs (ds[i] :: ds.drop (i + 1)) acc r' = (match g ds[i] r' with
          | .nx r1 => (ft r1).bind fun b r2 => if b = true then (fe r2).bind fun y r3 => if acc.length < LIM then lcLB (ck i0 ds) g ft fe vs (ds.drop (i + 1)) (acc ++ [y]) (wipeR r3 vs) else .bad else lcLB (ck i0 ds) g ft fe vs (ds.drop (i + 1)) acc (wipeR r2 vs)
          | _ => .bad) := by
          show (if ck i0 ds r' = true then _ else _) = _
          rw [if_pos hck]
        rw [eq] at eqn
        have st2 : Step M1 H1 M' H2 := st'.trans (Step.ext ex)
        refine ⟨J.blk p (.lst vacc), JB.blk, M', r', ds[i], B2, rx, ?_⟩
        rcases ok ds[i] r' with ⟨r3, e3⟩ | e3
        · rw [e3] at eqn ⊢
          have eqn : ((ft r3).bind fun b r2 => if b = true then (fe r2).bind fun y r3 => if acc.length < LIM then lcLB (ck i0 ds) g ft fe vs (ds.drop (i + 1)) (acc ++ [y]) (wipeR r3 vs) else .bad else lcLB (ck i0 ds) g ft fe vs (ds.drop (i + 1)) acc (wipeR r2 vs)) = RE.ok ys0 rf0 := eqn
          intro M3 σ3 H3 st3 B3 ew
          have ww : ∀ τ : St, L2.wipe (L2.wipe τ vs) vs = L2.wipe τ vs := fun τ => by
            apply List.ext_getElem?
            intro j
            by_cases hj : j ∈ vs
            · have inn : ∀ (ρ : St) (ws : List Nat), j ∈ ws → (L2.wipe ρ ws)[j]? = if j < ρ.length then some none else none := fun ρ ws => by
                induction ws with
                | nil => intro z; cases z
                | cons w ws ih =>
                  intro z
                  show ((L2.wipe ρ ws).set w none)[j]? = _
                  rw [List.getElem?_set]
                  by_cases e : w = j
                  · subst e; rw [if_pos rfl, wipe_length]
                  · rw [if_neg e]
                    exact ih (by rcases List.mem_cons.mp z with q | q
                                 · exact absurd q.symm e
                                 · exact q)
              rw [inn _ _ hj, inn _ _ hj, wipe_length]
            · rw [wipe_get hj]
          refine ⟨ew.trans (ww σ), J.blk p (.lst vacc), JB.blk, M3, r3, B3, ?_⟩
          have ew' : L2.wipe σ3 vs = L2.wipe σ vs := ew.trans (ww σ)
          -- the next turn's state, from a state of the block
          have nextT : ∀ {M4 : Addr → Prop} {r4 : List Sl} {H4 : Hp}, Step M3 H3 M4 H4 → SI (J.blk p (.lst vacc)) M4 r4 σ3 H4 → SI J M4 (wipeR r4 vs) (L2.wipe σ vs) H4 ∧ Step M1 H1 M4 H4 ∧ M4 p ∧ H4 p = some (.lst vacc) ∧ RepL J.G M4 H4 acc vacc ∧
              (∀ (j : Nat) s, (wipeR r4 vs)[j]? = some s → s.owned = true → (L2.wipe σ vs)[j]? ≠ some (some (.ref p))) := fun {M4 r4 H4} st4 B4 => by
            have W4 := SI.wipe B4 vs
            rw [ew'] at W4
            have hp4 : H4 p = some (.lst vacc) := B4.keep p _ (by show (if p = p then _ else _) = _; rw [if_pos rfl]) hio
            exact ⟨W4.ofBlk h0 I1.io0, st2.trans (st3.trans st4), B4.m0 p (.inr rfl), hp4, RepL.step ((Step.ext ex).trans (st3.trans st4)) I'.md _ _ racc, W4.flBlk hio⟩
          have hft : Out (J.blk p (.lst vacc)) RB M3 H3 σ3 (ft r3) (fun b H4 => if b = true then tEx J fe σ3 H4 fun y H5 => ∃ acc, H5 p = some (.lst acc) ∧ acc.length < sizeLine ∧ (∃ M2 r2 acc2 vacc2, SI J M2 r2 (L2.wipe σ vs) (upd H5 p (.lst (acc ++ [y]))) ∧ Step M1 H1 M2 (upd H5 p (.lst (acc ++ [y]))) ∧ M2 p ∧ (upd H5 p (.lst (acc ++ [y]))) p = some (.lst vacc2) ∧ RepL J.G M2 (upd H5 p (.lst (acc ++ [y]))) acc2 vacc2 ∧
              (∀ (j : Nat) s, r2[j]? = some s → s.owned = true → (L2.wipe σ vs)[j]? ≠ some (some (.ref p))) ∧ lcLB (ck i0 ds) g ft fe vs (ds.drop (i + 1)) acc2 r2 = lcLB (ck i0 ds) g ft fe vs ds [] (wipeR r1 vs))
            else (∃ M2 r2 acc2 vacc2, SI J M2 r2 (L2.wipe σ vs) H4 ∧ Step M1 H1 M2 H4 ∧ M2 p ∧ H4 p = some (.lst vacc2) ∧ RepL J.G M2 H4 acc2 vacc2 ∧
              (∀ (j : Nat) s, r2[j]? = some s → s.owned = true → (L2.wipe σ vs)[j]? ≠ some (some (.ref p))) ∧ lcLB (ck i0 ds) g ft fe vs (ds.drop (i + 1)) acc2 r2 = lcLB (ck i0 ds) g ft fe vs ds [] (wipeR r1 vs))) := by
            cases et : ft r3 with
            | exn x r4 => rw [et] at eqn; cases eqn
            | bad => rw [et] at eqn; cases eqn
            | ok b r4 =>
              rw [et] at eqn
              have eqn : (if b = true then (fe r4).bind fun y r3 => if acc.length < LIM then lcLB (ck i0 ds) g ft fe vs (ds.drop (i + 1)) (acc ++ [y]) (wipeR r3 vs) else .bad else lcLB (ck i0 ds) g ft fe vs (ds.drop (i + 1)) acc (wipeR r4 vs)) = RE.ok ys0 rf0 := eqn
              intro b' M4 H4 st4 B4 eb
              have eb : b' = b := eb
              subst eb
              by_cases hb : b' = true
              · rw [if_pos hb] at eqn ⊢
                refine ⟨J.blk p (.lst vacc), JB.blk, M4, r4, B4, ?_⟩
                cases ee : fe r4 with
                | exn x r5 => rw [ee] at eqn; cases eqn
                | bad => rw [ee] at eqn; cases eqn
                | ok y r5 =>
                  rw [ee] at eqn
                  have eqn : (if acc.length < LIM then lcLB (ck i0 ds) g ft fe vs (ds.drop (i + 1)) (acc ++ [y]) (wipeR r5 vs) else .bad) = RE.ok ys0 rf0 := eqn
                  intro vy M5 H5 st5 B5 ry
                  by_cases hz : acc.length < LIM
                  · rw [if_pos hz] at eqn
                    obtain ⟨I5, s5, m5, h5, ra5, f5⟩ := nextT (st4.trans st5) B5
                    refine ⟨vacc, h5, by rw [← racc.length]; exact lt_size (Nat.le_of_lt hz), M5, wipeR r5 vs, acc ++ [y], vacc ++ [vy], ?_, ?_, m5, upd_same, ?_, f5, ?_⟩
                    · exact I5.writeFl m5 h0 f5 kept_upd (I5.md.upd trivial)
                    · exact s5.trans ⟨fun b u hb n => by rw [upd_ne (by rintro rfl; exact n m5)]; exact hb, fun b h => .inl h⟩
                    · have stw : Step M5 H5 M5 (upd H5 p (.lst (vacc ++ [vy]))) := ⟨fun b u hb n => by rw [upd_ne (by rintro rfl; exact n m5)]; exact hb, fun b h => .inl h⟩
                      exact (RepL.step stw I5.md _ _ ra5).append ⟨vy, [], rfl, Rep.step stw I5.md _ _ ry, rfl⟩
                    · rw [hne]; exact eqn
                  · rw [if_neg hz] at eqn; cases eqn
              · rw [if_neg hb] at eqn ⊢
                obtain ⟨I5, s5, m5, h5, ra5, f5⟩ := nextT st4 B4
                exact ⟨M4, wipeR r4 vs, acc, vacc, I5, s5, m5, h5, ra5, f5, by rw [hne]; exact eqn⟩
          exact hft
        · rw [e3] at eqn; cases eqn
      · have e : i = ds.length := by omega
        subst e
        rw [List.drop_length] at eqn
        have eqn : (if ck i0 ds r' = true then RE.ok acc r' else RE.bad) = lcLB (ck i0 ds) g ft fe vs ds [] (wipeR r1 vs) := eqn
        rw [if_pos hck] at eqn
        refine .inl ⟨it2 (Nat.le_refl _), ?_⟩
        have hq := hQ acc r' eqn.symm
        have Ib := SI.backTo I1 I' st' no
        refine hq (.ref p) M' H' st' Ib ⟨p, rfl, mp, ⟨vacc, hpv, racc⟩, n0, h0, fun j s hj ho e => ?_⟩
        by_cases hjv : j ∈ vs
        · have z := (Ib.slot j s hj).ownM ho e
          have hlt : j < r'.length := by
            have := (List.getElem?_eq_some_iff.mp hj).1
            rwa [back_len] at this
          rw [back_in r1 r' hlt hjv] at hj
          cases hj
          have hx : ∃ s0, r1[j]? = some s0 := ⟨r1[j]'(by rw [I1.len, ← wipe_length σ vs, ← I'.len]; exact hlt), List.getElem?_eq_getElem _⟩
          obtain ⟨s0, hs0⟩ := hx
          rw [List.getD_eq_getElem?_getD, hs0] at ho
          have no' := List.all_eq_true.mp no j hjv
          rw [hs0] at no'
          simp only [Option.getD_some] at ho
          dsimp only at no'
          rw [ho] at no'
          cases no'
        · rw [back_get r1 r' hjv] at hj
          exact fl' j s hj ho (by rw [wipe_get hjv]; exact e)
    · exact h1.elim
  · exact h1.elim
/-- a comprehension, as an owned list -/
theorem n_lcB (i0 : Nat) {x0 : Str} {p0 : Pos} (vs : List Nat) (hc : X.calm = true) (hN : X.N.Nodup) (ok : GOk g) (bk : BlkOk X.N X.env.scope scope own) (hvs : own.map (·.2) = vs)
    (hg : ∀ (s : Shared) (H : Hp) (C : Addr) (cl : List (Str × Addr)) (fp : List Addr) (J' : Jx), JB J J' → PG (X.blk s H scope (compEnvC scope cl C X.env) fp) tg (tG J' vs g))
    (ht : ∀ (s : Shared) (H : Hp) (C : Addr) (cl : List (Str × Addr)) (fp : List Addr) (J' : Jx), JB J J' → PTs (X.blk s H scope (compEnvC scope cl C X.env) fp) ifs (tT J' ft))
    (he : ∀ (s : Shared) (H : Hp) (C : Addr) (cl : List (Str × Addr)) (fp : List Addr) (J' : Jx), JB J J' → PE (X.blk s H scope (compEnvC scope cl C X.env) fp) elt (tE J' fe)) (hs : ∀ x, foldedSetIterable (.Name x0 p0) X.env x = pure x := by intro _; rfl)
    (hN0 : X.N[i0]? = some x0 := by rfl) (hv0 : Vis X.env.scope x0 := by first | exact Or.inl rfl | exact Or.inr (Or.inl rfl) | exact Or.inr (Or.inr rfl)) (hd0 : (x0 == ("__debug__" : Str)) = false := by decide) (hcd0 : (x0 == ("__classdict__" : Str)) = false := by decide) :
    PE X (.ListComp elt [⟨tg, .Name x0 p0, ifs, 0⟩] scope pos) (tN J (lcompB i0 g ft fe vs)) := by
  subst hvs
  exact PEi (pe_lc hc hN (pi_any (pe_var hN0 hv0 hd0 hcd0)) bk (fun s H C cl fp => gx_of fun J' b => hg s H C cl fp J' b) (fun s H C cl fp => tx_of fun J' b => ht s H C cl fp J' b) (fun s H C cl fp => ex_of fun J' b => he s H C cl fp J' b) hs) fun σ H Q h => lc_readB ok i0 σ H Q h
end
end DL

set_option Elab.async false
set_option linter.all false
set_option maxRecDepth 100000
set_option maxHeartbeats 4000000
namespace DL
open PySem L2 PySem.Spec
open PyProof.Rows

/-! ### the end: the law's promise, at the heap behind the top -/
section
variable {P : Program} {w : World} {K : PySem.W.Frag} {mg mb : Str → Option Value} {k : Nat} {fa p : Addr} {fd : FuncData} {x : Str} {sp : Sp} {t : Shared} {us : List Value} {ms : List Int}
/-- .. from an abstract heap that tracks the script alone, or nothing -/
theorem end_core (kx : K.In t.heap) (gn : t.heap.Ns mainGlobals mg) (bn : t.heap.Ns builtinsNs mb) (bb : ∀ y : Str, y ≠ "__name__" → mb y = bootBuiltins y) (lim : t.heap.NoLimit) (gz : t.gens = #[])
    (at0 : t.heap.get? p = some { cls := .type "list", data := .seq us.toArray }) (rm : Room k callerA) (F : ∀ b : Heap, K.In b → b.Ns mainGlobals mg → FnG P w K mg b k fa fd [x] sp) (bd : ∀ (s : Shared) (u : Value), BindsTo s fd ⟨[u], []⟩ [(x, u)])
    (Hq : Hp) (only : Only Hq) (hs : sp [.ref p] Hq (fun v _ => v = .bl true) fun _ _ _ => False) (ok : HOk P w Hq t.heap) (at1 : ∀ b, Hq b ≠ none → b = p) (at2 : Hq p ≠ none → K.lookup p = none) :
    codeAny (model P w) callerA (.call (.ref fa) ⟨[.ref p], []⟩) (fun r z => r = .ok (.ret (.bool true)) ∧ OldK t.heap z.heap ∧ z.os = t.os ∧ AllBare z.gens) t := by
  have dictless : ∀ {b : Addr} {o : Obj} {es : Array DictEntry} {n : Nat}, t.heap.get? b = some o → o.data = .dict es n → Hq b = none := fun {b o es n} e1 e2 => by
    rcases Option.eq_none_or_eq_some (Hq b) with q | ⟨u, q⟩
    · exact q
    · exfalso
      have eb : b = p := at1 b (by rw [q]; intro z; cases z)
      rw [eb, at0] at e1
      cases e1
      have e3 : Data.seq us.toArray _ = Data.dict es n := e2
      cases e3
  have keepNs : ∀ {b : Addr} {m : Str → Option Value}, t.heap.Ns b m → (hidT t.heap Hq).Ns b m := fun {b m} q => by
    obtain ⟨o, es, n, e1, e2, rest⟩ := q
    exact ⟨o, es, n, hidT_get e1 (dictless e1 e2), e2, rest⟩
  have kb : K.In (hidT t.heap Hq) := fun b o e => hidT_get (kx b o e) (by
    rcases Option.eq_none_or_eq_some (Hq b) with q | ⟨u, q⟩
    · exact q
    · exfalso
      have eb : b = p := at1 b (by rw [q]; intro z; cases z)
      rw [eb, at2 (by rw [← eb, q]; intro z; cases z)] at e
      cases e)
  have md : Mod K mg (hidT t.heap Hq) := by
    obtain ⟨mc, l1, l2⟩ := lim
    exact ⟨kb, keepNs gn, ⟨mb, keepNs bn, bb⟩, ⟨mc, keepNs l1, l2⟩⟩
  have none_in : ∀ b : Addr, b ∉ ([] : List Addr) := fun b z => by cases z
  have e0 : Env0 P w K mg (hidT t.heap Hq) callerA [] t Hq := ⟨rfl, md, fun b o e => of_hidT e, Nat.le_of_eq (hidT_size _ _), trivial, fun b z => absurd z (none_in b), ok, .of_eq gz⟩
  have go := (F _ kb (keepNs gn)).run callerA [] t Hq ⟨[.ref p], []⟩ [.ref p] [.ref p] _ _ rm rfl e0 (bd t (.ref p)) (.cons rfl .nil) hs
  refine codeAny_mono go fun r z q => ?_
  match r, q with
  | .error e, q =>
    obtain ⟨_, _, _, _, _, _, _, _, _, _, _, _, no⟩ := q
    exact no.elim
  | .ok .next, q => exact q.elim
  | .ok .brk, q => exact q.elim
  | .ok .cont, q => exact q.elim
  | .ok (.ret u), q =>
    obtain ⟨v, Hz, os, bare, un, okz, rv, ev⟩ := q
    cases ev
    obtain rfl : u = Value.bool true := rv
    refine ⟨rfl, OldK.of_keep fun b o e => ?_, os, bare⟩
    rcases only b with q | ⟨ob, xs, q⟩
    · exact un.keep b o e q (none_in b) (none_in b)
    · obtain ⟨e1, _⟩ := ok b _ q
      obtain ⟨e2, _⟩ := okz b _ (un.frzs b ob _ q)
      rw [e] at e1; cases e1
      exact e2
theorem end_call (kx : K.In t.heap) (gn : t.heap.Ns mainGlobals mg) (bn : t.heap.Ns builtinsNs mb) (bb : ∀ y : Str, y ≠ "__name__" → mb y = bootBuiltins y) (lim : t.heap.NoLimit) (gz : t.gens = #[])
    (at0 : t.heap.get? p = some { cls := .type "list", data := .seq us.toArray }) (ia : IntsAre us ms) (le : ms.length ≤ sizeLine) (rm : Room k callerA) (F : ∀ b : Heap, K.In b → b.Ns mainGlobals mg → FnG P w K mg b k fa fd [x] sp) (bd : ∀ (s : Shared) (u : Value), BindsTo s fd ⟨[u], []⟩ [(x, u)])
    (hs : ∀ H : Hp, SqL K H p (ms.map V.int) → sp [.ref p] H (fun v _ => v = .bl true) fun _ _ _ => False) :
    codeAny (model P w) callerA (.call (.ref fa) ⟨[.ref p], []⟩) (fun r z => r = .ok (.ret (.bool true)) ∧ OldK t.heap z.heap ∧ z.os = t.os ∧ AllBare z.gens) t := by
  have rv := vals_ints ia
  have el := ia.length
  rcases Option.eq_none_or_eq_some (K.lookup p) with q | ⟨o, q⟩
  · have own : (fun b => if b = p then some (HO.frz { cls := .type "list", data := .seq us.toArray } (.lst (ms.map V.int))) else none : Hp) p = some (.frz { cls := .type "list", data := .seq us.toArray } (.lst (ms.map V.int))) := if_pos rfl
    refine end_core kx gn bn bb lim gz at0 rm F bd (fun b => if b = p then some (.frz { cls := .type "list", data := .seq us.toArray } (.lst (ms.map V.int))) else none) (fun b => ?_) (hs _ (.inl (.inr ⟨_, own⟩))) (fun b u e => ?_) (fun b nz => ?_) fun _ => q
    · by_cases hb : b = p
      · exact .inr ⟨_, _, if_pos hb⟩
      · exact .inl (if_neg hb)
    · by_cases hb : b = p
      · have e2 := (if_pos hb).symm.trans e
        cases e2
        rw [hb]
        exact ⟨at0, by rw [List.length_map]; exact le, us, _, rv, at0⟩
      · have e2 := (if_neg hb).symm.trans e
        cases e2
    · exact Classical.byContradiction fun hb => nz (if_neg hb)
  · have e := kx p o q
    rw [at0] at e
    cases e
    refine end_core kx gn bn bb lim gz at0 rm F bd (fun _ => none) (fun _ => .inl rfl) (hs _ (.inr ⟨_, us.toArray, _, q, rfl, rfl, rfl, by rw [List.size_toArray, el]; exact le, by simpa using rv⟩)) (fun b u e => ?_) (fun b z => absurd rfl z) fun z => absurd rfl z
    have e2 : (none : Option HO) = some u := e
    cases e2
end
/-- what k_head leaves (case hc) -/
theorem walkG {l : PySem.W.OpenLaw} {k : Nat} {q : Program} {loose : List Str} {XP : (Str → Option Value) → Heap → Prop} {YP : World → Heap → Prop} {d : DefRec} {K : Params → PySem.W.Frag}
    (most : l.most = some 63) (plain : d.params.defaults = []) (rm : Room k callerA) (inY : ∀ (w : World) (h : Heap), YP w h → (K w.params).In h)
    (F : ∀ (w : World) (mg : Str → Option Value) (fa : Addr) (h : Heap), (K w.params).In h → h.Ns mainGlobals mg → mg d.name = some (.ref fa) →
      ∃ (fd : FuncData) (Fd : List D → RF), (∀ (s : Shared) (u : Value), BindsTo s fd ⟨[u], []⟩ [("script", u)]) ∧ (∀ ns : List Int, ns.length ≤ 63 → ∃ io, Fd [.scr ns] = .ok (.bl true) io) ∧
        ∀ b : Heap, (K w.params).In b → b.Ns mainGlobals mg → FnG l.prog w (K w.params) mg b k fa fd ["script"] (spP ⟨K w.params, mg⟩ Fd)) :
    PySem.W.WalkO q loose XP YP l.row.toRowW d [] (fun f vs => PySem.call f vs) := by
  refine Att.attach_call most plain fun w s0 t mg mb fa o pm cd doc p us ms gr y ho hd hcd hmg at0 ia len gz => ?_
  have kx := inY w _ y
  obtain ⟨fd, Fd, bd, law, G⟩ := F w mg fa _ kx gr.T.g hmg
  refine end_call kx gr.T.g gr.T.b gr.T.builtins gr.T.nolimit gz at0 ia (Nat.le_trans len (by decide)) rm G bd fun H sq => ?_
  obtain ⟨io, e⟩ := law ms len
  refine ⟨fun _ => False, [.scr ms], fun _ z => z.elim, ⟨_, [], rfl, ⟨p, rfl, ?_⟩, rfl⟩, ?_⟩
  · rcases sq with z | z
    · exact .inl ⟨fun z => z, z⟩
    · exact .inr z
  · rw [e]
    exact fun v H' _ rv => rv
end DL

set_option Elab.async false
set_option linter.all false
set_option maxRecDepth 100000
set_option maxHeartbeats 4000000
namespace DL
open PySem L2
open PyProof.Rows

/-! ### what the top has written, def by def -/
structure FnAt (K : PySem.W.Frag) (mg : Str → Option Value) (x qual : Str) (st : Stmt) (ps : List Str) : Prop where
  ex : ∃ f fd, Fun K x qual st f fd ∧ mg x = some (.ref f) ∧ PySem.W.keepIn K (.ref f) = true ∧ Binds K fd ps []
/-- .. and its promise -/
structure Has (P : Program) (w : World) (K : PySem.W.Frag) (mg : Str → Option Value) (base : Heap) (k : Nat) (x : Str) (ps : List Str) (sp : Sp) : Prop where
  ex : ∃ f fd, FnG P w K mg base k f fd ps sp ∧ mg x = some (.ref f) ∧ PySem.W.keepIn K (.ref f) = true ∧ Binds K fd ps []
section
variable {P : Program} {w : World} {K : PySem.W.Frag} {mg : Str → Option Value} {base : Heap} {x qual : Str} {st : Stmt} {N ps : List Str} {k : Nat} {fb : List Sl → RS}
theorem has_P (A : FnAt K mg x qual st ps) (S : FnScope N ps (defScope st)) (hl : ps.length ≤ N.length) (B : ∀ f, BodyOk P w K mg base N qual st f k fb) : Has P w K mg base (k + 1) x ps (spP ⟨K, mg⟩ (runP N.length ps.length fb)) := by
  obtain ⟨f, fd, F, h1, h2, h3⟩ := A.ex
  exact ⟨f, fd, fnP F S hl (B f), h1, h2, h3⟩
theorem has_I (A : FnAt K mg x qual st ps) (S : FnScope N ps (defScope st)) (hl : ps.length ≤ N.length) (B : ∀ f, BodyOk P w K mg base N qual st f k fb) : Has P w K mg base (k + 1) x ps (spI ⟨K, mg⟩ (runI N.length ps.length fb)) := by
  obtain ⟨f, fd, F, h1, h2, h3⟩ := A.ex
  exact ⟨f, fd, fnI F S hl (B f), h1, h2, h3⟩
theorem Has.mono {j : Nat} {sp : Sp} (h : Has P w K mg base j x ps sp) (e : j ≤ k) : Has P w K mg base k x ps sp := by
  obtain ⟨f, fd, F, r⟩ := h.ex
  exact ⟨f, fd, F.mono e, r⟩
/-- a promise that asks for nothing that comes about -/
theorem has_bad (A : FnAt K mg x qual st ps) : Has P w K mg base k x ps (spP ⟨K, mg⟩ fun _ => .bad) := by
  obtain ⟨f, fd, F, h1, h2, h3⟩ := A.ex
  exact ⟨f, fd, ⟨fun _ _ _ _ ⟨_, _, _, _, z⟩ => z.elim, fun _ _ _ _ _ _ _ _ _ _ _ _ _ _ ⟨_, _, _, _, z⟩ => z.elim⟩, h1, h2, h3⟩
theorem fnAt_mk {h : Heap} {f : Addr} {oc : Value} {od an : Option Addr} {osl : Array (Option Value)} {kV doc pm cdv ct : Value} (X : K.In h) (G : h.Ns mainGlobals mg) (a : PySem.W.nsIn K mainGlobals x = some (some (.ref f)))
    (l : K.lookup f = some ⟨oc, od, .func (PySem.W.fnOf x qual (defArgs st) (defBody st) (defScope st) .none kV doc pm an cdv ct), osl⟩) (c : PySem.W.codeIn K cdv qual = true) (kp : PySem.W.keepIn K (.ref f) = true)
    (hb : ∀ (kV doc pm : Value) (an : Option Addr) (cdv ct : Value) (us : List Value), us.length = ps.length → bindArgs (PySem.W.fnOf x qual (defArgs st) (defBody st) (defScope st) .none kV doc pm an cdv ct) ⟨us, []⟩ = pure (ps.zip us)) : FnAt K mg x qual st ps :=
  ⟨f, _, fun_mk l c kp, PySem.W.mg_of X G a, kp, (fun_mk (st := st) l c kp).binds hb⟩
end

/-! ### calls by these -/
section
variable {X : Cx} {J : Jx} {k : Nat} {ps : List Str} {F : List D → RF} {x y : Str} {p pos py : Pos} {e : Expr} {es : List Expr} {fs : List Sl → RE (List D)}
theorem hK_ (hG : J.G = ⟨X.K, X.mg⟩) : X.K = J.G.K := by rw [hG]
theorem hM_ (hG : J.G = ⟨X.K, X.mg⟩) : X.mg = J.G.mg := by rw [hG]
theorem c_P (hG : J.G = ⟨X.K, X.mg⟩) (T : Has X.prog X.w X.K X.mg X.base k x ps (spP ⟨X.K, X.mg⟩ F)) (hr : Room k X.A) (hgd : X.A.guards = some []) (tk : Takes X J.W) (ha : PA X (e :: es) (tA J fs)) (hg : Gl X x := by rfl) (hdb : (x == ("__debug__" : Str)) = false := by decide)
    (he : starEach (e :: es) X.env = (false, eval e X.env) :: starEach es X.env := by rfl) (hpl : (backTo pos (starEach es X.env)).any (·.1) = false := by rfl) : PE X (.Call (.Name x p) (e :: es) [] pos) (tE J (call F fs)) := by
  obtain ⟨f, fd, Fk, hm, hk, hb⟩ := T.ex
  exact e_call (by rw [hG]; exact Fk) hr hgd tk hg hm hk hb ha hdb he hpl
theorem c_B (hG : J.G = ⟨X.K, X.mg⟩) (T : Has X.prog X.w X.K X.mg X.base k x ps (spP ⟨X.K, X.mg⟩ F)) (hr : Room k X.A) (hgd : X.A.guards = some []) (tk : Takes X J.W) (ha : PA X (e :: es) (tAB J fs)) (hg : Gl X x := by rfl) (hdb : (x == ("__debug__" : Str)) = false := by decide)
    (he : starEach (e :: es) X.env = (false, eval e X.env) :: starEach es X.env := by rfl) (hpl : (backTo pos (starEach es X.env)).any (·.1) = false := by rfl) : PE X (.Call (.Name x p) (e :: es) [] pos) (tE J (callB F fs)) := by
  obtain ⟨f, fd, Fk, hm, hk, hb⟩ := T.ex
  exact e_callB (by rw [hG]; exact Fk) hr hgd tk hg hm hk hb ha hdb he hpl
theorem c_I (i : Nat) (hG : J.G = ⟨X.K, X.mg⟩) (T : Has X.prog X.w X.K X.mg X.base k x ps (spI ⟨X.K, X.mg⟩ F)) (hr : Room k X.A) (hgd : X.A.guards = some []) (tk : Takes X J.W) (ha : PA X es (tA J fs)) (hN : X.N[i]? = some y := by rfl)
    (hv : Vis X.env.scope y := by first | exact Or.inl rfl | exact Or.inr (Or.inl rfl) | exact Or.inr (Or.inr rfl)) (hg : Gl X x := by rfl) (hd : (y == ("__debug__" : Str)) = false := by decide) (hcd : (y == ("__classdict__" : Str)) = false := by decide)
    (hdb : (x == ("__debug__" : Str)) = false := by decide) (he : starEach (.Name y py :: es) X.env = (false, eval (.Name y py) X.env) :: starEach es X.env := by rfl) (hpl : (backTo pos (starEach es X.env)).any (·.1) = false := by rfl) :
    PE X (.Call (.Name x p) (.Name y py :: es) [] pos) (tE J (callI i F fs)) := by
  obtain ⟨f, fd, Fk, hm, hk, hb⟩ := T.ex
  exact e_callI i (by rw [hG]; exact Fk) hr hgd tk hg hm hk hb ha hN hv hd hcd hdb he hpl
theorem takes_none (Y : Cx) : Takes Y fun _ _ _ _ => False := fun u s' ⟨_, _, _, _, _, _, _, _, _, _, _, _, _, _, _, _, z⟩ => z.elim
theorem takes_blk {Y : Cx} {J J' : Jx} (b : JB J J') : Takes Y J'.W := by rw [b.W]; exact takes_none Y
theorem takes_sui {Y : Cx} {J : Jx} {a : Addr} {cls : Value} {d : Option Addr} : Takes Y (J.sui a cls d).W := takes_none Y
end

/-! ### comparisons as tests -/
section
variable {X : Cx} {J : Jx} {a b c : Expr} {fa fb fc : List Sl → RE D} {pos : Pos}
theorem tv_core {f : List Sl → RE D} {σ : L2.St} {H : Hp} {Q : Bool → Hp → Prop} (h : tT J (tv f) σ H Q) : tE J f σ H fun x H' => ∃ k, x = .bl k ∧ Q k H' := by
  obtain ⟨M, r, I, h⟩ := h
  exact ⟨M, r, I, Out.bind h fun d r1 v M1 H1 st1 I1 rd1 h1 => by
    cases d with
    | bl b => cases rd1; exact ⟨b, rfl, h1 _ M1 H1 Step.refl I1 rfl⟩
    | _ => exact h1.elim⟩
theorem t_cmp {op : CmpOp} {r2 : R2} {g : D → D → Option D} (ho : OpR X (compareOp op) r2) (hg : OpD J.G r2 g) (ha : PE X a (tE J fa)) (hb : PE X b (DL.tB J fb)) (hm : behindInMarks op b = false) : PT X (.Compare a [op] [b] pos) (tT J (tv (bin g fa fb))) :=
  PTi (pt_cmpR ho ha hb hm) fun σ H Q h => bin_core hg σ H _ (tv_core h)
theorem t_lt (ha : PE X a (tE J fa)) (hb : PE X b (DL.tB J fb)) : PT X (.Compare a [.Lt] [b] pos) (tT J (tv (bin gLt fa fb))) := t_cmp op_lt (od_int0 fun _ _ _ _ _ => rfl) ha hb (nomark _)
theorem t_le (ha : PE X a (tE J fa)) (hb : PE X b (DL.tB J fb)) : PT X (.Compare a [.LtE] [b] pos) (tT J (tv (bin gLe fa fb))) := t_cmp op_le (od_int0 fun _ _ _ _ _ => rfl) ha hb (nomark _)
theorem t_gt (ha : PE X a (tE J fa)) (hb : PE X b (DL.tB J fb)) : PT X (.Compare a [.Gt] [b] pos) (tT J (tv (bin gGt fa fb))) := t_cmp op_gt (od_int0 fun _ _ _ _ _ => rfl) ha hb (nomark _)
theorem t_ge (ha : PE X a (tE J fa)) (hb : PE X b (DL.tB J fb)) : PT X (.Compare a [.GtE] [b] pos) (tT J (tv (bin gGe fa fb))) := t_cmp op_ge (od_int0 fun _ _ _ _ _ => rfl) ha hb (nomark _)
theorem t_eq (hK : X.K = J.G.K) (hu : X.A.units + 64 < cLine) (ha : PE X a (tE J fa)) (hb : PE X b (DL.tB J fb)) : PT X (.Compare a [.Eq] [b] pos) (tT J (tv (bin (gEq false) fa fb))) := t_cmp (hK ▸ op_eqP hu) od_eq ha hb (nomark _)
theorem t_ne (hK : X.K = J.G.K) (hu : X.A.units + 64 < cLine) (ha : PE X a (tE J fa)) (hb : PE X b (DL.tB J fb)) : PT X (.Compare a [.NotEq] [b] pos) (tT J (tv (bin (gEq true) fa fb))) := t_cmp (hK ▸ op_neP hu) od_eq ha hb (nomark _)
theorem t_in (hK : X.K = J.G.K) (hu : X.A.units + 64 < cLine) (ha : PE X a (tE J fa)) (hb : PE X b (DL.tB J fb)) (hm : behindInMarks .In b = false := by rfl) : PT X (.Compare a [.In] [b] pos) (tT J (tv (bin (gIn false) fa fb))) := t_cmp (hK ▸ op_inP hu) od_in ha hb hm
theorem t_ni (hK : X.K = J.G.K) (hu : X.A.units + 64 < cLine) (ha : PE X a (tE J fa)) (hb : PE X b (DL.tB J fb)) (hm : behindInMarks .NotIn b = false := by rfl) : PT X (.Compare a [.NotIn] [b] pos) (tT J (tv (bin (gIn true) fa fb))) := t_cmp (hK ▸ op_niP hu) od_in ha hb hm
theorem t_isN {j : Nat} {p : Pos} (ha : PE X a (tE J fa)) : PT X (.Compare a [.Is] [.Constant .none j p] pos) (tT J (tv (un (gIsN false) fa))) :=
  PTi (pt_cmp (pc_isN ha) rfl) fun σ H Q h => by
    obtain ⟨M, r, I, h⟩ := tv_core h
    exact ⟨M, r, I, Out.bind h fun x r1 vx M1 H1 st1 I1 rx h1 => by
      rw [gIsN_eq false rx, Bool.xor_false] at h1
      exact h1 _ M1 H1 Step.refl I1 rfl⟩
theorem t_notN {j : Nat} {p : Pos} (ha : PE X a (tE J fa)) : PT X (.Compare a [.IsNot] [.Constant .none j p] pos) (tT J (tv (un (gIsN true) fa))) :=
  PTi (pt_cmp (pc_notN ha) rfl) fun σ H Q h => by
    obtain ⟨M, r, I, h⟩ := tv_core h
    exact ⟨M, r, I, Out.bind h fun x r1 vx M1 H1 st1 I1 rx h1 => by
      rw [gIsN_eq true rx, Bool.xor_true] at h1
      exact h1 _ M1 H1 Step.refl I1 rfl⟩
theorem t_chain {op op' : CmpOp} {r2 r2' : R2} {g g' : D → D → Option D} (ho : OpR X (compareOp op) r2) (ho' : OpR X (compareOp op') r2') (hg : OpD J.G r2 g) (hg' : OpD J.G r2' g') (ha : PE X a (tE J fa)) (hb : PE X b (tE J fb)) (hc : PE X c (DL.tB J fc))
    (hm : lastMarks [op, op'] [b, c] = false := by with_unfolding_all rfl) : PT X (.Compare a [op, op'] [b, c] pos) (tT J (tv (vchain g g' fa fb fc))) :=
  PTi (pt_chain ho ho' ha hb hc hm) fun σ H Q h => chain_core hg hg' σ H _ (tv_core h)
end

/-! ### the package's errors -/
structure HasEx (P : Program) (w : World) (K : PySem.W.Frag) (mg : Str → Option Value) (c : Str) (fs : List Str) : Prop where
  ex : ∃ C fI mA, DLX.Cl P K mg c C fI fs ∧ DLX.InitOk P w K mg C fI fs.length mA ∧ ∀ (vs : List V) (us : List Value), vs.length = fs.length → Vals vs us → ∀ f, RelO ((fs.zip vs).lookup f) (mA us f)
section
variable {X : Cx} {J : Jx} {c : Str} {fs : List Str} {e : Expr} {es : List Expr} {f : List Sl → RE (List D)} {p pos pos2 : Pos}
theorem r_ex (hG : J.G = ⟨X.K, X.mg⟩) (T : HasEx X.prog X.w X.K X.mg c fs) (hc : X.calm = true) (tk : Takes X J.W) (hr : X.A.depth + 2 < recursionLimit) (ha : PA X (e :: es) (tA J f)) (hfs : fs.length ≤ 10 := by decide) (hg : Gl X c := by rfl) (hdb : (c == ("__debug__" : Str)) = false := by decide)
    (he : starEach (e :: es) X.env = (false, eval e X.env) :: starEach es X.env := by rfl) (hpl : (backTo pos (starEach es X.env)).any (·.1) = false := by rfl) : PS X (.Raise (some (.Call (.Name c p) (e :: es) [] pos)) none pos2) (tS J (sraise c fs f)) := by
  obtain ⟨C, fI, mA, T1, T2, T3⟩ := T.ex
  exact s_raise (hM_ hG) hc tk T1 T2 T3 hfs hr ha hg hdb he hpl
end
theorem hasEx1 {P : Program} {w : World} {K : PySem.W.Frag} {mg : Str → Option Value} {c f q : Str} {C fI : Addr} {p0 p1 ap q1 pos pos' a1 a2 a3 a4 u1 u2 : Pos} (T : DLX.Cl P K mg c C fI [f])
    (N : DLX.Fn P K fI C q (DLX.args1 f u1 u2) (DLX.body1 f p0 p1 ap q1 pos pos' a1 a2 a3 a4) (DLX.scope1 f)) (hne : (("self" : Str) == f) = false := by decide) (hd : (f == ("__debug__" : Str)) = false := by decide)
    (lf : (DLX.scope1 f).names.lookup f = some .local := by rfl) (lk : (DLX.scope1 f).names.lookup ("super" : Str) = some .globalImplicit := by rfl) (lc : (DLX.scope1 f).names.lookup ("__class__" : Str) = some .free := by rfl)
    (hbd : ∀ (doc pm ct : Value) (an : Option Addr) (cda cc : Addr) (y z : Value), bindArgs (PySem.W.ksFn "__init__" q (DLX.args1 f u1 u2) (DLX.body1 f p0 p1 ap q1 pos pos' a1 a2 a3 a4) (DLX.scope1 f) .none .none doc pm an (.ref cda) ct cc) ⟨[y, z], []⟩ = pure [(("self" : Str), y), (f, z)] := by intros; rfl)
    (hev : ∀ (L cda cc : Addr), ∃ pl, eval (.Call (.Attribute (.Call (.Name "super" p0) [] [] p1) "__init__" ap) [.Name f q1] [] pos) (PySem.W.ksEnv q (DLX.scope1 f) L fI (.ref cda) cc) = (do
      let ov ← attributeBase (.Call (.Name "super" p0) [] [] p1) "__init__" (PySem.W.ksEnv q (DLX.scope1 f) L fI (.ref cda) cc) (eval (.Call (.Name "super" p0) [] [] p1) (PySem.W.ksEnv q (DLX.scope1 f) L fI (.ref cda) cc))
      standAt ap.atName
      let (g, first) ← holding [ov] (getMethod ov "__init__" pl)
      callWith pos g first (backTo pos (starEach [.Name f q1] (PySem.W.ksEnv q (DLX.scope1 f) L fI (.ref cda) cc))) []) := by intros; exact ⟨_, rfl⟩)
    (hsw1 : ∀ (L cda cc : Addr), swapsWith (.Call (.Attribute (.Call (.Name "super" p0) [] [] p1) "__init__" ap) [.Name f q1] [] pos) none pos'.line (PySem.W.ksEnv q (DLX.scope1 f) L fI (.ref cda) cc) = pure false := by intros; rfl)
    (hsw2 : ∀ (L cda cc : Addr), swapsWith (.Name f a3) (some (.Attribute (.Name "self" a1) f a2)) a4.line (PySem.W.ksEnv q (DLX.scope1 f) L fI (.ref cda) cc) = pure false := by intros; rfl) : HasEx P w K mg c [f] := by
  refine ⟨C, fI, fun us y => if y = f then us.head? else none, T, ?_, ?_⟩
  · intro A R s mb x t0 us hl kx hlim hg hb hbb hx hnx hroom hq
    match us, hl with
    | [v], _ => exact DLX.held_init1 T N (List.mem_singleton_self _) hne hd lf lk lc hbd hev hsw1 hsw2 kx hlim hg hb hbb hx hnx hroom hq
  · intro vs us hl rv g
    match vs, hl, rv with
    | [v], _, rv =>
      cases rv with
      | cons r rn =>
        cases rn
        by_cases e : g = f
        · subst e
          show RelO (List.lookup g [(g, v)]) (if g = g then _ else none)
          rw [if_pos rfl]
          have q : List.lookup g [(g, v)] = some v := by simp [List.lookup]
          rw [q]
          exact r
        · show RelO (List.lookup g [(f, v)]) (if g = f then _ else none)
          rw [if_neg e]
          have qw : (g == f) = false := by simpa using e
          have q : List.lookup g [(f, v)] = none := by simp [List.lookup, qw]
          rw [q]
          trivial
section
variable {X : Cx} {J : Jx} {x n : Str} {body suite : List Stmt} {b₀ : Stmt} {np pos pos' : Pos} {fb fs : List Sl → RS} {cat : Str → Option Bool}
theorem c_try (i : Nat) (hG : J.G = ⟨X.K, X.mg⟩) (T : ∃ S, X.mg x = some (.ref S) ∧ CatOk ⟨X.K, X.mg⟩ (.ref S) cat) (hs : X.stack = X.env :: X.outer) (hf : X.env.frame = some X.env.locals) (hN : X.N.Nodup) (tk : Takes X J.W)
    (hb : ∀ (W : WX) (pn : List (Addr × Obj)) (xe : Value → Shared → Prop), Takes (X.tr pn xe) W → PassesOwn (model X.prog X.w) X.A X.env xe → PSs (X.tr pn xe) body (tS { J with W := W } fb))
    (hsu : ∀ (a : Addr) (oe : Obj) (cls : Value) (d : Option Addr) (pn : List (Addr × Obj)), Zc cls d oe → (∃ vs, oe.data = .fields vs) → PSs (X.suite a ((a, oe) :: pn)) (b₀ :: suite) (tS (J.sui a cls d) fs)) (hg : Gl X x := by rfl) (hdb : (x == ("__debug__" : Str)) = false := by decide)
    (hi : X.N[i]? = some n := by rfl) (hln : X.env.kindOf n = some .local := by rfl) : PS X (.Try body [.ExceptHandler (some (.Name x np)) (some n) (b₀ :: suite) pos'] [] [] pos) (tS J (stry i cat fb fs)) := by
  obtain ⟨S, hm, hc⟩ := T
  exact s_try i (hK_ hG) hs hf hN ⟨hg, hdb, .inl hm⟩ tk (by rw [hG]; exact hc) hb hsu hi hln
theorem c_try0 (hG : J.G = ⟨X.K, X.mg⟩) (T : ∃ S, X.mg x = some (.ref S) ∧ CatOk ⟨X.K, X.mg⟩ (.ref S) cat) (hs : X.stack = X.env :: X.outer) (hf : X.env.frame = some X.env.locals) (tk : Takes X J.W)
    (hb : ∀ (W : WX) (pn : List (Addr × Obj)) (xe : Value → Shared → Prop), Takes (X.tr pn xe) W → PassesOwn (model X.prog X.w) X.A X.env xe → PSs (X.tr pn xe) body (tS { J with W := W } fb))
    (hsu : ∀ (a : Addr) (oe : Obj) (cls : Value) (d : Option Addr) (pn : List (Addr × Obj)), Zc cls d oe → (∃ vs, oe.data = .fields vs) → PSs (X.suite a ((a, oe) :: pn)) (b₀ :: suite) (tS (J.sui a cls d) fs)) (hg : Gl X x := by rfl) (hdb : (x == ("__debug__" : Str)) = false := by decide) :
    PS X (.Try body [.ExceptHandler (some (.Name x np)) none (b₀ :: suite) pos'] [] [] pos) (tS J (stry0 cat fb fs)) := by
  obtain ⟨S, hm, hc⟩ := T
  exact s_try0 (hK_ hG) hs hf ⟨hg, hdb, .inl hm⟩ tk (by rw [hG]; exact hc) hb hsu
end
/-- what «except S» makes of an error of the class at C -/
theorem exm_of {K : PySem.W.Frag} {C S : Addr} {b : Bool} (h1 : PySem.W.subIn K (.ref S) (.type "BaseException") = some true) (h2 : PySem.W.isClsIn K S = true) (h3 : PySem.W.typeIn K (.ref S) = some (.type "type")) (h4 : PySem.W.subIn K (.ref C) (.ref S) = some b) : PySem.W.exmOne K (.ref C) (.ref S) = some b := by
  have e1 : (PySem.W.subIn K (.ref S) (.type "BaseException") == some true) = true := by rw [h1] <;> rfl
  have e2 : ((PySem.W.clsIn K S).isSome && PySem.W.typeIn K (.ref S) == some (.type "type")) = true := by
    have z : (PySem.W.clsIn K S).isSome = true := h2
    rw [z, h3] <;> rfl
  show (if (PySem.W.subIn K (.ref S) (.type "BaseException") == some true) = true then (if ((PySem.W.clsIn K S).isSome && PySem.W.typeIn K (.ref S) == some (.type "type")) = true then PySem.W.subIn K (.ref C) (.ref S) else none) else none) = some b
  rw [if_pos e1, if_pos e2, h4]
theorem CatOk.nil {G : Gm} {S : Value} : CatOk G S fun x => ([] : List (Str × Bool)).lookup x := fun nm C b e => by cases e
theorem CatOk.cons {G : Gm} {S : Value} {c : Str} {C : Addr} {b : Bool} {L : List (Str × Bool)} (hm : G.mg c = some (.ref C)) (he : PySem.W.exmOne G.K (.ref C) S = some b) (h : CatOk G S fun x => L.lookup x) : CatOk G S fun x => ((c, b) :: L).lookup x := by
  intro nm D b' e hD
  have e : ((c, b) :: L).lookup nm = some b' := e
  rw [List.lookup_cons] at e
  cases q : (nm == c) with
  | true =>
    rw [q] at e
    cases e
    have : nm = c := by simpa using q
    subst this
    rw [hm] at hD
    cases hD
    exact he
  | false => rw [q] at e; exact h nm D b' e hD
end DL

set_option Elab.async false
set_option linter.all false
set_option maxRecDepth 100000
set_option maxHeartbeats 4000000
namespace DL
open PySem L2

/-! ### fields of instances -/
def gFld (kn : Str → Bool) (f : Str) : D → Option D
  | .ob c ns ds => if kn c = true then (ns.zip ds).lookup f else none
  | _ => none
def KnF (K : PySem.W.Frag) (mg : Str → Option Value) (kn : Str → Bool) (f : Str) : Prop := ∀ c, kn c = true → ∃ C, mg c = some (.ref C) ∧ Cls K C ∧ NoAttr K C f
theorem lookup_zip_none {f : Str} : ∀ {ns : List Str} {vs : List V}, f ∉ ns → (ns.zip vs).lookup f = none
  | [], _, _ => rfl
  | n :: ns, [], _ => rfl
  | n :: ns, v :: vs, h => by
    have hb : (f == n) = false := beq_eq_false_iff_ne.mpr fun e => h (e ▸ List.mem_cons_self)
    rw [List.zip_cons_cons, List.lookup_cons, hb]
    exact lookup_zip_none fun z => h (List.mem_cons_of_mem _ z)
section
variable {X : Cx} {J : Jx} {e : Expr} {fa : List Sl → RE D} {f : Str} {pos : Pos} {kn : Str → Bool}
theorem e_fld (hG : J.G = ⟨X.K, X.mg⟩) (hk : KnF X.K X.mg kn f) (he : PE X e (tB J fa)) (hb : attributeBase e f X.env (eval e X.env) = eval e X.env := by rfl) : PE X (.Attribute e f pos) (tE J (un (gFld kn f) fa)) :=
  PEi (pe_fld he hb) fun σ H Q ⟨M, r, I, h⟩ => ⟨M, r, I, Out.bind h fun x r1 vx M1 H1 st1 I1 rx h1 => by
    cases x with
    | ob c ns ds =>
      obtain ⟨a, C, dx, vs, rfl, hc, ha, hl, rl⟩ := rx.ob
      have h1 : Out J (RV J) M1 H1 σ (liftO (if kn c = true then (ns.zip ds).lookup f else none) r1) Q := h1
      by_cases hkn : kn c = true
      · rw [if_pos hkn] at h1
        obtain ⟨C', hC', cl, na⟩ := hk c hkn
        rw [hG] at hc
        have hc : X.mg c = some (.ref C) := hc
        rw [hC'] at hc
        cases hc
        cases el : (ns.zip ds).lookup f with
        | none => rw [el] at h1; exact h1.elim
        | some d =>
          rw [el] at h1
          obtain ⟨v, hv, rv⟩ := lookup_rep rl el
          exact ⟨a, _, dx, _, v, rfl, ha, cl, na, hv, h1 v M1 H1 Step.refl I1 rv⟩
      · rw [if_neg hkn] at h1; exact h1.elim
    | _ => exact h1.elim⟩
end

/-! ### methods -/
structure HasM (P : Program) (w : World) (K : PySem.W.Frag) (mg : Str → Option Value) (base : Heap) (k : Nat) (c m : Str) (ps : List Str) (sp : Sp) : Prop where
  ex : ∃ C f fd, mg c = some (.ref C) ∧ Cls K C ∧ Meth K C m f ∧ FnG P w K mg base k f fd ps sp ∧ Binds K fd ps []
/-- o.m(..) -/
def callM (c m : Str) (F : List D → RF) (fo : List Sl → RE D) (fs : List Sl → RE (List D)) : List Sl → RE D := fun r => (fo r).bind fun o r1 => match o with
  | .ob c' ns ds => if (decide (c' = c) && !decide (m ∈ ns)) = true then (fs r1).bind fun es r2 => doF (F (.ob c' ns ds :: es)) r2 else .bad
  | _ => .bad
section
variable {X : Cx} {J : Jx} {o e : Expr} {es : List Expr} {fo : List Sl → RE D} {fs : List Sl → RE (List D)} {apos pos : Pos} {c m : Str} {k : Nat} {ps : List Str} {F : List D → RF}
theorem callM_core (hG : J.G = ⟨X.K, X.mg⟩) {C : Addr} (hC : X.mg c = some (.ref C)) (σ : St) (H : Hp) (Q : VK) (h : tE J (callM c m F fo fs) σ H Q) : tE J fo σ H fun x H1 => ∃ a dx fs', x = .ref a ∧ H1 a = some (.ins C dx fs') ∧ fs'.lookup m = none ∧ tA J fs σ H1 fun vs H2 => spP J.G F (x :: (vs ++ [])) H2 Q (WE J.W σ) := by
  obtain ⟨M, r, I, h⟩ := h
  refine ⟨M, r, I, Out.bind h fun x r1 vx M1 H1 st1 I1 rx h1 => ?_⟩
  cases x with
  | ob c' ns ds =>
    obtain ⟨a, C', dx, vs, rfl, n, hc, ha, hl, rl⟩ := id rx
    have hh : Out J (RV J) M1 H1 σ (if (decide (c' = c) && !decide (m ∈ ns)) = true then (fs r1).bind fun es r2 => doF (F (.ob c' ns ds :: es)) r2 else .bad) Q := h1
    by_cases hq : (decide (c' = c) && !decide (m ∈ ns)) = true
    · rw [if_pos hq] at hh
      clear h1
      rw [Bool.and_eq_true] at hq
      have e1 := of_decide_eq_true hq.1
      have e2 : m ∉ ns := by simpa using hq.2
      subst e1
      rw [hG] at hc
      have hc : X.mg c' = some (.ref C') := hc
      rw [hC] at hc
      cases hc
      refine ⟨a, dx, _, rfl, ha, lookup_zip_none e2, M1, r1, I1, Out.bind hh fun es r2 ws M2 H2 st2 I2 rw2 h2 => ?_⟩
      rw [List.append_nil]
      exact doF_core I2 (ds := .ob c' ns ds :: es) ⟨_, ws, rfl, Rep.step st2 I1.md _ _ rx, rw2⟩ h2
    · rw [if_neg hq] at hh; exact hh.elim
  | _ => exact h1.elim
theorem c_M {pl : Sem Bool} (hG : J.G = ⟨X.K, X.mg⟩) (T : HasM X.prog X.w X.K X.mg X.base k c m ps (spP ⟨X.K, X.mg⟩ F)) (hr : Room k X.A) (hgd : X.A.guards = some []) (tk : Takes X J.W) (ho : PE X o (tE J fo)) (ha : PA X (e :: es) (tA J fs))
    (hst : starEach (e :: es) X.env = (false, eval e X.env) :: starEach es X.env := by rfl) (hpl : (backTo pos (starEach es X.env)).any (·.1) = false := by rfl)
    (ht : eval (.Call (.Attribute o m apos) (e :: es) [] pos) X.env = (do let ov ← eval o X.env; standAt apos.atName; let (f, first) ← holding [ov] (getMethod ov m pl); callWith pos f first (backTo pos (starEach (e :: es) X.env)) (backToKw pos (keywordEach [] X.env))) := by rfl) :
    PE X (.Call (.Attribute o m apos) (e :: es) [] pos) (tE J (callM c m F fo fs)) := by
  obtain ⟨C, f, fd, hC, cl, hm, Fk, hb⟩ := T.ex
  exact PEi (pe_methG (pl := pl) ho cl hm (by rw [← hG] at Fk; exact Fk) hr hgd hb .nil tk ha hst hpl ht) fun σ H Q h => callM_core hG hC σ H Q h
theorem c_M0 {pl : Sem Bool} (hG : J.G = ⟨X.K, X.mg⟩) (T : HasM X.prog X.w X.K X.mg X.base k c m ps (spP ⟨X.K, X.mg⟩ F)) (hr : Room k X.A) (hgd : X.A.guards = some []) (tk : Takes X J.W) (ho : PE X o (tE J fo))
    (ht : eval (.Call (.Attribute o m apos) [] [] pos) X.env = (do let ov ← eval o X.env; standAt apos.atName; let (f, first) ← holding [ov] (getMethod ov m pl); callWith pos f first (backTo pos (starEach [] X.env)) (backToKw pos (keywordEach [] X.env))) := by rfl) :
    PE X (.Call (.Attribute o m apos) [] [] pos) (tE J (callM c m F fo anil)) := by
  obtain ⟨C, f, fd, hC, cl, hm, Fk, hb⟩ := T.ex
  refine PEi (pe_meth0G (pl := pl) ho cl hm (by rw [← hG] at Fk; exact Fk) hr hgd hb .nil tk ht) fun σ H Q h => ?_
  obtain ⟨M, r, I, q⟩ := callM_core hG hC σ H Q h
  refine ⟨M, r, I, ?_⟩
  cases e1 : fo r with
  | ok d r1 =>
    rw [e1] at q
    intro v M' H' st I' rv
    obtain ⟨a, dx, fs', ex, ha, hl, M2, r2, I2, q2⟩ := q v M' H' st I' rv
    exact ⟨a, dx, fs', ex, ha, hl, q2 [] M2 H' Step.refl I2 rfl⟩
  | exn x r1 => rw [e1] at q; exact q
  | bad => rw [e1] at q; exact q.elim
end

/-! ### making instances -/
structure HasMk (P : Program) (w : World) (K : PySem.W.Frag) (mg : Str → Option Value) (base : Heap) (k : Nat) (c : Str) (ps : List Str) (ds : List Value) (sp : Sp) : Prop where
  ex : ∃ C f fd, mg c = some (.ref C) ∧ Mk K C f ∧ FnG P w K mg base k f fd ps sp ∧ Binds K fd ps ds
/-- C(..), __init__ read as F; what the defaults stand for: ds -/
def mkOb (c : Str) (F : List D → RF) (dd : List D) (fs : List Sl → RE (List D)) : List Sl → RE D := fun r => (fs r).bind fun ds r1 => match F (.ob c [] [] :: (ds ++ dd)) with
  | .ok .non io => .ok io r1
  | .exn x _ => .exn x r1
  | _ => .bad
section
variable {X : Cx} {J : Jx} {e : Expr} {es : List Expr} {fs : List Sl → RE (List D)} {p pos : Pos} {c : Str} {k : Nat} {ps : List Str} {F : List D → RF} {dd : List D} {dv : List Value} {dw : List V}
theorem mk_core (hG : J.G = ⟨X.K, X.mg⟩) {C : Addr} (hC : X.mg c = some (.ref C)) (hdd : ∀ M H, RepL J.G M H dd dw) {M : Addr → Prop} {r : List Sl} {σ : St} {H : Hp} {ds : List D} {vs : List V} {Q : VK} (I : SI J M r σ H) (rd : RepL J.G M H ds vs)
    (h : Out J (RO J) M H σ (match F (.ob c [] [] :: (ds ++ dd)) with
      | .ok .non io => .ok io r
      | .exn x _ => .exn x r
      | _ => .bad) Q) : ∀ x dx, H x = none → H dx = none → dx ≠ x → spI J.G F (.ref x :: (vs ++ dw)) (upd (upd H dx (.own x)) x (.ins C dx [])) (fun v H2 => v = .non ∧ Q (.ref x) H2) (WE J.W σ) := by
  intro x dx hx hdx hne
  have I0 := I.ext (ext_new (o := .own x) hdx)
  have hx0 : (upd H dx (.own x)) x = none := by rw [upd_ne (Ne.symm hne)]; exact hx
  obtain ⟨I1, st, nm, n0, h0, fl⟩ := I0.newOwn (o := .ins C dx []) hx0 trivial
  have st0 : Step M H M (upd H dx (.own x)) := Step.ext (ext_new hdx)
  have rd1 := RepL.step (st0.trans st) I.md _ _ rd
  refine ⟨_, x, .ob c [] [], vs ++ dw, ds ++ dd, rfl, I1.md, .inr rfl, ⟨C, dx, [], by rw [hG]; exact hC, upd_same, rfl, rfl⟩, rd1.append (hdd _ _), ?_⟩
  cases eF : F (.ob c [] [] :: (ds ++ dd)) with
  | ok d io =>
    rw [eF] at h
    intro v H' kp md own rv
    cases d with
    | non =>
      cases rv
      refine ⟨rfl, ?_⟩
      have st1 : Step (fun b => M b ∨ b = x) (upd (upd H dx (.own x)) x (.ins C dx [])) (fun b => M b ∨ b = x) H' := ⟨fun b u hb n => kp b u hb (fun e => n (.inr e)), fun b z => .inl z⟩
      refine h (.ref x) _ H' ((st0.trans st).trans st1) (I1.writeFl (.inr rfl) h0 fl kp md) ⟨x, rfl, .inr rfl, own, n0, h0, fl⟩
    | _ => exact h.elim
  | exn xx io =>
    rw [eF] at h
    intro cls d H' kp md own rx
    have st1 : Step (fun b => M b ∨ b = x) (upd (upd H dx (.own x)) x (.ins C dx [])) (fun b => M b ∨ b = x) H' := ⟨fun b u hb n => kp b u hb (fun e => n (.inr e)), fun b z => .inl z⟩
    exact h cls d _ H' ((st0.trans st).trans st1) (I1.writeFl (.inr rfl) h0 fl kp md) rx
  | bad => rw [eF] at h; exact h.elim
theorem n_mk (hG : J.G = ⟨X.K, X.mg⟩) (T : HasMk X.prog X.w X.K X.mg X.base k c ps dv (spI ⟨X.K, X.mg⟩ F)) (hdv : Vals dw dv) (hdd : ∀ M H, RepL J.G M H dd dw) (hr : Room (k + 1) X.A) (hgd : X.A.guards = some []) (tk : Takes X J.W) (ha : PA X (e :: es) (tA J fs)) (hg : Gl X c := by rfl) (hdb : (c == ("__debug__" : Str)) = false := by decide)
    (he : starEach (e :: es) X.env = (false, eval e X.env) :: starEach es X.env := by rfl) (hpl : (backTo pos (starEach es X.env)).any (·.1) = false := by rfl) : PE X (.Call (.Name c p) (e :: es) [] pos) (tN J (mkOb c F dd fs)) := by
  obtain ⟨C, f, fd, hC, hm, Fk, hb⟩ := T.ex
  exact PEi (pe_makeG hm (by rw [← hG] at Fk; exact Fk) hr hgd hg hC hb hdv tk ha hdb he hpl) fun σ H Q ⟨M, r, I, h⟩ => ⟨M, r, I, Out.bind h fun ds r1 vs M1 H1 st1 I1 rd1 h1 => mk_core hG hC hdd I1 rd1 h1⟩
theorem n_mk0 (hG : J.G = ⟨X.K, X.mg⟩) (T : HasMk X.prog X.w X.K X.mg X.base k c ps dv (spI ⟨X.K, X.mg⟩ F)) (hdv : Vals dw dv) (hdd : ∀ M H, RepL J.G M H dd dw) (hr : Room (k + 1) X.A) (hgd : X.A.guards = some []) (tk : Takes X J.W) (hg : Gl X c := by rfl) (hdb : (c == ("__debug__" : Str)) = false := by decide) :
    PE X (.Call (.Name c p) [] [] pos) (tN J (mkOb c F dd anil)) := by
  obtain ⟨C, f, fd, hC, hm, Fk, hb⟩ := T.ex
  exact PEi (pe_make0G hm (by rw [← hG] at Fk; exact Fk) hr hgd hg hC hb hdv tk hdb) fun σ H Q ⟨M, r, I, h⟩ => mk_core (ds := []) (vs := []) hG hC hdd I rfl h
end

/-! ### self.f = e -/
def putN (f : Str) (v : D) : List Str → List D → List Str × List D
  | n :: ns, d :: ds => if n = f then (n :: ns, v :: ds) else (n :: (putN f v ns ds).1, d :: (putN f v ns ds).2)
  | _, _ => ([f], [v])
def setFld (kn : Str → Bool) (f : Str) (v : D) : D → Option D
  | .ob c ns ds => if (kn c && decide (ns.length < 900)) = true then some (.ob c (putN f v ns ds).1 (putN f v ns ds).2) else none
  | _ => none
theorem putN_rep {G : Gm} {M : Addr → Prop} {H : Hp} {f : Str} {v : D} {w : V} (rv : Rep G M H v w) : ∀ {ns : List Str} {ds : List D} {vs : List V}, RepL G M H ds vs → ns.length = vs.length →
    ∃ vs', putF f w (ns.zip vs) = (putN f v ns ds).1.zip vs' ∧ (putN f v ns ds).1.length = vs'.length ∧ RepL G M H (putN f v ns ds).2 vs'
  | [], [], _, h, _ => by cases h; exact ⟨[w], rfl, rfl, w, [], rfl, rv, rfl⟩
  | [], d :: ds, _, ⟨u, us, e, _, _⟩, hl => by subst e; cases hl
  | n :: ns, [], _, h, hl => by cases h; cases hl
  | n :: ns, d :: ds, _, ⟨u, us, e, ru, rs⟩, hl => by
    subst e
    by_cases hn : n = f
    · refine ⟨w :: us, ?_, ?_, ?_⟩
      · show (if n = f then (n, w) :: ns.zip us else _) = _
        rw [if_pos hn]
        show _ = (if n = f then (n :: ns, v :: ds) else _).1.zip (w :: us)
        rw [if_pos hn]; rfl
      · show (if n = f then (n :: ns, v :: ds) else _).1.length = _
        rw [if_pos hn]; exact hl
      · show RepL G M H (if n = f then (n :: ns, v :: ds) else _).2 _
        rw [if_pos hn]; exact ⟨w, us, rfl, rv, rs⟩
    · obtain ⟨vs', e1, e2, e3⟩ := putN_rep rv (ns := ns) rs (by simpa using hl)
      refine ⟨u :: vs', ?_, ?_, ?_⟩
      · show (if n = f then _ else (n, u) :: putF f w (ns.zip us)) = _
        rw [if_neg hn, e1]
        show _ = (if n = f then (n :: ns, v :: ds) else (n :: (putN f v ns ds).1, d :: (putN f v ns ds).2)).1.zip (u :: vs')
        rw [if_neg hn]; rfl
      · show (if n = f then (n :: ns, v :: ds) else (n :: (putN f v ns ds).1, d :: (putN f v ns ds).2)).1.length = _
        rw [if_neg hn, List.length_cons, List.length_cons, e2]
      · show RepL G M H (if n = f then (n :: ns, v :: ds) else (n :: (putN f v ns ds).1, d :: (putN f v ns ds).2)).2 _
        rw [if_neg hn]; exact ⟨u, vs', rfl, ru, e3⟩
def sfld (i : Nat) (kn : Str → Bool) (f : Str) (fe : List Sl → RE D) : List Sl → RS := fun r => (fe r).s fun d r1 => match putOwn i r1 (setFld kn f d) with
  | some r2 => .nx r2
  | none => .bad
section
variable {X : Cx} {J : Jx} {e : Expr} {fe : List Sl → RE D} {f y : Str} {pos py pos' : Pos} {kn : Str → Bool}
theorem s_fld (i : Nat) (hG : J.G = ⟨X.K, X.mg⟩) (hk : KnF X.K X.mg kn f) (he : PE X e (tE J fe)) (hN : X.N[i]? = some y := by rfl) (hv : Vis X.env.scope y := by first | exact Or.inl rfl | exact Or.inr (Or.inl rfl) | exact Or.inr (Or.inr rfl)) (hd : (y == ("__debug__" : Str)) = false := by decide)
    (hcd : (y == ("__classdict__" : Str)) = false := by decide) (hs : swapsWith e (some (.Attribute (.Name y py) f pos')) pos.line X.env = pure false := by rfl) : PS X (.Assign [.Attribute (.Name y py) f pos'] e pos) (tS J (sfld i kn f fe)) :=
  PSi (ps_fld (pe_var hN hv hd hcd) he hs) fun E σ H ⟨M, r, I, h⟩ => ⟨M, r, I, Out.s h fun d r1 w M1 H1 st1 I1 rv h1 => by
    cases ep : putOwn i r1 (setFld kn f d) with
    | none => rw [ep] at h1; exact h1.elim
    | some r2 =>
      rw [ep] at h1
      obtain ⟨ho, hg2⟩ := putOwn_some ep
      obtain ⟨a, s2, d2, es2, ow2, ea2, m2, q2, hs2⟩ := own_at I1 ho
      obtain ⟨d3, hd3⟩ := hg2 s2 d2 es2 hs2
      cases d2 with
      | ob c ns ds =>
        have hd3' : (if (kn c && decide (ns.length < 900)) = true then some (D.ob c (putN f d ns ds).1 (putN f d ns ds).2) else none) = some d3 := hd3
        by_cases hq : (kn c && decide (ns.length < 900)) = true
        · rw [if_pos hq] at hd3'
          cases hd3'
          rw [Bool.and_eq_true] at hq
          obtain ⟨C, dx, vs, hc, ha, hl, rl⟩ := q2
          obtain ⟨C', hC', cl, na⟩ := hk c hq.1
          rw [hG] at hc
          have hc : X.mg c = some (.ref C) := hc
          rw [hC'] at hc
          cases hc
          obtain ⟨vs', e1, e2, e3⟩ := putN_rep (f := f) rv rl hl
          have hz := of_decide_eq_true hq.2
          refine ⟨_, ea2, a, C, dx, _, rfl, ha, cl, na, by rw [List.length_zip, ← hl, Nat.min_self]; omega, ?_⟩
          rw [e1]
          have st : Step M1 H1 M1 (upd H1 a (.ins C dx ((putN f d ns ds).1.zip vs'))) := Step.at m2
          obtain ⟨I3, st3⟩ := put_core I1 es2 hs2 ea2 _ hd3 ep kept_upd (I1.md.upd (o := .ins C dx ((putN f d ns ds).1.zip vs')) trivial) ⟨C, dx, vs', by rw [hG]; exact hC', upd_same, e2, RepL.step st I1.md _ _ e3⟩
          exact h1 M1 σ _ st3 I3
        · rw [if_neg hq] at hd3'; cases hd3'
      | _ => cases hd3⟩
end
end DL

set_option Elab.async false
set_option linter.all false
set_option maxRecDepth 100000
set_option maxHeartbeats 4000000
namespace DL
open PySem L2 PyProof.Rows

/-! ### several except clauses, each with a name -/
abbrev Hnd := Value × Nat × (Addr → Value → Option Addr → TS)
/-- behind a suite the name in slot i is gone -/
def gone (i : Nat) (D : Ends) : Ends := { nx := fun τ H => D.nx (τ.set i none) H, rt := D.rt, bk := fun τ H => D.bk (τ.set i none) H, ct := fun τ H => D.ct (τ.set i none) H }
def wNm (K : PySem.W.Frag) (W : WX) (D : Ends) : List Hnd → WX
  | [] => W
  | (c, i, ts) :: r => fun cls d σ H => ∃ b, PySem.W.exmOne K cls c = some b ∧ (b = true → ∀ a, H a = none → ts a cls d (gone i D) (σ.set i (some (.ref a))) H) ∧ (b = false → wNm K W D r cls d σ H)
inductive HsOk (X : Cx) : List ExceptHandler → List Hnd → Prop
  | nil : HsOk X [] []
  | cons {x n : Str} {c : Value} {i : Nat} {ts : Addr → Value → Option Addr → TS} {s0 : Stmt} {su : List Stmt} {np hp : Pos} {hs : List ExceptHandler} {l : List Hnd} (nm : Names X x c) (hi : X.N[i]? = some n) (hl : X.env.kindOf n = some .local)
      (hsu : ∀ (a : Addr) (o : Obj) (cls : Value) (d : Option Addr) (pn : List (Addr × Obj)), Zc cls d o → (∃ vs, o.data = .fields vs) → PSs (X.suite a ((a, o) :: pn)) (s0 :: su) (ts a cls d)) (r : HsOk X hs l) :
      HsOk X (.ExceptHandler (some (.Name x np)) (some n) (s0 :: su) hp :: hs) ((c, i, ts) :: l)
section
variable {X : Cx} {body : List Stmt} {eh : ExceptHandler} {ehs : List ExceptHandler} {l : List Hnd} {pos : Pos} {tb : WX → TS} {W : WX}
theorem ps_names (stk : X.stack = X.env :: X.outer) (fr : X.env.frame = some X.env.locals) (nd : X.N.Nodup) (tk : Takes X W)
    (hb : ∀ (V : WX) (pn : List (Addr × Obj)) (xe : Value → Shared → Prop), Takes (X.tr pn xe) V → PassesOwn (model X.prog X.w) X.A X.env xe → PSs (X.tr pn xe) body (tb V))
    (hs : HsOk X (eh :: ehs) l) : PS X (.Try body (eh :: ehs) [] [] pos) (fun D σ H => tb (wNm X.K W D l) D σ H) := by
  constructor
  intro pins s σ H D I0 h0
  have okX := I0.ok
  have frs0 : X.A.frames = some (X.env :: X.outer) := by rw [okX.frames, stk]
  refine wpAny_Try_except ?_
  have main := hb (wNm X.K W D l) (X.pn ++ pins) (fun e z1 => wpAny (model X.prog X.w) X.A (noteFrame e X.env) (fun _ z2 => wpAny (model X.prog X.w) X.A (setFlight e none) (fun _ z3 =>
    wpAny (model X.prog X.w) X.A (handleBy e X.env (eh :: ehs)) (SP X pins D) X.xe z3) X.xe z2) X.xe z1) (fun u z air => ?_) PassesOwn.looking
  · refine wpAny_mono (main.run [] s σ H D (I0.toTry _) h0) (fun fl z q => ?_) (fun _ _ q => q)
    match fl, q with
    | .next, ⟨τ, G, J, q⟩ => exact wpAny_execs_nil ⟨τ, G, J.ofTry okX, q⟩
    | .brk, ⟨τ, G, J, q⟩ => exact ⟨τ, G, J.ofTry okX, q⟩
    | .cont, ⟨τ, G, J, q⟩ => exact ⟨τ, G, J.ofTry okX, q⟩
    | .ret u, ⟨v, τ, G, J, rv, q⟩ => exact ⟨v, τ, G, J.ofTry okX, rv, q⟩
  · obtain ⟨a, B, y, pins', τ, G, cls, d, rfl, Jt, inB, uy, sky, na, os, ag, wish⟩ := air
    have J : Inv X pins τ G y := Jt.ofTry okX
    rw [stk] at sky
    show wpAny (model X.prog X.w) X.A (noteFrame (.ref a) X.env) _ _ _
    refine Sky.land Zc.steady frs0 fr sky fun g1 f1 u1 => ?_
    have K1 : Inv X pins τ G { z with heap := g1 } := J.landed inB f1.1 (uy.trans u1) os ag
    obtain ⟨o1, fv1, at1, z1, dat1⟩ := f1.there
    have out : a ∉ frs (X.env :: X.outer) := fun hm => by
      obtain ⟨_, o', at', no⟩ := f1.2.2.1.mem hm
      rw [at1] at at'
      cases at'
      exact no _ dat1
    have notL : a ≠ X.env.locals := fun q => out (List.mem_filterMap.mpr ⟨X.env, List.mem_cons_self, by rw [fr, q]⟩)
    have notF : a ∉ X.fs := fun hm => by
      obtain ⟨e, ein, q⟩ := List.mem_filterMap.mp hm
      exact out (List.mem_filterMap.mpr ⟨e, List.mem_cons_of_mem _ ein, q⟩)
    have S1 := K1.suite at1 dat1 na notL notF
    have all : ∀ (hh : List ExceptHandler) (ll : List Hnd), HsOk X hh ll → wNm X.K W D ll cls d τ G → wpAny (model X.prog X.w) X.A (handleBy (.ref a) X.env hh) (SP X pins D) X.xe { z with heap := g1 } := fun hh ll ok => by
      induction ok with
      | nil =>
        intro wq
        refine wpAny_handleBy_nil ?_
        obtain ⟨_, _, _, ob, fv, tr, _, _, atb, _, dat, slot1, _⟩ := id f1
        unfold PySem.passOn
        refine wpAny_bind (wpAny_field atb dat slot1 ?_)
        rw [if_neg (show ¬ ((Value.ref tr == Value.none) = true) from by simp)]
        have up : wpAny (model X.prog X.w) X.A (setFlight (.ref a) X.env.frame) (fun _ z4 => wpAny (model X.prog X.w) X.A (throw (.ref a) : Sem Flow) (SP X pins D) X.xe z4) X.xe { z with heap := g1 } := by
          rw [fr]
          refine HandSPX.setFlight_upZ f1 fun g2 held u2 => wpAny_throw (tk _ _ ?_)
          refine ⟨a, B, y, pins, τ, G, cls, d, rfl, J, inB, (uy.trans u1).trans u2, .inr (.inr ?_), na, os, ag, wq⟩
          rw [stk]
          exact held
        first
          | exact wpAny_bind (wpAny_pure (wpAny_bind up))
          | exact wpAny_bind up
      | @cons x n c i ts s0 su np hp hs2 l2 nm hi hl hsu r ih =>
        intro wq
        obtain ⟨b, em, yes, no⟩ := wq
        refine wpAny_handleBy_cons (codeAny_handlers_test ?_) (by intro q; cases q)
        have ty : PySem.W.Looks (model X.prog X.w) g1 (typeOf (.ref a)) cls := fun A Q E s k q => wpAny_typeOf_ref (k _ _ at1) (by rw [z1.1]; exact q)
        have named : ∀ {Q : Value → Shared → Prop} {E : Value → Shared → Prop}, Q c { z with heap := g1 } → wpAny (model X.prog X.w) (X.A.mark (some (.ref a))) (eval (.Name x np) X.env) Q E { z with heap := g1 } := fun {Q E} q => by
          obtain ⟨gx, dx, mx | ⟨mx, vx, nx⟩⟩ := nm
          · exact ld_glob (X := X.suite a ((a, o1) :: (X.pn ++ pins))) S1 gx mx q dx
          · exact ld_blt (X := X.suite a ((a, o1) :: (X.pn ++ pins))) S1 gx mx vx q nx dx
        refine named ((PySem.W.exm_one (M := model X.prog X.w) K1.kIn ty em).here ?_)
        cases b with
        | false => exact ih (no rfl)
        | true =>
          refine codeAny_handlers_suite_as ?_
          refine HandSPX.lands_againZ f1 fun g2 f2 u2 => ?_
          have K2 : Inv X pins τ G { z with heap := g2 } := J.landed inB f2.1 ((uy.trans u1).trans u2) os ag
          obtain ⟨o2, fv2, at2, z2, dat2⟩ := f2.there
          have S2 := K2.suite at2 dat2 na notL notF
          refine store_ok (X := X.suite a ((a, o2) :: (X.pn ++ pins))) (v := .ref a) S2 nd hi (.inl hl) rfl (fun s5 S5 => ?_) (.inr hl)
          have run := (hsu a o2 cls d (X.pn ++ pins) z2 ⟨_, dat2⟩).run [] s5 _ G _ S5 (yes rfl a na)
          refine wpAny_mono run (fun fl s6 q => ?_) (fun _ _ q => False.elim q)
          have gone_ : ∀ {ρ : L2.St} {G6 : Hp} {Q : Shared → Prop}, Inv (X.suite a ((a, o2) :: (X.pn ++ pins))) [] ρ G6 s6 → (∀ s7, Inv X pins (ρ.set i none) G6 s7 → Q s7) →
              wpAny (model X.prog X.w) X.A (do bindName X.env n .none; unbindBehindTheSuite X.env n hp) (fun _ s7 => Q s7) X.xe s6 := fun {ρ G6 Q} S6 k => gone_ok (S6.unsuite okX) nd hi hl k
          match fl, q with
          | .next, ⟨ρ, G6, S6, q⟩ => exact gone_ S6 fun s7 J7 => ⟨_, _, J7, q⟩
          | .brk, ⟨ρ, G6, S6, q⟩ => exact gone_ S6 fun s7 J7 => ⟨_, _, J7, q⟩
          | .cont, ⟨ρ, G6, S6, q⟩ => exact gone_ S6 fun s7 J7 => ⟨_, _, J7, q⟩
          | .ret u, ⟨v, ρ, G6, S6, rv, q⟩ => exact gone_ S6 fun s7 J7 => ⟨_, _, _, J7, rv, q⟩
    exact all _ _ hs wish
end
/-! read deeply: a list of (slot, what the class catches, suite) -/
abbrev DHnd := Nat × (Str → Option Bool) × (List Sl → RS)
def byH : List DHnd → Xn → List Sl → RS
  | [], x, r => .exn x r
  | (i, cat, fs) :: l, x, r => match cat x.c with
    | some true => if noXc r = true then dropAt i (fs (r.set i (.xc x))) else .bad
    | some false => byH l x r
    | none => .bad
def stryN (l : List DHnd) (fb : List Sl → RS) : List Sl → RS := fun r => match fb r with
  | .exn x r1 => byH l x r1
  | o => o
/-- the clauses' derivations, for the readings dl -/
inductive DHs (X : Cx) (J : Jx) : List ExceptHandler → List DHnd → List Hnd → Prop
  | nil : DHs X J [] [] []
  | cons {x n : Str} {S : Addr} {i : Nat} {cat : Str → Option Bool} {fs : List Sl → RS} {s0 : Stmt} {su : List Stmt} {np hp : Pos} {hs : List ExceptHandler} {dl : List DHnd} {l : List Hnd} (nm : Names X x (.ref S)) (hc : CatOk J.G (.ref S) cat) (hi : X.N[i]? = some n) (hl : X.env.kindOf n = some .local)
      (hsu : ∀ (a : Addr) (o : Obj) (cls : Value) (d : Option Addr) (pn : List (Addr × Obj)), Zc cls d o → (∃ vs, o.data = .fields vs) → PSs (X.suite a ((a, o) :: pn)) (s0 :: su) (tS (J.sui a cls d) fs)) (r : DHs X J hs dl l) :
      DHs X J (.ExceptHandler (some (.Name x np)) (some n) (s0 :: su) hp :: hs) ((i, cat, fs) :: dl) ((.ref S, i, fun a cls d => tS (J.sui a cls d) fs) :: l)
section
variable {X : Cx} {J : Jx} {body : List Stmt} {eh : ExceptHandler} {ehs : List ExceptHandler} {dl : List DHnd} {l : List Hnd} {pos : Pos} {fb : List Sl → RS}
theorem DHs.ok (h : DHs X J (eh :: ehs) dl l) : HsOk X (eh :: ehs) l := by
  have all : ∀ hh dl l, DHs X J hh dl l → HsOk X hh l := fun hh dl l h => by
    induction h with
    | nil => exact .nil
    | cons nm hc hi hl hsu r ih => exact .cons nm hi hl hsu ih
  exact all _ _ _ h
theorem DHs.wish (hK : X.K = J.G.K) {D : Ends} {x : Xn} {C : Addr} {dd : Option Addr} {M : Addr → Prop} {r1 : List Sl} {σ : L2.St} {H : Hp} (hC : J.G.mg x.c = some (.ref C)) (I : SI J M r1 σ H) (rx : RepX J.G M H x (.ref C) dd) :
    ∀ {hh : List ExceptHandler} {dl : List DHnd} {l : List Hnd}, DHs X J hh dl l → OutS J M H (byH dl x r1) D → wNm X.K J.W D l (.ref C) dd σ H := by
  intro hh dl l h
  induction h with
  | nil => exact fun q => q _ _ M σ H Step.refl I rx
  | @cons xx n S i cat fs s0 su np hp hs dl l nm hc hi hl hsu r ih =>
    intro q
    have q : OutS J M H (match cat x.c with
      | some true => if noXc r1 = true then dropAt i (fs (r1.set i (.xc x))) else .bad
      | some false => byH dl x r1
      | none => .bad) D := q
    cases ec : cat x.c with
    | none => rw [ec] at q; exact q.elim
    | some b =>
      refine ⟨b, by rw [hK]; exact hc _ _ _ ec hC, fun eb a na => ?_, fun eb => ?_⟩
      · subst eb
        rw [ec] at q
        dsimp only at q
        split at q
        · rename_i hn
          have I2 : SI (J.sui a (.ref C) dd) M r1 σ H := SI.reJ (J := J) rfl rfl rfl rfl (.inr hn) I
          exact ⟨M, _, I2.setXc rfl rx, sui_core q⟩
        · exact q.elim
      · subst eb
        rw [ec] at q
        exact ih q
theorem s_tryN (hK : X.K = J.G.K) (stk : X.stack = X.env :: X.outer) (fr : X.env.frame = some X.env.locals) (nd : X.N.Nodup) (tk : Takes X J.W)
    (hb : ∀ (W : WX) (pn : List (Addr × Obj)) (xe : Value → Shared → Prop), Takes (X.tr pn xe) W → PassesOwn (model X.prog X.w) X.A X.env xe → PSs (X.tr pn xe) body (tS { J with W := W } fb)) (hs : DHs X J (eh :: ehs) dl l) :
    PS X (.Try body (eh :: ehs) [] [] pos) (tS J (stryN dl fb)) :=
  PSi (ps_names (tb := fun W => tS { J with W := W } fb) stk fr nd tk hb hs.ok) fun D σ H ⟨M, r, I, h⟩ => ⟨M, r, tS_reW I, try_core h fun x0 r1 cls dd M' σ' H' em st I' rx hk => by
    obtain ⟨C, hC, rfl, _⟩ := id rx
    exact DHs.wish hK hC I' rx hs hk⟩
theorem h_nil : DHs X J [] [] [] := .nil
theorem h_cons {x n : Str} {i : Nat} {cat : Str → Option Bool} {fs : List Sl → RS} {s0 : Stmt} {su : List Stmt} {np hp : Pos} {hs : List ExceptHandler} (hG : J.G = ⟨X.K, X.mg⟩) {dl : List DHnd} (T : ∃ S, X.mg x = some (.ref S) ∧ CatOk ⟨X.K, X.mg⟩ (.ref S) cat)
    (hsu : ∀ (a : Addr) (o : Obj) (cls : Value) (d : Option Addr) (pn : List (Addr × Obj)), Zc cls d o → (∃ vs, o.data = .fields vs) → PSs (X.suite a ((a, o) :: pn)) (s0 :: su) (tS (J.sui a cls d) fs)) (r : ∃ l, DHs X J hs dl l) (hg : Gl X x := by rfl) (hdb : (x == ("__debug__" : Str)) = false := by decide)
    (hi : X.N[i]? = some n := by rfl) (hl : X.env.kindOf n = some .local := by rfl) : ∃ l, DHs X J (.ExceptHandler (some (.Name x np)) (some n) (s0 :: su) hp :: hs) ((i, cat, fs) :: dl) l := by
  obtain ⟨S, hm, hc⟩ := T
  obtain ⟨l, hl2⟩ := r
  exact ⟨_, .cons ⟨hg, hdb, .inl hm⟩ (by rw [hG]; exact hc) hi hl hsu hl2⟩
theorem c_tryN (hG : J.G = ⟨X.K, X.mg⟩) (stk : X.stack = X.env :: X.outer) (fr : X.env.frame = some X.env.locals) (nd : X.N.Nodup) (tk : Takes X J.W)
    (hb : ∀ (W : WX) (pn : List (Addr × Obj)) (xe : Value → Shared → Prop), Takes (X.tr pn xe) W → PassesOwn (model X.prog X.w) X.A X.env xe → PSs (X.tr pn xe) body (tS { J with W := W } fb)) (hs : ∃ l, DHs X J (eh :: ehs) dl l) :
    PS X (.Try body (eh :: ehs) [] [] pos) (tS J (stryN dl fb)) := by
  obtain ⟨l, h⟩ := hs
  exact s_tryN (hK_ hG) stk fr nd tk hb h
end
end DL

set_option Elab.async false
set_option linter.all false
set_option maxRecDepth 100000
set_option maxHeartbeats 4000000
namespace DL
open PySem L2 PyProof.Rows
open Sem (wp)

/-! ### enumerate(v), v a list, a tuple, a text -/
set_option maxHeartbeats 1000000 in
theorem en_new {v : Value} {o : Obj} {S : Heap → Prop} (B : Begins v o S) :
    Meets (Builtin.«enumerate.__new__» ⟨[.type "enumerate", v], []⟩) (fun _ R z => S z.heap ∧
      R (.ok (.ret (.ref (z.heap.push o).objs.size))) { z with heap := (z.heap.push o).push { cls := .type "enumerate", data := .fields #[.none, .bool false, .ref z.heap.objs.size, rawInt 0, .none, .none] } }) :=
  .of_wp fun prog w A R z h => by
    obtain ⟨hp, g, d, tk, os⟩ := z
    obtain ⟨st, h⟩ := h
    have hsub := sub_enumerate
    have it0 : ∀ {A' : Around} {E : Value → Shared → Prop} {Q : Value → Shared → Prop}, Q (.ref hp.objs.size) ⟨hp.push o, g, d, tk, os⟩ → wpAny (model prog w) A' (pyIter v) Q E ⟨hp, g, d, tk, os⟩ :=
      fun q => B.iter prog w _ _ ⟨hp, g, d, tk, os⟩ _ st q
    wp_walk using it0
    refine wpAny_stack_any fun st => wpAny_pure ?_
    split
    · rename_i c _ _ _ _ _
      cases (c == Value.type "enumerate")
      · wp_walk using it0
        exact ⟨_, rfl, h⟩
      · wp_walk using it0
        exact ⟨_, rfl, h⟩
    · wp_walk using it0
      exact ⟨_, rfl, h⟩
theorem en_call {prog : Program} {w : World} {A : Around} {E : Value → Shared → Prop} {z : Shared} {v : Value} {o : Obj} {S : Heap → Prop} {Q : Value → Shared → Prop} (B : Begins v o S) (st : S z.heap)
    (h : ∀ g, IsEnum g (z.heap.objs.size + 1) z.heap.objs.size 0 .none → g.get? z.heap.objs.size = some o → (∀ b u, z.heap.get? b = some u → g.get? b = some u) → Q (.ref (z.heap.objs.size + 1)) { z with heap := g }) :
    wpAny (model prog w) A (PySem.call (.type "enumerate") [v]) Q E z := by
  refine callType_new F.called_enumerate (by decide) (F.typeCall_enumerate_1 _) (F.newCall_enumerate_1 _) (fun obj => F.args_object_init_2 obj _) F.entry_enumerate_new (en_new B) ⟨st, ?_⟩
  have size : (z.heap.push o).objs.size = z.heap.objs.size + 1 := Heap.size_push ..
  show _ ∧ _
  rw [size]
  have en : IsEnum ((z.heap.push o).push { cls := .type "enumerate", data := .fields #[.none, .bool false, .ref z.heap.objs.size, rawInt 0, .none, .none] }) (z.heap.objs.size + 1) z.heap.objs.size 0 .none := by
    have q := Heap.get?_push_size (z.heap.push o) (o := { cls := .type "enumerate", data := .fields #[.none, .bool false, .ref z.heap.objs.size, rawInt 0, .none, .none] }) rfl
    rw [size] at q
    exact q
  exact ⟨⟨_, en, rfl⟩, h _ en (Heap.get?_push_of_some _ (Heap.get?_push_size _ B.free)) fun b u e => Heap.get?_push_of_some _ (Heap.get?_push_of_some _ e)⟩
/-- a list's items as they stand at each turn, each in a new pair -/
def IteL (K : PySem.W.Frag) (a : Addr) : It :=
  ⟨fun i H => ∃ (xs : List V) (x : V), SqL K H a xs ∧ xs[i]? = some x, fun i H v H' => ∃ T x o, v = .ref T ∧ H T = none ∧ o.dict = none ∧ H' = upd H T (.frz o (.tup [.int (i : Nat), x])) ∧ ∀ xs, SqL K H a xs → xs[i]? = some x, fun i H => ∃ xs : List V, SqL K H a xs ∧ xs.length ≤ i⟩
theorem turn_enL {P : Program} {w : World} {K : PySem.W.Frag} {elts : List Expr} {kk : Nat} {tpos : Pos} (a e it : Addr) :
    Turn P w K (.Tuple elts kk tpos) (IteL K a) [e, it] e (fun i h => (∃ old, IsEnum h e it ((i : Nat) : Int) old) ∧ h.IsListIter it a i ∧ e ≠ it) where
  mem := (turn_enum (P := P) (w := w) (K := K) (elts := elts) (kk := kk) (tpos := tpos) a e it).mem
  obj := (turn_enum (P := P) (w := w) (K := K) (elts := elts) (kk := kk) (tpos := tpos) a e it).obj
  keep := (turn_enum (P := P) (w := w) (K := K) (elts := elts) (kk := kk) (tpos := tpos) a e it).keep
  item := by
    intro X hP hw hK hc i pins s σ H E I hf st hg
    subst hP hw hK
    obtain ⟨⟨old, he⟩, hit, hne⟩ := st
    obtain ⟨xs, x, hq, hx⟩ := hg
    obtain ⟨its, rv, p, hz⟩ := I.list hq
    obtain ⟨u, hu, ru⟩ := rv.get hx
    have hel : e < s.heap.objs.size := Heap.lt_size he
    have hil : it < s.heap.objs.size := by obtain ⟨_, q, _⟩ := hit; exact Heap.lt_size q
    refine wpAny_pyNext_enum_item he hit p.isList (x := u) (by simpa using hu) hne fun h' ho hit' hT hsz hk => ?_
    refine ⟨_, rfl, wpAny_letOwnedTupleGo_enum (s := { s with heap := h', toks := s.toks + 1 }) ho fun h'' he' sb => ?_⟩
    have hT2 : h''.get? s.heap.objs.size = some { cls := .type "tuple", data := .seq #[.int i s.toks, u] } := (sb.2 _ (Nat.ne_of_gt hel)).trans hT
    have new : ObjOk X.prog X.w (upd H s.heap.objs.size (.frz ({ cls := .type "tuple", data := .seq #[.int i s.toks, u] } : Obj) (.tup [.int (i : Nat), x]))) h'' s.heap.objs.size (.frz ({ cls := .type "tuple", data := .seq #[.int i s.toks, u] } : Obj) (.tup [.int (i : Nat), x])) :=
      frz_ok hT2 (by show 2 ≤ sizeLine; decide) (its := [.int i s.toks, u]) (.cons ⟨_, rfl⟩ (.cons ru .nil)) rfl rfl
    have I1 : Inv X pins σ (upd H s.heap.objs.size (.frz ({ cls := .type "tuple", data := .seq #[.int i s.toks, u] } : Obj) (.tup [.int (i : Nat), x]))) { s with heap := h'', toks := s.toks + 1 } :=
      I.turnedNew (ch := [e, it]) (fun b ob hb q => (sb.2 b (fun z => hb (by simp [z]))).trans (hk b ob (fun z => hb (by simp [z])) (fun z => hb (by simp [z])) q)) hf (Nat.le_refl _) new
    refine ⟨.ref s.heap.objs.size, _, I1, rfl, ⟨_, x, _, rfl, I.hok.fresh (Nat.le_refl _), rfl, rfl, fun ys hy => by rw [I.list_inj hy hq]; exact hx⟩, ⟨⟨u, ?_⟩, hit'.at fun o q => (sb.2 it (Ne.symm hne)).trans q, hne⟩, fun b hb => ?_⟩
    · have e1 : ((i + 1 : Nat) : Int) = (i : Int) + 1 := by omega
      rw [e1]; exact he'
    · have hb' : b < s.heap.objs.size := by
        have e' : b = e ∨ b = it := by simpa using hb
        rcases e' with z | z
        · rw [z]; exact hel
        · rw [z]; exact hil
      rw [upd_ne (Nat.ne_of_lt hb')]
      exact (hf b hb).1
  done := (turn_enum (P := P) (w := w) (K := K) (elts := elts) (kk := kk) (tpos := tpos) a e it).done
  self := (turn_enum (P := P) (w := w) (K := K) (elts := elts) (kk := kk) (tpos := tpos) a e it).self
/-- a tuple's items, each in a new pair -/
def IteT (K : PySem.W.Frag) (a : Addr) (n : Nat) : It :=
  ⟨fun i H => ∃ (xs : List V) (x : V), SqT K H a xs ∧ xs.length = n ∧ xs[i]? = some x, fun i H v H' => ∃ T x o, v = .ref T ∧ H T = none ∧ o.dict = none ∧ H' = upd H T (.frz o (.tup [.int (i : Nat), x])) ∧ ∀ xs, SqT K H a xs → xs[i]? = some x, fun i H => ∃ xs : List V, SqT K H a xs ∧ xs.length = n ∧ n ≤ i⟩
theorem turn_enT {P : Program} {w : World} {K : PySem.W.Frag} {elts : List Expr} {kk : Nat} {tpos : Pos} (a e it : Addr) (n : Nat) (ae : a ≠ e) (ai : a ≠ it) :
    Turn P w K (.Tuple elts kk tpos) (IteT K a n) [e, it] e (fun i h => (∃ old, IsEnum h e it ((i : Nat) : Int) old) ∧ h.IsTupleIter it a i ∧ e ≠ it ∧ i ≤ n) where
  mem := by simp
  obj := fun i h st b hb => by
    obtain ⟨⟨old, en⟩, ⟨o, at0, cl, da⟩, _⟩ := st
    have both : b = e ∨ b = it := by simpa using hb
    rcases both with q | q
    · rw [q]; exact ⟨_, en, fun v z => nomatch z⟩
    · rw [q]; exact ⟨o, at0, fun v z => by rw [da] at z; cases z⟩
  keep := fun i h h' st k => by
    obtain ⟨⟨old, en⟩, ti, ne⟩ := st
    exact ⟨⟨old, k e (by simp) _ en⟩, ti.at fun o q => k it (by simp) o q, ne⟩
  item := by
    intro X hP hw hK hc i pins s σ H E I hf st hg
    subst hP hw hK
    obtain ⟨⟨old, en⟩, ti, ne, _⟩ := st
    obtain ⟨xs, x, sq, hn, hx⟩ := hg
    obtain ⟨its, rv, tup, lim⟩ := I.tuple sq
    obtain ⟨u, hu, ru⟩ := rv.get hx
    have le : e < s.heap.objs.size := Heap.lt_size en
    have li : it < s.heap.objs.size := by obtain ⟨_, q, _⟩ := ti; exact Heap.lt_size q
    have hlt : i < its.toArray.size := by
      have := (List.getElem?_eq_some_iff.mp hu).1
      simpa using this
    refine wpAny_pyNext_enum_itemD (Draws.tuple (A := X.A.in1) (show X.A.in1.handled = none from I.ok.hd hc) it a ai its.toArray) en ⟨ti, tup⟩ hlt ne (by simp only [List.mem_cons, List.not_mem_nil, or_false]; rintro (q | q); exact ne q; exact ae q.symm) fun y g tk hy eo gst tu sz kp => ?_
    have hy' : its.toArray[i]? = some y := hy
    have eu : y = u := by
      have : its.toArray[i]? = some u := by simpa using hu
      rw [hy'] at this; cases this; rfl
    subst eu
    refine ⟨_, rfl, wpAny_letOwnedTupleGo_enum (s := { s with heap := g, toks := tk + 1 }) eo fun g2 en2 sb => ?_⟩
    have tu2 : g2.get? s.heap.objs.size = some { cls := .type "tuple", data := .seq #[.int i tk, y] } := (sb.2 _ (Nat.ne_of_gt le)).trans tu
    have new : ObjOk X.prog X.w (upd H s.heap.objs.size (.frz ({ cls := .type "tuple", data := .seq #[.int i tk, y] } : Obj) (.tup [.int (i : Nat), x]))) g2 s.heap.objs.size (.frz ({ cls := .type "tuple", data := .seq #[.int i tk, y] } : Obj) (.tup [.int (i : Nat), x])) :=
      frz_ok tu2 (by show 2 ≤ sizeLine; decide) (its := [.int i tk, y]) (.cons ⟨_, rfl⟩ (.cons ru .nil)) rfl rfl
    have I1 : Inv X pins σ (upd H s.heap.objs.size (.frz ({ cls := .type "tuple", data := .seq #[.int i tk, y] } : Obj) (.tup [.int (i : Nat), x]))) { s with heap := g2, toks := tk + 1 } :=
      I.turnedNew (ch := [e, it]) (fun b ob hb q => (sb.2 b (fun z => hb (by simp [z]))).trans (kp b ob (fun z => hb (by simp [z])) (fun z => hb (by simp [z])) q)) hf (Nat.le_refl _) new
    refine ⟨.ref s.heap.objs.size, _, I1, rfl, ⟨_, x, _, rfl, I.hok.fresh (Nat.le_refl _), rfl, rfl, fun ys hy2 => ?_⟩, ⟨⟨y, ?_⟩, gst.1.at fun o q => (sb.2 it (Ne.symm ne)).trans q, ne, by have := (List.getElem?_eq_some_iff.mp hx).1; omega⟩, fun b hb => ?_⟩
    · obtain ⟨its2, rv2, tup2, _⟩ := I.tuple hy2
      obtain ⟨o1, q1, _, n1, d1⟩ := tup
      obtain ⟨o2, q2, _, n2, d2⟩ := tup2
      rw [q1] at q2; cases q2
      rw [d1] at d2
      have : its = its2 := by
        have := (Data.seq.inj d2).1
        simpa using this
      subst this
      rw [Vals.inj rv2 rv]; exact hx
    · have e1 : ((i + 1 : Nat) : Int) = (i : Int) + 1 := by omega
      rw [e1]; exact en2
    · have lb : b < s.heap.objs.size := by
        have both : b = e ∨ b = it := by simpa using hb
        rcases both with q | q
        · rw [q]; exact le
        · rw [q]; exact li
      rw [upd_ne (Nat.ne_of_lt lb)]
      exact (hf b hb).1
  done := by
    intro X hP hw hK hc i pins s σ H E I hf st hg
    subst hP hw hK
    obtain ⟨⟨old, en⟩, ti, ne, hi⟩ := st
    obtain ⟨xs, sq, hn, hx⟩ := hg
    obtain ⟨its, rv, tup, lim⟩ := I.tuple sq
    obtain ⟨f0, f1, f2, f3, f4, f5⟩ := hf it (by simp)
    have hl := rv.length
    have ei : i = its.toArray.size := by simp only [List.size_toArray]; omega
    subst ei
    exact wpAny_pyNext_enum_endD (Draws.tuple (A := X.A.in1) (show X.A.in1.handled = none from I.ok.hd hc) it a ai its.toArray) en ⟨ti, tup⟩ fun g eb => ⟨rfl, I.turned (t' := s.toks) (fun b o hb q => eb b o hb q) f0 f1 f3 f4 f5⟩
  self := fun A i s Q E st h => by
    obtain ⟨⟨_, en⟩, _⟩ := st
    exact wpAny_pyIter_enum en h
/-- a text's signs, each in a new pair -/
def IteS (x0 : Str) : It :=
  ⟨fun i _ => i < x0.cps.size, fun i H v H' => ∃ T c o, v = .ref T ∧ H T = none ∧ o.dict = none ∧ H' = upd H T (.frz o (.tup [.int (i : Nat), .str ⟨#[c]⟩])) ∧ x0.cps[i]? = some c, fun i _ => x0.cps.size ≤ i⟩
theorem turn_enS {P : Program} {w : World} {K : PySem.W.Frag} {elts : List Expr} {kk : Nat} {tpos : Pos} (x0 : Str) (t0 : Tok) (e it : Addr) :
    Turn P w K (.Tuple elts kk tpos) (IteS x0) [e, it] e (fun i h => (∃ old, IsEnum h e it ((i : Nat) : Int) old) ∧ h.IsStrIter it (strIterType x0) x0 t0 i ∧ e ≠ it ∧ i ≤ x0.cps.size) where
  mem := by simp
  obj := fun i h st b hb => by
    obtain ⟨⟨old, en⟩, ⟨o, at0, cl, da⟩, _⟩ := st
    have both : b = e ∨ b = it := by simpa using hb
    rcases both with q | q
    · rw [q]; exact ⟨_, en, fun v z => nomatch z⟩
    · rw [q]; exact ⟨o, at0, fun v z => by rw [da] at z; cases z⟩
  keep := fun i h h' st k => by
    obtain ⟨⟨old, en⟩, ti, ne⟩ := st
    obtain ⟨o, q, rest⟩ := ti
    exact ⟨⟨old, k e (by simp) _ en⟩, ⟨o, k it (by simp) o q, rest⟩, ne⟩
  item := by
    intro X hP hw hK hc i pins s σ H E I hf st hg
    subst hP hw hK
    obtain ⟨⟨old, en⟩, ti, ne, _⟩ := st
    have hlt : i < x0.cps.size := hg
    have le : e < s.heap.objs.size := Heap.lt_size en
    have li : it < s.heap.objs.size := by obtain ⟨_, q, _⟩ := ti; exact Heap.lt_size q
    refine wpAny_pyNext_enum_itemD (Draws.text (A := X.A.in1) (show X.A.in1.handled = none from I.ok.hd hc) it x0 t0) en ti hlt ne (by simp only [List.mem_cons, List.not_mem_nil, or_false]; exact ne) fun y g tk hy eo gst tu sz kp => ?_
    obtain ⟨c, tc, hcp, rfl⟩ := hy
    refine ⟨_, rfl, wpAny_letOwnedTupleGo_enum (s := { s with heap := g, toks := tk + 1 }) eo fun g2 en2 sb => ?_⟩
    have tu2 : g2.get? s.heap.objs.size = some { cls := .type "tuple", data := .seq #[.int i tk, .str ⟨#[c]⟩ tc] } := (sb.2 _ (Nat.ne_of_gt le)).trans tu
    have new : ObjOk X.prog X.w (upd H s.heap.objs.size (.frz ({ cls := .type "tuple", data := .seq #[.int i tk, .str ⟨#[c]⟩ tc] } : Obj) (.tup [.int (i : Nat), .str ⟨#[c]⟩]))) g2 s.heap.objs.size (.frz ({ cls := .type "tuple", data := .seq #[.int i tk, .str ⟨#[c]⟩ tc] } : Obj) (.tup [.int (i : Nat), .str ⟨#[c]⟩])) :=
      frz_ok tu2 (by show 2 ≤ sizeLine; decide) (its := [.int i tk, .str ⟨#[c]⟩ tc]) (.cons ⟨_, rfl⟩ (.cons ⟨_, rfl⟩ .nil)) rfl rfl
    have I1 : Inv X pins σ (upd H s.heap.objs.size (.frz ({ cls := .type "tuple", data := .seq #[.int i tk, .str ⟨#[c]⟩ tc] } : Obj) (.tup [.int (i : Nat), .str ⟨#[c]⟩]))) { s with heap := g2, toks := tk + 1 } :=
      I.turnedNew (ch := [e, it]) (fun b ob hb q => (sb.2 b (fun z => hb (by simp [z]))).trans (kp b ob (fun z => hb (by simp [z])) (fun z => hb (by simp [z])) q)) hf (Nat.le_refl _) new
    refine ⟨.ref s.heap.objs.size, _, I1, rfl, ⟨_, c, _, rfl, I.hok.fresh (Nat.le_refl _), rfl, rfl, hcp⟩, ⟨⟨.str ⟨#[c]⟩ tc, ?_⟩, (let ⟨o, q, rest⟩ := gst; ⟨o, (sb.2 it (Ne.symm ne)).trans q, rest⟩), ne, hlt⟩, fun b hb => ?_⟩
    · have e1 : ((i + 1 : Nat) : Int) = (i : Int) + 1 := by omega
      rw [e1]; exact en2
    · have lb : b < s.heap.objs.size := by
        have both : b = e ∨ b = it := by simpa using hb
        rcases both with q | q
        · rw [q]; exact le
        · rw [q]; exact li
      rw [upd_ne (Nat.ne_of_lt lb)]
      exact (hf b hb).1
  done := by
    intro X hP hw hK hc i pins s σ H E I hf st hg
    subst hP hw hK
    obtain ⟨⟨old, en⟩, ti, ne, hi⟩ := st
    have hx : x0.cps.size ≤ i := hg
    obtain ⟨f0, f1, f2, f3, f4, f5⟩ := hf it (by simp)
    have ei : i = x0.cps.size := by omega
    subst ei
    exact wpAny_pyNext_enum_endD (Draws.text (A := X.A.in1) (show X.A.in1.handled = none from I.ok.hd hc) it x0 t0) en ti fun g eb => ⟨rfl, I.turned (t' := s.toks) (fun b o hb q => eb b o hb q) f0 f1 f3 f4 f5⟩
  self := fun A i s Q E st h => by
    obtain ⟨⟨_, en⟩, _⟩ := st
    exact wpAny_pyIter_enum en h
/-- enumerate of a list, a tuple, a text -/
def iEnAny (K : PySem.W.Frag) (tl : TE) : TI := fun σ H R => tl σ H fun x H1 => (∃ a xs, x = .ref a ∧ SqL K H1 a xs ∧ R (IteL K a) H1) ∨ (∃ a xs, x = .ref a ∧ SqT K H1 a xs ∧ R (IteT K a xs.length) H1) ∨ (∃ z, x = .str z ∧ R (IteS z) H1)
section
variable {X : Cx} {J : Jx} {e : Expr} {f : List Sl → RE D} {p pos tpos : Pos} {elts : List Expr} {kk : Nat}
theorem pi_enAny {tl : TE} (hg : Gl X "enumerate") (hm : X.mg "enumerate" = none) (he : PE X e tl) (hs : starEach [e] X.env = [(false, eval e X.env)] := by rfl) : PI X (.Tuple elts kk tpos) (.Call (.Name "enumerate" p) [e] [] pos) (iEnAny X.K tl) := by
  constructor
  intro pins s σ H R I h
  refine Call_ (ld_blt I hg hm boot_enumerate (PyProof.Rows.callWith_type1 (thn ((pa1 he hs).run pos pins s σ H (fun vs H1 => match vs with
    | [x] => (∃ a xs, x = .ref a ∧ SqL X.K H1 a xs ∧ R (IteL X.K a) H1) ∨ (∃ a xs, x = .ref a ∧ SqT X.K H1 a xs ∧ R (IteT X.K a xs.length) H1) ∨ (∃ z, x = .str z ∧ R (IteS z) H1)
    | _ => False) I h) fun us s1 hh => ?_) hs rfl))
  obtain ⟨vs, H1, I1, r1, q⟩ := hh
  match vs, q, r1 with
  | [x], q, r1 =>
  dsimp only at q
  obtain ⟨u, rfl, rx⟩ := vals1 r1
  have fresh : ∀ b, b = s1.heap.objs.size + 1 ∨ b = s1.heap.objs.size → s1.heap.objs.size ≤ b := fun b hb => by rcases hb with z | z <;> omega
  rcases q with ⟨a, xs, rfl, sq, q⟩ | ⟨a, xs, rfl, sq, q⟩ | ⟨z, rfl, q⟩
  · obtain rfl : u = Value.ref a := rx
    obtain ⟨its, rv, pl, _⟩ := I1.list sq
    refine call_enumerate_list pl.isList fun g en it0 sz kp => wpAny_pyIter_enum en ?_
    have I2 : Inv X pins σ H1 { s1 with heap := g } := I1.kept (t' := s1.toks) kp
    refine ⟨s1.heap.objs.size + 1, [s1.heap.objs.size + 1, s1.heap.objs.size], _, _, H1, rfl, I2, turn_enL a (s1.heap.objs.size + 1) s1.heap.objs.size, ⟨⟨.none, en⟩, it0, Nat.succ_ne_self _⟩, fun b hb => ?_, q⟩
    have hle := fresh b (by simpa using hb)
    exact I1.fpOk hle (I1.hok.fresh hle)
  · obtain rfl : u = Value.ref a := rx
    obtain ⟨its, rv, tup, _⟩ := I1.tuple sq
    have la : a < s1.heap.objs.size := by obtain ⟨o, q, _⟩ := tup; exact Heap.lt_size q
    refine en_call (begins_tuple a its.toArray) tup fun g en it0 kp => wpAny_pyIter_enum en ?_
    have I2 : Inv X pins σ H1 { s1 with heap := g } := I1.kept (t' := s1.toks) kp
    refine ⟨s1.heap.objs.size + 1, [s1.heap.objs.size + 1, s1.heap.objs.size], _, _, H1, rfl, I2, turn_enT a (s1.heap.objs.size + 1) s1.heap.objs.size xs.length (Nat.ne_of_lt (Nat.lt_succ_of_lt la)) (Nat.ne_of_lt la), ⟨⟨.none, en⟩, ⟨_, it0, rfl, rfl⟩, Nat.succ_ne_self _, Nat.zero_le _⟩, fun b hb => ?_, q⟩
    have hle := fresh b (by simpa using hb)
    exact I1.fpOk hle (I1.hok.fresh hle)
  · obtain ⟨t, rfl⟩ := rx
    refine en_call (begins_text z t) trivial fun g en it0 kp => wpAny_pyIter_enum en ?_
    have I2 : Inv X pins σ H1 { s1 with heap := g } := I1.kept (t' := s1.toks) kp
    refine ⟨s1.heap.objs.size + 1, [s1.heap.objs.size + 1, s1.heap.objs.size], _, _, H1, rfl, I2, turn_enS z t (s1.heap.objs.size + 1) s1.heap.objs.size, ⟨⟨.none, en⟩, ⟨_, it0, rfl, rfl⟩, Nat.succ_ne_self _, Nat.zero_le _⟩, fun b hb => ?_, q⟩
    have hle := fresh b (by simpa using hb)
    exact I1.fpOk hle (I1.hok.fresh hle)
end
/-- (0, d0), (1, d1), .. -/
def numb (ds : List D) : List D := ds.mapIdx fun i d => .tup [.int (i : Int), d]
def ienum (f : List Sl → RE D) : List Sl → RE (List D) := fun r => (f r).bind fun x r1 => match gSeq x with
  | some ds => .ok (numb ds) r1
  | none => .bad
theorem numb_get {ds : List D} {i : Nat} {d : D} (h : (numb ds)[i]? = some d) : ∃ e, ds[i]? = some e ∧ d = .tup [.int (i : Int), e] := by
  unfold numb at h
  rw [List.getElem?_mapIdx, Option.map_eq_some_iff] at h
  obtain ⟨e, he, rfl⟩ := h
  exact ⟨e, he, rfl⟩
theorem numb_length {ds : List D} : (numb ds).length = ds.length := by unfold numb; simp
theorem pair_rep {G : Gm} {M : Addr → Prop} {H : Hp} {T : Addr} {i : Nat} {e : D} {x : V} {o : Obj} (md : MD M H) (hT : H T = none) (ho : o.dict = none) (r : Rep G M H e x) : Extn H (upd H T (.frz o (.tup [.int (i : Nat), x]))) ∧ Rep G M (upd H T (.frz o (.tup [.int (i : Nat), x]))) (.tup [.int (i : Int), e]) (.ref T) :=
  ⟨ext_new hT, Rep.newTup ho hT md ⟨_, _, rfl, rfl, x, [], rfl, r, rfl⟩⟩
theorem en_sql {G : Gm} {M0 : Addr → Prop} {H0 : Hp} {a : Addr} {ds : List D} (h : ∀ M H, Step M0 H0 M H → MD M H → ∃ vs, SqL G.K H a vs ∧ RepL G M H ds vs) : ItD G M0 H0 (IteL G.K a) (numb ds) := by
  intro i M H st md
  obtain ⟨vs, sq, r⟩ := h M H st md
  refine ⟨fun d hd => ?_, fun hl => ⟨vs, sq, by rw [← r.length, ← numb_length]; exact hl⟩⟩
  obtain ⟨e, he, rfl⟩ := numb_get hd
  obtain ⟨v, hv, rv⟩ := r.get he
  refine ⟨⟨vs, v, sq, hv⟩, fun x H' ⟨T, y, o, ex, hT, ho, eH, q⟩ => ?_⟩
  subst ex eH
  have z := q vs sq
  rw [hv] at z; cases z
  exact pair_rep md hT ho rv
theorem en_tup {G : Gm} {M0 : Addr → Prop} {H0 : Hp} {a : Addr} {ds : List D} {us : List V} (md0 : MD M0 H0) (sq0 : SqT G.K H0 a us) (r0 : RepL G M0 H0 ds us) : ItD G M0 H0 (IteT G.K a us.length) (numb ds) := by
  intro i M H st md
  have sq := st.sqt md0 sq0
  have r := RepL.step st md0 _ _ r0
  refine ⟨fun d hd => ?_, fun hl => ⟨us, sq, rfl, by rw [← r.length, ← numb_length]; exact hl⟩⟩
  obtain ⟨e, he, rfl⟩ := numb_get hd
  obtain ⟨v, hv, rv⟩ := r.get he
  refine ⟨⟨us, v, sq, rfl, hv⟩, fun x H' ⟨T, y, o, ex, hT, ho, eH, q⟩ => ?_⟩
  subst ex eH
  have z := q us sq
  rw [hv] at z; cases z
  exact pair_rep md hT ho rv
theorem en_str {G : Gm} {M0 : Addr → Prop} {H0 : Hp} {z : Str} : ItD G M0 H0 (IteS z) (numb (z.cps.toList.map fun c => .str ⟨#[c]⟩)) := by
  intro i M H st md
  refine ⟨fun d hd => ?_, fun hl => by rw [numb_length] at hl; show z.cps.size ≤ i; simpa using hl⟩
  obtain ⟨e, he, rfl⟩ := numb_get hd
  rw [List.getElem?_map, Option.map_eq_some_iff] at he
  obtain ⟨c, hc, rfl⟩ := he
  have hc' : z.cps[i]? = some c := by simpa using hc
  refine ⟨(Array.getElem?_eq_some_iff.mp hc').1, fun x H' ⟨T, c', o, ex, hT, ho, eH, q⟩ => ?_⟩
  subst ex eH
  rw [hc'] at q; cases q
  exact pair_rep md hT ho rfl
section
variable {X : Cx} {J : Jx} {e : Expr} {f : List Sl → RE D} {p pos tpos : Pos} {elts : List Expr} {kk : Nat}
theorem i_enum (hK : X.K = J.G.K) (hg : Gl X "enumerate") (hm : X.mg "enumerate" = none) (he : PE X e (tE J f)) (hs : starEach [e] X.env = [(false, eval e X.env)] := by rfl) : PI X (.Tuple elts kk tpos) (.Call (.Name "enumerate" p) [e] [] pos) (tI J (ienum f)) :=
  PIi (pi_enAny hg hm he hs) fun σ H R ⟨M, r, I, h⟩ => ⟨M, r, I, Out.bind h fun d r1 v M1 H1 st1 I1 rd1 h1 => by
    rw [hK]
    cases d with
    | lst xs =>
      obtain ⟨a, vs, rfl, n, ha, q⟩ := rd1
      exact .inl ⟨a, vs, rfl, SqL.of ha, h1 _ M1 H1 Step.refl I1 (en_sql fun M' H' st md => ⟨vs, SqL.of (st.keep a _ ha n), RepL.step st I1.md _ _ q⟩)⟩
    | tup xs =>
      obtain ⟨a, vs, rfl, ha, q⟩ := rd1
      exact .inr (.inl ⟨a, vs, rfl, ha.sqt, h1 _ M1 H1 Step.refl I1 (en_tup I1.md ha.sqt q)⟩)
    | str z => cases rd1; exact .inr (.inr ⟨z, rfl, h1 _ M1 H1 Step.refl I1 en_str⟩)
    | scr ns =>
      obtain ⟨a, rfl, ha⟩ := rd1
      refine .inl ⟨a, ns.map V.int, rfl, ha.elim (fun q => .inl q.2) .inr, h1 _ M1 H1 Step.refl I1 (en_sql fun M' H' st md => ⟨ns.map V.int, ha.elim (fun q => .inl (st.rd q.1 q.2).1) .inr, .ints⟩)⟩
    | non => exact h1.elim
    | bl b => exact h1.elim
    | int i => exact h1.elim
    | dct ks ds => exact h1.elim
    | ob c ns ds => exact h1.elim
    | fn c => exact h1.elim⟩
end
end DL

set_option Elab.async false
set_option linter.all false
set_option maxRecDepth 100000
set_option maxHeartbeats 4000000
namespace DL
open PySem L2 PyProof.Rows
open PySem.W

/-! ### sorted(list of data) -/
def rSortD (K : PySem.W.Frag) : List V → Hp → VK → Prop := fun vs H Q => ∃ (a : Addr) (ps : List (PyData × V)), vs = [.ref a] ∧ SqL K H a (ps.map Prod.snd) ∧ DpAll K H (ps.map Prod.snd) (ps.map Prod.fst) ∧ AllAlike (ps.map Prod.fst) ∧ Sortable (ps.map Prod.fst) ∧ (∀ p ∈ ps, p.1.depth ≤ 40) ∧
  ∀ p, H p = none → Q (.ref p) (upd H p (.lst ((ps.mergeSort (dataLe false Prod.fst)).map Prod.snd)))
theorem each_vals : ∀ {ps : List (PyData × V)} {us : List Value}, Vals (ps.map Prod.snd) us → EachIs (fun u (p : PyData × V) => RelV p.2 u) us ps
  | [], _, h => by
    have h' : Vals [] _ := h
    cases h'
    exact .nil
  | p :: ps, _, h => by
    have h' : Vals (p.2 :: ps.map Prod.snd) _ := h
    cases h' with
    | cons r t => exact .cons r (each_vals t)
theorem vals_each : ∀ {ps : List (PyData × V)} {us : List Value}, EachIs (fun u (p : PyData × V) => RelV p.2 u) us ps → Vals (ps.map Prod.snd) us
  | _, _, .nil => .nil
  | _, _, .cons r t => .cons r (vals_each t)
theorem call_sortD {X : Cx} (hu : X.A.units + 64 < cLine) : CallR X (.builtin "sorted") (rSortD X.K) := by
  intro pins z σ H vs us Q I r h
  obtain ⟨a, ps, rfl, sq, dp, al, so, de, q⟩ := h
  obtain ⟨its, rv, pl, lim⟩ := I.list sq
  rw [Vals.ref1 r]
  obtain ⟨as, rd⟩ := Dp.readsAll I _ _ _ dp rv
  have len : ps.length ≤ sizeLine := by rw [List.length_map] at lim; exact lim
  refine sorted_data (enc := Prod.fst) pl.isList (each_vals rv) (readsAll_each Prod.fst rd) al so len (fun b hb => by have := de b hb; omega) fun out ol eo => ?_
  obtain ⟨ep, at0⟩ := sortedAll_at z.heap its (List.toArray out)
  have len2 : ((ps.mergeSort (dataLe false Prod.fst)).map Prod.snd).length ≤ sizeLine := by rw [List.length_map, List.length_mergeSort]; exact len
  refine ⟨.ref _, upd H (z.heap.objs.size + 1) (.lst ((ps.mergeSort (dataLe false Prod.fst)).map Prod.snd)), I.laid (t' := z.toks) (fun _ _ => sortedAll_old) (Nat.le_succ _) ⟨len2, out, ep, vals_each eo, at0⟩, rfl, q _ (I.hok.fresh (Nat.le_succ _))⟩
/-- all of one form; all tuples that are not empty, or none a tuple or None -/
def sortOk (xs : List D) : Bool := xs.all (okd 20) && (xs.all fun x => xs.all fun y => alike (toPy x) (toPy y)) && (xs.all (fun x => match x with
  | .tup (_ :: _) => true
  | _ => false) || xs.all fun x => match x with
  | .tup _ => false
  | .non => false
  | _ => true)
noncomputable def srt (xs : List D) : List D := xs.mergeSort (dataLe false toPy)
noncomputable def gSorted : D → Option (List D)
  | .lst xs => if sortOk xs = true then some (srt xs) else none
  | _ => none
theorem repl_pairs {G : Gm} {M : Addr → Prop} {H : Hp} : ∀ {qs : List (D × V)}, (∀ q ∈ qs, Rep G M H q.1 q.2) → RepL G M H (qs.map Prod.fst) (qs.map Prod.snd)
  | [], _ => rfl
  | q :: qs, h => ⟨q.2, _, rfl, h q List.mem_cons_self, repl_pairs fun p hp => h p (List.mem_cons_of_mem _ hp)⟩
theorem pairs_repl {G : Gm} {M : Addr → Prop} {H : Hp} : ∀ {ds : List D} {vs : List V}, RepL G M H ds vs → ∃ qs : List (D × V), ds = qs.map Prod.fst ∧ vs = qs.map Prod.snd ∧ ∀ q ∈ qs, Rep G M H q.1 q.2
  | [], _, h => by cases h; exact ⟨[], rfl, rfl, fun q hq => nomatch hq⟩
  | d :: ds, _, ⟨v, ws, e, r, rs⟩ => by
    subst e
    obtain ⟨qs, rfl, rfl, hq⟩ := pairs_repl rs
    exact ⟨(d, v) :: qs, rfl, rfl, fun q hm => by
      rcases List.mem_cons.mp hm with z | z
      · subst z; exact r
      · exact hq q z⟩
theorem od_sorted {G : Gm} : C1N G (rSortD G.K) gSorted := by
  intro M H x vx ds Q md e rx q
  unfold gSorted at e
  split at e
  · rename_i xs
    split at e
    · rename_i ok
      cases e
      obtain ⟨a, vs, rfl, ha, r⟩ := rx.lst
      obtain ⟨qs, rfl, rfl, hq⟩ := pairs_repl r
      unfold sortOk at ok
      rw [Bool.and_eq_true, Bool.and_eq_true] at ok
      obtain ⟨⟨o1, o2⟩, o3⟩ := ok
      have dp := dpAll_of G M H _ 20 _ o1 r
      have ed : toPyL (qs.map Prod.fst) = (qs.map fun q => (toPy q.1, q.2)).map Prod.fst := by rw [toPyL_eq, List.map_map, List.map_map]; rfl
      have es : qs.map Prod.snd = (qs.map fun q => (toPy q.1, q.2)).map Prod.snd := by rw [List.map_map]; rfl
      have mem : ∀ d, d ∈ (qs.map fun q => (toPy q.1, q.2)).map Prod.fst → ∃ x ∈ qs.map Prod.fst, d = toPy x := fun d hd => by
        rw [List.map_map] at hd
        obtain ⟨p, hp, rfl⟩ := List.mem_map.mp hd
        exact ⟨p.1, List.mem_map.mpr ⟨p, hp, rfl⟩, rfl⟩
      refine ⟨a, qs.map fun q => (toPy q.1, q.2), rfl, by rw [← es]; exact SqL.of ha, by rw [← es, ← ed]; exact dp, ?_, ?_, ?_, fun p hp => ?_⟩
      · intro d hd d' hd'
        obtain ⟨x, hx, rfl⟩ := mem d hd
        obtain ⟨y, hy, rfl⟩ := mem d' hd'
        exact List.all_eq_true.mp (List.all_eq_true.mp o2 x hx) y hy
      · rw [Bool.or_eq_true] at o3
        rcases o3 with o3 | o3
        · refine .inl fun d hd => ?_
          obtain ⟨x, hx, rfl⟩ := mem d hd
          have z := List.all_eq_true.mp o3 x hx
          cases x with
          | tup ys =>
            cases ys with
            | nil => cases z
            | cons y ys => exact ⟨_, _, rfl⟩
          | _ => cases z
        · refine .inr fun d hd => ?_
          obtain ⟨x, hx, rfl⟩ := mem d hd
          have z := List.all_eq_true.mp o3 x hx
          have ok1 := List.all_eq_true.mp o1 x hx
          cases x with
          | tup ys => cases z
          | non => cases z
          | bl b => exact ⟨(by intro z; cases z), (by intro xs z; cases z)⟩
          | int b => exact ⟨(by intro z; cases z), (by intro xs z; cases z)⟩
          | str b => exact ⟨(by intro z; cases z), (by intro xs z; cases z)⟩
          | lst b => exact ⟨(by intro z; cases z), (by intro xs z; cases z)⟩
          | dct _ _ => exact absurd rfl ((okd_other ok1).1 _ _)
          | ob _ _ _ => exact absurd rfl ((okd_other ok1).2.1 _ _ _)
          | fn _ => exact absurd rfl ((okd_other ok1).2.2.1 _)
          | scr _ => exact absurd rfl ((okd_other ok1).2.2.2 _)
      · intro p hp
        obtain ⟨y, hy, rfl⟩ := List.mem_map.mp hp
        have := (plain_of y.1 20 (List.all_eq_true.mp o1 y.1 (List.mem_map.mpr ⟨y, hy, rfl⟩))).2
        show (toPy y.1).depth ≤ 40
        omega
      · have e1 : (qs.map fun q => (toPy q.1, q.2)).mergeSort (dataLe false Prod.fst) = (qs.mergeSort (dataLe false fun q => toPy q.1)).map fun q => (toPy q.1, q.2) := (List.map_mergeSort (r := dataLe false fun (q : D × V) => toPy q.1) (s := dataLe false Prod.fst) (f := fun (q : D × V) => (toPy q.1, q.2)) (l := qs) (fun _ _ _ _ => rfl)).symm
        have e2 : srt (qs.map Prod.fst) = (qs.mergeSort (dataLe false fun q => toPy q.1)).map Prod.fst := (List.map_mergeSort (r := dataLe false fun (q : D × V) => toPy q.1) (s := dataLe false toPy) (f := fun (q : D × V) => q.1) (l := qs) (fun _ _ _ _ => rfl)).symm
        rw [e1, List.map_map]
        refine q p _ hp ?_
        rw [e2]
        exact repl_pairs fun z hz => hq z ((List.mergeSort_perm qs _).mem_iff.mp hz)
    · cases e
  · cases e
section
variable {X : Cx} {J : Jx} {e : Expr} {f : List Sl → RE D} {p pos : Pos}
theorem n_sorted (hK : X.K = J.G.K) (hu : X.A.units + 64 < cLine) (hx : Gl X "sorted") (hm : X.mg "sorted" = none) (he : PE X e (DL.tB J f)) (hs : starEach [e] X.env = (false, eval e X.env) :: starEach [] X.env := by rfl) (hpl : (backTo pos (starEach [] X.env)).any (·.1) = false := by rfl) : PE X (.Call (.Name "sorted" p) [e] [] pos) (tN J (unN gSorted f)) :=
  n_call1 (call_sortD hu) (hK ▸ od_sorted) hx hm (by decide +kernel) he hs (by decide) (by decide) hpl
end

/-! ### name op= e -/
def gAugAdd : D → D → Option D
  | .int a, .int b => some (.int (a + b))
  | .str a, .str b => if a.length + b.length ≤ LIM then some (.str (a ++ b)) else none
  | _, _ => none
def rAugAdd : R2 := fun x y H Q => rI0 (fun i j => .int (i + j)) x y H Q ∨ (∃ i j, x = .str i ∧ y = .str j ∧ i.length + j.length ≤ sizeLine ∧ Q (.str (i ++ j)) H)
theorem iop_addA {X : Cx} : OpR X (inplaceOp .Add) rAugAdd := OpR.or iop_add iop_add_str
theorem od_augAdd {G : Gm} : OpD G rAugAdd gAugAdd := by
  intro M H x y vx vy d Q md e rx ry q
  unfold gAugAdd at e
  split at e
  · cases e; cases rx.int; cases ry.int
    exact .inl ⟨_, _, rfl, rfl, q _ H (fun _ _ h => h) rfl⟩
  · split at e
    · rename_i hl
      cases e; cases rx.str; cases ry.str
      exact .inr ⟨_, _, rfl, rfl, le_size hl, q _ H (fun _ _ h => h) rfl⟩
    · cases e
  · cases e
/-- the name is read ahead of e -/
def saug (i : Nat) (g : D → D → Option D) (fe : List Sl → RE D) : List Sl → RS := fun r => if has i r then (fe r).s fun y r1 => (pk i r1).s fun x r2 => (liftO (g x y) r2).s fun z r3 => .nx (r3.set i (.val z)) else .bad
section
variable {X : Cx} {J : Jx} {e : Expr} {fe : List Sl → RE D} {pos p' : Pos} {x : Str}
theorem s_aug {op : Operator} {r2 : R2} {g : D → D → Option D} (i : Nat) (ho : OpR X (inplaceOp op) r2) (hg : OpD J.G r2 g) (hN : X.N.Nodup) (he : PE X e (tE J fe)) (hi : X.N[i]? = some x := by rfl) (hx : Loc X.env.scope x := by first | exact Or.inl rfl | exact Or.inr rfl)
    (hf : X.fn x = true ∨ X.env.scope.names.lookup x = some .local := by first | exact .inl rfl | exact .inr rfl) : PS X (.AugAssign (.Name x p') op e pos) (tS J (saug i g fe)) :=
  PSi (ps_aug hN hi hx he ho hf) fun E σ H ⟨M, r, I, h⟩ => by
    unfold saug at h
    split at h
    · rename_i hh
      obtain ⟨v, hv⟩ := has_core I hh
      refine ⟨v, hv, M, r, I, Out.s h fun y r1 w M1 H1 st1 I1 ry h1 => ?_⟩
      cases e : pk i r1 with
      | ok d r4 =>
        rw [e] at h1
        obtain ⟨rfl, u, hu, q⟩ := pk_core I1 e
        rw [hv] at hu
        cases hu
        have h1 : OutS J M1 H1 ((liftO (g d y) r4).s fun z r3 => .nx (r3.set i (.val z))) E := h1
        cases eg : g d y with
        | none => rw [eg] at h1; exact h1.elim
        | some z =>
          rw [eg] at h1
          exact hg M1 H1 d y _ _ z _ I1.md eg q (.inl ry) fun zv H' ex rz => h1 M1 _ H' (Step.ext ex) ((I1.ext ex).set rz)
      | exn x r1 => unfold pk at e; split at e <;> cases e
      | bad => rw [e] at h1; exact h1.elim
    · exact h.elim
theorem s_augAdd (i : Nat) (hN : X.N.Nodup) (he : PE X e (tE J fe)) (hi : X.N[i]? = some x := by rfl) (hx : Loc X.env.scope x := by first | exact Or.inl rfl | exact Or.inr rfl)
    (hf : X.fn x = true ∨ X.env.scope.names.lookup x = some .local := by first | exact .inl rfl | exact .inr rfl) : PS X (.AugAssign (.Name x p') .Add e pos) (tS J (saug i gAugAdd fe)) := s_aug i iop_addA od_augAdd hN he hi hx hf
theorem s_augSub (i : Nat) (hN : X.N.Nodup) (he : PE X e (tE J fe)) (hi : X.N[i]? = some x := by rfl) (hx : Loc X.env.scope x := by first | exact Or.inl rfl | exact Or.inr rfl)
    (hf : X.fn x = true ∨ X.env.scope.names.lookup x = some .local := by first | exact .inl rfl | exact .inr rfl) : PS X (.AugAssign (.Name x p') .Sub e pos) (tS J (saug i gSub fe)) := s_aug i iop_sub (od_int0 fun _ _ _ _ _ => rfl) hN he hi hx hf
end
end DL

set_option Elab.async false
set_option linter.all false
set_option maxRecDepth 100000
set_option maxHeartbeats 4000000
namespace DL
open PySem L2 PyProof.Rows

/-! ### a local name that holds a def, called -/
def callV (i : Nat) (tb : Str → Option (List D → RF)) (fs : List Sl → RE (List D)) : List Sl → RE D := fun r => match r[i]? with
  | some (.val (.fn c)) => (match tb c with
    | some F => (fs r).bind fun ds r1 => doF (F ds) r1
    | none => .bad)
  | _ => .bad
section
variable {X : Cx} {J : Jx} {k : Nat} {x : Str} {p pos : Pos} {e : Expr} {es : List Expr} {fs : List Sl → RE (List D)} {tb : Str → Option (List D → RF)}
theorem c_V (i : Nat) (hG : J.G = ⟨X.K, X.mg⟩) (T : ∀ c F, tb c = some F → ∃ ps, Has X.prog X.w X.K X.mg X.base k c ps (spP ⟨X.K, X.mg⟩ F)) (hr : Room k X.A) (hgd : X.A.guards = some []) (tk : Takes X J.W) (ha : PA X (e :: es) (tA J fs))
    (hN : X.N[i]? = some x := by rfl) (hv : Vis X.env.scope x := by first | exact Or.inl rfl | exact Or.inr (Or.inl rfl) | exact Or.inr (Or.inr rfl)) (hd : (x == ("__debug__" : Str)) = false := by decide) (hcd : (x == ("__classdict__" : Str)) = false := by decide)
    (he : starEach (e :: es) X.env = (false, eval e X.env) :: starEach es X.env := by rfl) (hpl : (backTo pos (starEach es X.env)).any (·.1) = false := by rfl) : PE X (.Call (.Name x p) (e :: es) [] pos) (tE J (callV i tb fs)) := by
  constructor
  intro pins z σ H Q I ⟨M, r, S, h⟩
  have hr0 : ∃ c F, r[i]? = some (.val (.fn c)) ∧ tb c = some F ∧ Out J (RV J) M H σ ((fs r).bind fun ds r1 => doF (F ds) r1) Q := by
    unfold callV at h
    split at h
    · rename_i c ec
      split at h
      · rename_i F eF; exact ⟨c, F, ec, eF, h⟩
      · exact h.elim
    · exact h.elim
  obtain ⟨c, F, ec, eF, h⟩ := hr0
  obtain ⟨ps, hs⟩ := T c F eF
  obtain ⟨f, fd, Fk, hm, kp, hb⟩ := hs.ex
  obtain ⟨v, ev, f', rfl, hf'⟩ := S.slot i _ ec
  have ef : f' = f := by
    rw [hG] at hf'
    have hf'' : X.mg c = some (.ref f') := hf'
    rw [hm] at hf''
    cases hf''; rfl
  subst ef
  refine wpAny_Call_Name_kw (thn ((pe_var (pos := p) (i := i) hN hv hd hcd).run pins z σ H (fun w H1 => w = .ref f' ∧ H1 = H) I ⟨.ref f', ev, rfl, rfl⟩) fun u s1 hh => ?_)
  obtain ⟨w, H1, I1, r1, q1, q2⟩ := hh
  subst q1 q2
  obtain rfl : u = Value.ref f' := r1
  have hw : tA J fs σ H1 fun vs H2 => spP J.G F (vs ++ []) H2 Q (WE J.W σ) := ⟨M, r, S, Out.bind h fun ds r1 vs M1 H2 st1 I2 rd1 h1 => by rw [List.append_nil]; exact doF_core I2 rd1 h1⟩
  refine PySem.W.callWith_K (h₀ := X.base) I1.ok.mod.kin kp (thn (ha.run pos pins s1 σ H1 _ I1 hw) fun us s2 ⟨vs, H2, I2, r2, q⟩ => ⟨I2.kIn, ?_⟩) he hpl
  exact run_fnG (by rw [hG]; exact Fk) hr hgd hb .nil tk I2 r2 q
end

/-! ### built-in functions of two arguments -/
def C2D (G : Gm) (r : List V → Hp → VK → Prop) (g : D → D → Option D) : Prop := ∀ M H x y vx vy d (Q : VK), MD M H → g x y = some d → RepB G M H x vx → RepB G M H y vy → (∀ v H', Extn H H' → Rep G M H' d v → Q v H') → r [vx, vy] H Q
section
variable {X : Cx} {J : Jx} {a b : Expr} {fa fb : List Sl → RE D} {p pos : Pos} {x : Str} {id : String} {r : List V → Hp → VK → Prop}
theorem e_call2 {g : D → D → Option D} (hc : CallR X (.builtin id) r) (hg : C2D J.G r g) (hx : Gl X x) (hm : X.mg x = none) (hv : bootBuiltins x = some (.builtin id)) (ha : PE X a (tE J fa)) (hb : PE X b (DL.tB J fb)) (hs : starEach [a, b] X.env = (false, eval a X.env) :: starEach [b] X.env := by rfl)
    (hs2 : starEach [b] X.env = (false, eval b X.env) :: starEach [] X.env := by rfl) (hpl : (backTo pos (starEach [b] X.env)).any (·.1) = false := by rfl) (hn : x ≠ "__name__" := by decide) (hdb : (x == ("__debug__" : Str)) = false := by decide) : PE X (.Call (.Name x p) [a, b] [] pos) (tE J (bin g fa fb)) :=
  PEi (pe_callB hc hx hm hv (pa_cons ha (pa_cons hb pa_nil hs2) hs) hn hdb hs hpl) fun σ H Q ⟨M, r0, I, h⟩ => ⟨M, r0, I, Out.bind h fun d r1 v M1 H1 st1 I1 rd1 h1 => ⟨M1, r1, I1, Out.bind h1 fun d' r2 v' M2 H2 st2 I2 rd2 h2 => by
    show r [v, v'] H2 Q
    cases e : g d d' with
    | none => rw [e] at h2; exact h2.elim
    | some y =>
      rw [e] at h2
      exact hg M2 H2 d d' v v' y Q I2.md e (.inl (Rep.step st2 I1.md _ _ rd1)) rd2 fun w H' ex q => h2 w M2 H' (Step.ext ex) (I2.ext ex) q⟩⟩
def gMax2 : D → D → Option D
  | .int i, .int j => some (.int (if j > i then j else i))
  | _, _ => none
def gMin2 : D → D → Option D
  | .int i, .int j => some (.int (if j < i then j else i))
  | _, _ => none
theorem e_max2 (hc : X.calm = true) (hx : Gl X "max") (hm : X.mg "max" = none) (ha : PE X a (tE J fa)) (hb : PE X b (DL.tB J fb)) (hs : starEach [a, b] X.env = (false, eval a X.env) :: starEach [b] X.env := by rfl)
    (hs2 : starEach [b] X.env = (false, eval b X.env) :: starEach [] X.env := by rfl) (hpl : (backTo pos (starEach [b] X.env)).any (·.1) = false := by rfl) : PE X (.Call (.Name "max" p) [a, b] [] pos) (tE J (bin gMax2 fa fb)) :=
  e_call2 (call_max2 hc) (fun M H x y vx vy d Q md e rx ry q => by
    unfold gMax2 at e
    split at e
    · cases e; cases rx.int; cases ry.int; exact ⟨_, _, rfl, q _ H (fun _ _ h => h) rfl⟩
    · cases e) hx hm (by decide +kernel) ha hb hs hs2 hpl
theorem e_min2 (hc : X.calm = true) (hx : Gl X "min") (hm : X.mg "min" = none) (ha : PE X a (tE J fa)) (hb : PE X b (DL.tB J fb)) (hs : starEach [a, b] X.env = (false, eval a X.env) :: starEach [b] X.env := by rfl)
    (hs2 : starEach [b] X.env = (false, eval b X.env) :: starEach [] X.env := by rfl) (hpl : (backTo pos (starEach [b] X.env)).any (·.1) = false := by rfl) : PE X (.Call (.Name "min" p) [a, b] [] pos) (tE J (bin gMin2 fa fb)) :=
  e_call2 (call_min2 hc) (fun M H x y vx vy d Q md e rx ry q => by
    unfold gMin2 at e
    split at e
    · cases e; cases rx.int; cases ry.int; exact ⟨_, _, rfl, q _ H (fun _ _ h => h) rfl⟩
    · cases e) hx hm (by decide +kernel) ha hb hs hs2 hpl
/-- str(i), str(text) -/
def gStr : D → Option D
  | .int i => if i.natAbs.log2 < 1000 then some (.str (toString i)) else none
  | .str z => some (.str z)
  | _ => none
theorem CallR.or {Y : Cx} {f : Value} {r r' : List V → Hp → VK → Prop} (h : CallR Y f r) (h' : CallR Y f r') : CallR Y f (fun xs H Q => r xs H Q ∨ r' xs H Q) := by
  intro pins s σ H xs us Q I rv q
  rcases q with q | q
  · exact h pins s σ H xs us Q I rv q
  · exact h' pins s σ H xs us Q I rv q
theorem e_strI (hx : Gl X "str") (hm : X.mg "str" = none) (he : PE X a (DL.tB J fa)) (hs : starEach [a] X.env = (false, eval a X.env) :: starEach [] X.env := by rfl) (hpl : (backTo pos (starEach [] X.env)).any (·.1) = false := by rfl) : PE X (.Call (.Name "str" p) [a] [] pos) (tE J (un gStr fa)) :=
  e_callT1 (CallR.or call_str_int SkE.call_str_str) (fun M H x vx d Q md e rx q => by
    unfold gStr at e
    split at e
    · split at e
      · cases e; cases rx.int; exact .inl ⟨_, rfl, by omega, q _ H (fun _ _ h => h) rfl⟩
      · cases e
    · cases e; cases rx.str; exact .inr ⟨_, rfl, q _ H (fun _ _ h => h) rfl⟩
    · cases e) hx hm (by decide +kernel) he hs (by decide) (by decide) hpl
end
end DL

set_option Elab.async false
set_option linter.all false
set_option maxRecDepth 100000
set_option maxHeartbeats 4000000
namespace DL
open PySem L2 PyProof.Rows

/-! ### methods and __init__, as the top has written them -/
structure MethAt (K : PySem.W.Frag) (mg : Str → Option Value) (c m qual : Str) (st : Stmt) (ps : List Str) : Prop where
  ex : ∃ C f fd, mg c = some (.ref C) ∧ Cls K C ∧ Meth K C m f ∧ Fun K m qual st f fd ∧ Binds K fd ps []
structure MkAt (K : PySem.W.Frag) (mg : Str → Option Value) (c qual : Str) (st : Stmt) (ps : List Str) : Prop where
  ex : ∃ C f fd, mg c = some (.ref C) ∧ Mk K C f ∧ Fun K "__init__" qual st f fd ∧ Binds K fd ps []
section
variable {P : Program} {w : World} {K : PySem.W.Frag} {mg : Str → Option Value} {base : Heap} {c m qual : Str} {st : Stmt} {N ps : List Str} {k : Nat} {fb : List Sl → RS}
theorem hasM_P (A : MethAt K mg c m qual st ps) (S : FnScope N ps (defScope st)) (hl : ps.length ≤ N.length) (B : ∀ f, BodyOk P w K mg base N qual st f k fb) : HasM P w K mg base (k + 1) c m ps (spP ⟨K, mg⟩ (runP N.length ps.length fb)) := by
  obtain ⟨C, f, fd, h1, h2, h3, F, h4⟩ := A.ex
  exact ⟨C, f, fd, h1, h2, h3, fnP F S hl (B f), h4⟩
theorem hasM_I (A : MethAt K mg c m qual st ps) (S : FnScope N ps (defScope st)) (hl : ps.length ≤ N.length) (B : ∀ f, BodyOk P w K mg base N qual st f k fb) : HasM P w K mg base (k + 1) c m ps (spI ⟨K, mg⟩ (runI N.length ps.length fb)) := by
  obtain ⟨C, f, fd, h1, h2, h3, F, h4⟩ := A.ex
  exact ⟨C, f, fd, h1, h2, h3, fnI F S hl (B f), h4⟩
theorem hasMk_I (A : MkAt K mg c qual st ps) (S : FnScope N ps (defScope st)) (hl : ps.length ≤ N.length) (B : ∀ f, BodyOk P w K mg base N qual st f k fb) : HasMk P w K mg base (k + 1) c ps [] (spI ⟨K, mg⟩ (runI N.length ps.length fb)) := by
  obtain ⟨C, f, fd, h1, h2, F, h4⟩ := A.ex
  exact ⟨C, f, fd, h1, h2, fnI F S hl (B f), h4⟩
theorem HasM.bad {j : Nat} (A : MethAt K mg c m qual st ps) : HasM P w K mg base j c m ps (spP ⟨K, mg⟩ fun _ => .bad) := by
  obtain ⟨C, f, fd, h1, h2, h3, F, h4⟩ := A.ex
  exact ⟨C, f, fd, h1, h2, h3, ⟨fun _ _ _ _ ⟨_, _, _, _, z⟩ => z.elim, fun _ _ _ _ _ _ _ _ _ _ _ _ _ _ ⟨_, _, _, _, z⟩ => z.elim⟩, h4⟩
theorem methAt_mk {h : Heap} {C f : Addr} {oc : Value} {od an : Option Addr} {osl : Array (Option Value)} {kV doc pm cdv ct : Value} (X : K.In h) (G : h.Ns mainGlobals mg) (aC : PySem.W.nsIn K mainGlobals c = some (some (.ref C))) (cl : Cls K C)
    (a : PySem.W.findIn K (.ref C) m = some (some (.ref f))) (i : PySem.W.isFn K (.ref f) = true) (l : K.lookup f = some ⟨oc, od, .func (PySem.W.fnOf m qual (defArgs st) (defBody st) (defScope st) .none kV doc pm an cdv ct), osl⟩) (cd : PySem.W.codeIn K cdv qual = true) (kp : PySem.W.keepIn K (.ref f) = true)
    (hb : ∀ (kV doc pm : Value) (an : Option Addr) (cdv ct : Value) (us : List Value), us.length = ps.length → bindArgs (PySem.W.fnOf m qual (defArgs st) (defBody st) (defScope st) .none kV doc pm an cdv ct) ⟨us, []⟩ = pure (ps.zip us)) : MethAt K mg c m qual st ps :=
  ⟨C, f, _, PySem.W.mg_of X G aC, cl, ⟨a, i, kp⟩, fun_mk l cd kp, (fun_mk (st := st) l cd kp).binds hb⟩
theorem mkAt_mk {h : Heap} {C f : Addr} {oc : Value} {od an : Option Addr} {osl : Array (Option Value)} {kV doc pm cdv ct : Value} (X : K.In h) (G : h.Ns mainGlobals mg) (aC : PySem.W.nsIn K mainGlobals c = some (some (.ref C))) (mk : PySem.W.makesIn K C = true)
    (a : PySem.W.findIn K (.ref C) "__init__" = some (some (.ref f))) (i : PySem.W.isFn K (.ref f) = true) (l : K.lookup f = some ⟨oc, od, .func (PySem.W.fnOf "__init__" qual (defArgs st) (defBody st) (defScope st) .none kV doc pm an cdv ct), osl⟩) (cd : PySem.W.codeIn K cdv qual = true) (kp : PySem.W.keepIn K (.ref f) = true) (kc : PySem.W.keepIn K (.ref C) = true)
    (hb : ∀ (kV doc pm : Value) (an : Option Addr) (cdv ct : Value) (us : List Value), us.length = ps.length → bindArgs (PySem.W.fnOf "__init__" qual (defArgs st) (defBody st) (defScope st) .none kV doc pm an cdv ct) ⟨us, []⟩ = pure (ps.zip us)) : MkAt K mg c qual st ps :=
  ⟨C, f, _, PySem.W.mg_of X G aC, ⟨mk, a, i, kc⟩, fun_mk l cd kp, (fun_mk (st := st) l cd kp).binds hb⟩
end
section
variable {X : Cx} {J : Jx} {e : Expr} {es : List Expr} {fs : List Sl → RE (List D)} {p pos : Pos} {c : Str} {k : Nat} {ps : List Str} {F : List D → RF}
/-- C(e, ..), every parameter given -/
theorem n_mkA (hG : J.G = ⟨X.K, X.mg⟩) (T : HasMk X.prog X.w X.K X.mg X.base k c ps [] (spI ⟨X.K, X.mg⟩ F)) (hr : Room (k + 1) X.A) (hgd : X.A.guards = some []) (tk : Takes X J.W) (ha : PA X (e :: es) (tA J fs)) (hg : Gl X c := by rfl) (hdb : (c == ("__debug__" : Str)) = false := by decide)
    (he : starEach (e :: es) X.env = (false, eval e X.env) :: starEach es X.env := by rfl) (hpl : (backTo pos (starEach es X.env)).any (·.1) = false := by rfl) : PE X (.Call (.Name c p) (e :: es) [] pos) (tN J (mkOb c F [] fs)) :=
  n_mk hG T .nil (fun _ _ => rfl) hr hgd tk ha hg hdb he hpl
end
end DL
namespace DL
open PySem L2 PyProof.Rows
section
variable {X : Cx} {J : Jx} {pos : Pos} {c q : Str} {st : Stmt} {ps : List Str}
/-- a def of the text, as a value -/
theorem e_fnA (hG : J.G = ⟨X.K, X.mg⟩) (A : FnAt X.K X.mg c q st ps) (hg : Gl X c := by rfl) (hd : (c == ("__debug__" : Str)) = false := by decide) : PE X (.Name c pos) (tE J (cst (.fn c))) := by
  obtain ⟨f, fd, _, hm, _⟩ := A.ex
  exact e_fn hg hm (by rw [hG]; exact hm) hd
end
section
variable {P : Program} {w : World} {K : PySem.W.Frag} {mg : Str → Option Value} {base : Heap} {k j : Nat} {c0 : Str} {F0 : List D → RF} {L : List (Str × (List D → RF))} {ps : List Str}
theorem tb_nil : ∀ (c : Str) (F : List D → RF), ([] : List (Str × (List D → RF))).lookup c = some F → ∃ ps, Has P w K mg base k c ps (spP ⟨K, mg⟩ F) := fun c F e => by cases e
theorem tb_cons (h : Has P w K mg base j c0 ps (spP ⟨K, mg⟩ F0)) (hj : j ≤ k) (r : ∀ (c : Str) (F : List D → RF), L.lookup c = some F → ∃ ps, Has P w K mg base k c ps (spP ⟨K, mg⟩ F)) : ∀ (c : Str) (F : List D → RF), ((c0, F0) :: L).lookup c = some F → ∃ ps, Has P w K mg base k c ps (spP ⟨K, mg⟩ F) := by
  intro c F e
  rw [List.lookup_cons] at e
  cases q : (c == c0) with
  | true =>
    rw [q] at e
    cases e
    have : c = c0 := by simpa using q
    subst this
    exact ⟨ps, h.mono hj⟩
  | false => rw [q] at e; exact r c F e
end
end DL

set_option Elab.async false
set_option linter.all false
set_option maxRecDepth 100000
set_option maxHeartbeats 4000000
namespace DLEq
open PySem PySem.Spec PyProof.Rows

/-! ### == and != by an own __eq__ -/
section
variable {prog : Program} {w : World} {A : Around} {E : Value → Shared → Prop} {s : Shared} {K : PySem.W.Frag} {x C L f : Addr} {h₀ : Heap} {m : Str → Option Value} {ox : Obj} {od : Option Obj} {b tb : Value}
theorem ifBound_objNe {M : Model} {args : List Value} {Q : Option Value → Shared → Prop} (X : K.In s.heap) (I : PySem.W.InstAt s.heap x ox C od) (hs : PySem.W.findIn K (.ref C) "__ne__" = some (some (.builtin "object.__ne__")))
    (h : wpAny M A (call (.builtin "object.__ne__") (.ref x :: args)) (fun v => Q (some v)) E s) : wpAny M A (callSpecialIfBound? (.ref x) "__ne__" args) Q E s := by
  simp only [callSpecialIfBound?, bindSpecialIfBound?]
  refine wpAny_holding (wpAny_bind (wpAny_bind (wpAny_bind (I.type.here ((PySem.W.looks_findIn X hs).here ?_)))))
  refine wpAny_bind (wpAny_askSetting (wpAny_ite ?_))
  have fin : wpAny M A (call (.builtin "object.__ne__") ([.ref x] ++ args) >>= fun v => pure (some v)) Q E s := wpAny_bind (wpAny_mono h (fun v s' h' => wpAny_pure h') fun _ _ h' => h')
  split
  · exact wpAny_bind (wpAny_of_eq (F.cmp_object.ne.bind _) (wpAny_pure (by exact fin)))
  · exact wpAny_tryCatch (wpAny_bind (wpAny_of_eq (F.cmp_object.ne.bind _) (wpAny_pure (by exact fin))))
theorem cmp_Kne {Q : Value → Shared → Prop} (hu : A.units + 1 < cLine) (X : K.In s.heap) (I : PySem.W.InstAt s.heap x ox C od) (hb : PySem.W.Looks (model prog w) s.heap (typeOf b) tb) (hn : PySem.W.notFirst K C tb = true)
    (hm : PySem.W.mroIn K C (.type "object") = some true) (hne : PySem.W.findIn K (.ref C) "__ne__" = some (some (.builtin "object.__ne__")))
    (hs : PySem.W.findIn K (.ref C) "__eq__" = some (some (.ref f))) (hf : PySem.W.isFn K (.ref f) = true)
    (h : wpAny (model prog w) A.in1 (call (.ref f) [.ref x, b]) (fun v s' => ∃ k, v = .bool k ∧ Q (.bool (!k)) s') E s) : wpAny (model prog w) A (richCompare .NotEq (.ref x) b) Q E s := by
  have ent : wpAny (model prog w) A.in1 (Builtin.«object.__ne__» ⟨[.ref x, b], []⟩) (fun fin s' => ∃ k, fin = .done (.ret (.bool k)) ∧ Q (.bool k) s') E s := by
    unfold Builtin.«object.__ne__»
    repeat (first
      | with_reducible refine wpAny_cRoomFor (show A.in1.units < cLine from hu) ?_
      | (refine wpAny_bind (m := callSpecialIfBound? (.ref x) (Str.ofString "__eq__") [b])
          (PySem.W.ifBound_K X I hs hf (wpAny_mono h (fun r s' hr => by
            obtain ⟨k, rfl, hq⟩ := hr
            repeat (first | exact ⟨_, rfl, hq⟩ | exact wpAny_pure ⟨_, rfl, hq⟩ | (refine wpAny_bind (m := truthy (.bool _)) (wpAny_truthy_bool ?_)) | wp_step)) fun _ _ e => e)))
      | wp_step)
  have one : wpAny (model prog w) A (tryCompare (.ref x) "__ne__" b) (fun r s' => ∃ v, r = some v ∧ Q v s') E s := by
    unfold tryCompare
    refine wpAny_bind (ifBound_objNe X I hne (wpAny_call (codeAny_call_builtin PySem.F.cmp_object.ne.plain PySem.F.cmpEntry_ne (PySem.W.check_slot PySem.F.cmpKind_ne PySem.F.cmpSplit_ne (I.type.andThen (PySem.W.looks_mroIn X hm)) (PySem.F.cmpArgs_ne _ _) (wpAny_mono ent (fun fin s' hfin => ?_) fun _ _ e => e)))))
    obtain ⟨v, rfl, hq⟩ := hfin
    exact wpAny_pure ⟨_, rfl, hq⟩
  unfold richCompare
  simp only [oneThing_ref]
  refine wpAny_holding (wpAny_bind (wpAny_cRoomFor (Nat.lt_of_succ_lt hu) ?_))
  refine wpAny_bind (I.type.here (wpAny_bind (hb.here ?_)))
  rw [cmpInfo_NotEq]
  split
  · rename_i q
    have e : PySem.W.subIn K tb (.ref C) = some false := by
      rcases Bool.or_eq_true_iff.mp hn with e | e
      · rw [beq_iff_eq.mp e] at q; simp at q
      · exact beq_iff_eq.mp e
    refine wpAny_bind ((PySem.W.looks_subIn X e).here ?_)
    simp only [Bool.false_eq_true, if_false]
    refine wpAny_bind (wpAny_mono one (fun r s' z => ?_) fun _ _ e => e)
    obtain ⟨v, rfl, hq⟩ := z
    exact wpAny_pure hq
  · refine wpAny_bind (wpAny_pure ?_)
    simp only [Bool.false_eq_true, if_false]
    refine wpAny_bind (wpAny_mono one (fun r s' z => ?_) fun _ _ e => e)
    obtain ⟨v, rfl, hq⟩ := z
    exact wpAny_pure hq
end
end DLEq

namespace DL
open PySem L2 PyProof.Rows

/-- what the written part tells of an own class c with its own ==, read as F -/
structure HasEq (P : Program) (w : World) (K : PySem.W.Frag) (mg : Str → Option Value) (base : Heap) (k : Nat) (c : Str) (F : List D → RF) : Prop where
  ex : ∃ C f fd, mg c = some (.ref C) ∧ PySem.W.findIn K (.ref C) "__eq__" = some (some (.ref f)) ∧ PySem.W.isFn K (.ref f) = true ∧ PySem.W.findIn K (.ref C) "__ne__" = some (some (.builtin "object.__ne__")) ∧ PySem.W.mroIn K C (.type "object") = some true ∧
    FnG P w K mg base k f fd ["self", "other"] (spP ⟨K, mg⟩ F) ∧ Binds K fd ["self", "other"] []
def isObC (c : Str) : D → Bool
  | .ob c' _ _ => decide (c' = c)
  | _ => false
/-- == of an object of the class c with y -/
def gEqO (c : Str) (F : List D → RF) (neg : Bool) (x y : D) : Option D := if (isObC c x && (isObC c y || (tyD y).isSome)) = true then (match F [x, y] with
  | .ok (.bl b) _ => some (.bl (b ^^ neg))
  | _ => none) else none
theorem sub_no {K : PySem.W.Frag} {C : Addr} {t : String} (h : t ∈ tyAll) : PySem.W.subIn K (.type t) (.ref C) = some false := by
  show (fastBuiltinMro t).map (·.contains (.ref C)) = some false
  have e : (fastBuiltinMro t).isSome = true ∧ ((fastBuiltinMro t).getD []).all (fun v => match v with | .ref _ => false | _ => true) = true := by
    revert t; unfold tyAll; decide +kernel
  obtain ⟨l, hl⟩ := Option.isSome_iff_exists.mp e.1
  rw [hl] at e ⊢
  have e2 := e.2
  rw [Option.map_some]
  refine congrArg some ?_
  rw [Bool.eq_false_iff]
  intro z
  have zm := List.contains_iff_mem.mp z
  have := List.all_eq_true.mp e2 _ zm
  simp at this
def rEqO (P : Program) (w : World) (K : PySem.W.Frag) (mg : Str → Option Value) (c : Str) (F : List D → RF) (neg : Bool) : R2 := fun vx vy H Q => ∃ M x y d, MD M H ∧ Rep ⟨K, mg⟩ M H x vx ∧ Rep ⟨K, mg⟩ M H y vy ∧ gEqO c F neg x y = some d ∧ ∀ v H', Extn H H' → Rep ⟨K, mg⟩ M H' d v → Q v H'
section
variable {X : Cx} {J : Jx} {k : Nat} {c : Str} {F : List D → RF} {a b : Expr} {fa fb : List Sl → RE D} {pos : Pos}
theorem eqO_call {A : Around} {pins : List (Addr × Obj)} {s : Shared} {σ : L2.St} {H : Hp} {f : Addr} {fd : FuncData} {vx vy : V} {ux uy : Value} {R : Value → Shared → Prop} (Fk : FnG X.prog X.w X.K X.mg X.base k f fd ["self", "other"] (spP ⟨X.K, X.mg⟩ F)) (hb : Binds X.K fd ["self", "other"] []) (hr : Room k A) (hgd : A.guards = some []) (e0 : Env0 X.prog X.w X.K X.mg X.base A X.stack s H)
    (I : L2.Inv X pins σ H s) (rx : RelV vx ux) (ry : RelV vy uy) {M : Addr → Prop} {x y : D} {b : Bool} {io : D} (md : MD M H) (qx : Rep ⟨X.K, X.mg⟩ M H x vx) (qy : Rep ⟨X.K, X.mg⟩ M H y vy) (hF : F [x, y] = .ok (.bl b) io)
    (q : ∀ s' H', Extn H H' → L2.Inv X pins σ H' s' → R (.bool b) s') : wpAny (model X.prog X.w) A (PySem.call (.ref f) [ux, uy]) R X.xe s := by
  have hsp : spP ⟨X.K, X.mg⟩ F [vx, vy] H (fun v H' => v = .bl b ∧ Extn H H') (WE (fun _ _ _ _ => False) σ) := ⟨M, [x, y], md, ⟨vx, _, rfl, qx, vy, _, rfl, qy, rfl⟩, by rw [hF]; exact fun v H' ex rv => ⟨rv, ex⟩⟩
  have r2 : Vals [vx, vy] [ux, uy] := .cons rx (.cons ry .nil)
  have hl := Fk.len _ _ _ _ hsp
  refine wpAny_call (codeAny_mono (Fk.run A X.stack s H ⟨[ux, uy], []⟩ [ux, uy] [vx, vy] _ _ hr hgd e0 (by
    have := hb s [ux, uy] I.kIn (by simpa using hl)
    simpa using this) r2 hsp) fun r s' hq => ?_)
  cases r with
  | error e => exact passAt (takes_none X) σ pins H s e s' I hq
  | ok fl =>
    cases fl with
    | ret w =>
      obtain ⟨z, H', I', rz, ez, ex⟩ := I.after hq
      subst ez
      cases rz
      exact q _ _ ex I'
    | next => exact False.elim hq
    | brk => exact False.elim hq
    | cont => exact False.elim hq
theorem gEqO_some {neg : Bool} {x y d : D} (h : gEqO c F neg x y = some d) : ∃ ns ds b io, x = .ob c ns ds ∧ ((∃ ns' ds', y = .ob c ns' ds') ∨ ∃ t, tyD y = some t) ∧ F [x, y] = .ok (.bl b) io ∧ d = .bl (b ^^ neg) := by
  unfold gEqO at h
  split at h
  · rename_i hc
    rw [Bool.and_eq_true, Bool.or_eq_true] at hc
    split at h
    · rename_i b io eF
      cases h
      obtain ⟨h1, h2⟩ := hc
      cases x with
      | ob c' ns ds =>
        have e1 : c' = c := of_decide_eq_true h1
        subst e1
        refine ⟨ns, ds, b, io, rfl, ?_, eF, rfl⟩
        rcases h2 with h2 | h2
        · cases y with
          | ob c2 ns2 ds2 => have e2 : c2 = c' := of_decide_eq_true h2; subst e2; exact .inl ⟨_, _, rfl⟩
          | _ => cases h2
        · exact .inr (Option.isSome_iff_exists.mp h2)
      | _ => cases h1
    · cases h
  · cases h
theorem looks_of {pins : List (Addr × Obj)} {s : Shared} {σ : L2.St} {H : Hp} {v : V} {u t : Value} (I : L2.Inv X pins σ H s) (rx : RelV v u) (ty : TyX X.K H v t) (Mo : Model) : PySem.W.Looks Mo s.heap (typeOf u) t := by
  obtain ⟨P, Z, p, _⟩ := kit_of I rx ty
  exact Z.ty Mo s.heap I.kIn p
theorem op_eqO (T : HasEq X.prog X.w X.K X.mg X.base k c F) (hr : Room (k + 1) X.A) (hgd : X.A.guards = some []) : OpR X (compareOp .Eq) (rEqO X.prog X.w X.K X.mg c F false) := by
  intro pins s σ H vx vy ux uy Q I rx ry h
  obtain ⟨M, x, y, d, md, qx, qy, hg, q⟩ := h
  obtain ⟨C, f, fd, hC, he, hf, hne, hm, Fk, hb⟩ := T.ex
  obtain ⟨ns, ds, b, io, rfl, hy, hF, rfl⟩ := gEqO_some hg
  obtain ⟨a, C', dx, vs, rfl, n, hc, ha, hl, rl⟩ := id qx
  have hc : X.mg c = some (.ref C') := hc
  rw [hC] at hc; cases hc
  cases rx
  obtain ⟨mA, J, _⟩ := ins_get I.hok ha
  obtain ⟨od, J, _⟩ := J.look
  have go : ∀ tb, PySem.W.Looks (model X.prog X.w) s.heap (typeOf uy) tb → PySem.W.notFirst X.K C tb = true → wpAny (model X.prog X.w) X.A (compareOp .Eq (.ref a) uy) (EP X pins σ Q) X.xe s := fun tb hb1 hn => by
    obtain ⟨m, hF0⟩ := I.fr
    refine PySem.W.cmp_K (op := .Eq) (tb := tb) (by have := hr.un; omega) hF0 I.ok.mod.kin J hb1 hn he hf ?_
    refine eqO_call Fk hb (hr.mono (Nat.le_succ _)) hgd I.env0 I (vx := V.ref a) rfl ry md qx qy hF fun s' H' ex I' => ?_
    exact ⟨.bl b, H', I', rfl, q _ H' ex (by cases b <;> rfl)⟩
  rcases hy with ⟨ns', ds', rfl⟩ | ⟨t, ht⟩
  · obtain ⟨a', C2, dx', vs', rfl, n', hc', ha', hl', rl'⟩ := id qy
    have hc' : X.mg c = some (.ref C2) := hc'
    rw [hC] at hc'; cases hc'
    cases ry
    obtain ⟨mB, J', _⟩ := ins_get I.hok ha'
    obtain ⟨od', J', _⟩ := J'.look
    exact go _ J'.type (by simp [PySem.W.notFirst])
  · exact go _ (looks_of I ry (tyx_of (G := ⟨X.K, X.mg⟩) ht (.inl qy)) _) (by unfold PySem.W.notFirst; rw [sub_no (tyD_mem ht)]; simp)
theorem op_neO (T : HasEq X.prog X.w X.K X.mg X.base k c F) (hr : Room (k + 1) X.A) (hgd : X.A.guards = some []) : OpR X (compareOp .NotEq) (rEqO X.prog X.w X.K X.mg c F true) := by
  intro pins s σ H vx vy ux uy Q I rx ry h
  obtain ⟨M, x, y, d, md, qx, qy, hg, q⟩ := h
  obtain ⟨C, f, fd, hC, he, hf, hne, hm, Fk, hb⟩ := T.ex
  obtain ⟨ns, ds, b, io, rfl, hy, hF, rfl⟩ := gEqO_some hg
  obtain ⟨a, C', dx, vs, rfl, n, hc, ha, hl, rl⟩ := id qx
  have hc : X.mg c = some (.ref C') := hc
  rw [hC] at hc; cases hc
  cases rx
  obtain ⟨mA, J, _⟩ := ins_get I.hok ha
  obtain ⟨od, J, _⟩ := J.look
  have go : ∀ tb, PySem.W.Looks (model X.prog X.w) s.heap (typeOf uy) tb → PySem.W.notFirst X.K C tb = true → wpAny (model X.prog X.w) X.A (compareOp .NotEq (.ref a) uy) (EP X pins σ Q) X.xe s := fun tb hb1 hn => by
    refine DLEq.cmp_Kne (tb := tb) (by have := hr.un; omega) I.kIn J hb1 hn hm hne he hf ?_
    refine eqO_call Fk hb hr.in1 hgd I.env0.in1 I (vx := V.ref a) rfl ry md qx qy hF fun s' H' ex I' => ?_
    exact ⟨b, rfl, .bl (!b), H', I', rfl, q _ H' ex (by cases b <;> rfl)⟩
  rcases hy with ⟨ns', ds', rfl⟩ | ⟨t, ht⟩
  · obtain ⟨a', C2, dx', vs', rfl, n', hc', ha', hl', rl'⟩ := id qy
    have hc' : X.mg c = some (.ref C2) := hc'
    rw [hC] at hc'; cases hc'
    cases ry
    obtain ⟨mB, J', _⟩ := ins_get I.hok ha'
    obtain ⟨od', J', _⟩ := J'.look
    exact go _ J'.type (by simp [PySem.W.notFirst])
  · exact go _ (looks_of I ry (tyx_of (G := ⟨X.K, X.mg⟩) ht (.inl qy)) _) (by unfold PySem.W.notFirst; rw [sub_no (tyD_mem ht)]; simp)
theorem eqO_core {neg : Bool} (hG : J.G = ⟨X.K, X.mg⟩) (σ : L2.St) (H : Hp) (Q : VK) (h : tE J (bin (gEqO c F neg) fa fb) σ H Q) : tOp (rEqO X.prog X.w X.K X.mg c F neg) (tE J fa) (tE J fb) σ H Q := by
  obtain ⟨M, r, I, h⟩ := h
  refine ⟨M, r, I, Out.bind h fun x r1 vx M1 H1 st1 I1 rx h1 => ?_⟩
  refine ⟨M1, r1, I1, Out.bind h1 fun y r2 vy M2 H2 st2 I2 ry h2 => ?_⟩
  have rx2 := Rep.step st2 I1.md _ _ rx
  cases e : gEqO c F neg x y with
  | none => rw [e] at h2; exact h2.elim
  | some d =>
    rw [e] at h2
    rw [hG] at rx2
    have ry' : Rep J.G M2 H2 y vy := ry
    rw [hG] at ry'
    refine ⟨M2, x, y, d, I2.md, rx2, ry', e, fun v H' ex q => h2 v M2 H' (Step.ext ex) (I2.ext ex) ?_⟩
    show Rep J.G M2 H' d v
    rw [hG]; exact q
theorem e_eqO (hG : J.G = ⟨X.K, X.mg⟩) (T : HasEq X.prog X.w X.K X.mg X.base k c F) (hr : Room (k + 1) X.A) (hgd : X.A.guards = some []) (ha : PE X a (tE J fa)) (hb : PE X b (tE J fb)) : PE X (.Compare a [.Eq] [b] pos) (tE J (bin (gEqO c F false) fa fb)) :=
  PEi (pe_cmpR (op_eqO T hr hgd) ha hb (nomark _)) fun σ H Q h => eqO_core hG σ H Q h
theorem e_neO (hG : J.G = ⟨X.K, X.mg⟩) (T : HasEq X.prog X.w X.K X.mg X.base k c F) (hr : Room (k + 1) X.A) (hgd : X.A.guards = some []) (ha : PE X a (tE J fa)) (hb : PE X b (tE J fb)) : PE X (.Compare a [.NotEq] [b] pos) (tE J (bin (gEqO c F true) fa fb)) :=
  PEi (pe_cmpR (op_neO T hr hgd) ha hb (nomark _)) fun σ H Q h => eqO_core hG σ H Q h
theorem t_eqO (hG : J.G = ⟨X.K, X.mg⟩) (T : HasEq X.prog X.w X.K X.mg X.base k c F) (hr : Room (k + 1) X.A) (hgd : X.A.guards = some []) (ha : PE X a (tE J fa)) (hb : PE X b (tE J fb)) : PT X (.Compare a [.Eq] [b] pos) (tT J (tv (bin (gEqO c F false) fa fb))) :=
  PTi (pt_cmpR (op_eqO T hr hgd) ha hb (nomark _)) fun σ H Q h => eqO_core hG σ H _ (tv_core h)
theorem t_neO (hG : J.G = ⟨X.K, X.mg⟩) (T : HasEq X.prog X.w X.K X.mg X.base k c F) (hr : Room (k + 1) X.A) (hgd : X.A.guards = some []) (ha : PE X a (tE J fa)) (hb : PE X b (tE J fb)) : PT X (.Compare a [.NotEq] [b] pos) (tT J (tv (bin (gEqO c F true) fa fb))) :=
  PTi (pt_cmpR (op_neO T hr hgd) ha hb (nomark _)) fun σ H Q h => eqO_core hG σ H _ (tv_core h)
end
end DL

namespace DL
open PySem L2 PyProof.Rows
/-! ### isinstance(x, C), C an own class -/
structure IsC (K : PySem.W.Frag) (mg : Str → Option Value) (c : Str) (tab : Str → Option Bool) : Prop where
  ex : ∃ C, mg c = some (.ref C) ∧ (∀ t ∈ tyAll, PySem.W.kitOne K (.type t) (.ref C) = some false) ∧ ∀ c' b, tab c' = some b → ∃ C', mg c' = some (.ref C') ∧ Cls K C' ∧ PySem.W.findIn K (.ref C') "__class__" = some (some (.builtin "object.__class__")) ∧
    PySem.W.specialIn K (.builtin "object.__class__") "__get__" = some (some (.builtin "getset_descriptor.__get__")) ∧ PySem.W.takesIn K (.builtin "object.__class__") = some true ∧ PySem.W.mroIn K C' (.type "object") = some true ∧ PySem.W.kitOne K (.ref C') (.ref C) = some b
def gIsO (tab : Str → Option Bool) : D → Option D
  | .ob c' _ _ => (tab c').map .bl
  | d => if (tyD d).isSome = true then some (.bl false) else none
section
variable {X : Cx} {J : Jx} {e : Expr} {f : List Sl → RE D} {p q pos : Pos} {x : Str} {tab : Str → Option Bool}
theorem e_isO (hG : J.G = ⟨X.K, X.mg⟩) (T : IsC X.K X.mg x tab) (hx : Gl X "isinstance") (hm : X.mg "isinstance" = none) (he : PE X e (DL.tB J f)) (hg : Gl X x := by rfl)
    (hs : starEach [e, .Name x q] X.env = (false, eval e X.env) :: starEach [.Name x q] X.env := by rfl) (hs2 : starEach [.Name x q] X.env = (false, eval (.Name x q) X.env) :: starEach [] X.env := by rfl) (hpl : (backTo pos (starEach [.Name x q] X.env)).any (·.1) = false := by rfl)
    (hd : (x == ("__debug__" : Str)) = false := by decide) :
    PE X (.Call (.Name "isinstance" p) [e, .Name x q] [] pos) (tE J (un (gIsO tab) f)) := by
  obtain ⟨C, hC, hty, htab⟩ := T.ex
  refine PEi (pe_callB call_isi hx hm PyProof.Rows.boot_isinstance (pa_cons he (pa_cons (pe_glob (v := .ref C) hg hC rfl hd) pa_nil hs2) hs) (by decide) (by decide) hs hpl) fun σ H Q ⟨M, r, I, h⟩ => ⟨M, r, I, Out.bind h fun d r1 v M1 H1 st1 I1 rd1 h1 => ?_⟩
  show rIsi X.K [v, .ref C] H1 Q
  have hK := hK_ hG
  cases d with
  | ob c' ns ds =>
    have h1 : Out J (RV J) M1 H1 σ (liftO ((tab c').map .bl) r1) Q := h1
    cases et : tab c' with
    | none => rw [et] at h1; exact h1.elim
    | some b =>
      rw [et] at h1
      obtain ⟨C', hC', cl, k1, k2, k3, k4, k5⟩ := htab c' b et
      obtain ⟨a, C2, dx, vs, rfl, hc, ha, hl, rl⟩ := rd1.ob
      rw [hG] at hc
      have hc : X.mg c' = some (.ref C2) := hc
      rw [hC'] at hc; cases hc
      exact ⟨.ref a, .ref C, .ref C', .ref C, b, rfl, .own C, .base (.ins ha cl k1 k2 k3 k4), k5, h1 _ M1 H1 Step.refl I1 rfl⟩
  | fn c' => exact h1.elim
  | non => exact ⟨v, .ref C, _, .ref C, false, rfl, .own C, hK ▸ tyx_of (d := .non) rfl rd1, hty _ (by decide), h1 _ M1 H1 Step.refl I1 rfl⟩
  | bl b => exact ⟨v, .ref C, _, .ref C, false, rfl, .own C, hK ▸ tyx_of (d := .bl b) rfl rd1, hty _ (by decide), h1 _ M1 H1 Step.refl I1 rfl⟩
  | int b => exact ⟨v, .ref C, _, .ref C, false, rfl, .own C, hK ▸ tyx_of (d := .int b) rfl rd1, hty _ (by decide), h1 _ M1 H1 Step.refl I1 rfl⟩
  | str b => exact ⟨v, .ref C, _, .ref C, false, rfl, .own C, hK ▸ tyx_of (d := .str b) rfl rd1, hty _ (by decide), h1 _ M1 H1 Step.refl I1 rfl⟩
  | tup b => exact ⟨v, .ref C, _, .ref C, false, rfl, .own C, hK ▸ tyx_of (d := .tup b) rfl rd1, hty _ (by decide), h1 _ M1 H1 Step.refl I1 rfl⟩
  | lst b => exact ⟨v, .ref C, _, .ref C, false, rfl, .own C, hK ▸ tyx_of (d := .lst b) rfl rd1, hty _ (by decide), h1 _ M1 H1 Step.refl I1 rfl⟩
  | dct b b' => exact ⟨v, .ref C, _, .ref C, false, rfl, .own C, hK ▸ tyx_of (d := .dct b b') rfl rd1, hty _ (by decide), h1 _ M1 H1 Step.refl I1 rfl⟩
  | scr b => exact ⟨v, .ref C, _, .ref C, false, rfl, .own C, hK ▸ tyx_of (d := .scr b) rfl rd1, hty _ (by decide), h1 _ M1 H1 Step.refl I1 rfl⟩
end

/-! ### index and count -/
theorem PEor {X : Cx} {e : Expr} {t t' : TE} (h : PE X e t) (h' : PE X e t') : PE X e (fun σ H Q => t σ H Q ∨ t' σ H Q) := ⟨fun pins s σ H Q I q => q.elim (h.run pins s σ H Q I) (h'.run pins s σ H Q I)⟩
/-- a method of a built-in value, by values: o.m(e, ..) -/
def meth (g : D → List D → Option D) (fo : List Sl → RE D) (fs : List Sl → RE (List D)) : List Sl → RE D := fun r => (fo r).bind fun o r1 => (fs r1).bind fun ds r2 => liftO (g o ds) r2
def idxOf (x : D) : List D → Option Nat
  | [] => none
  | y :: ys => if y.eqb x = true then some 0 else (idxOf x ys).map (· + 1)
def gIndex : D → List D → Option D
  | .lst xs, [y] => if (xs.all (okd 20) && okd 20 y) = true then (idxOf y xs).map (fun (n : Nat) => D.int (n : Int)) else none
  | .tup xs, [y] => if (xs.all (okd 20) && okd 20 y) = true then (idxOf y xs).map (fun (n : Nat) => D.int (n : Int)) else none
  | _, _ => none
theorem idxOf_some {x : D} : ∀ {xs : List D} {n : Nat}, idxOf x xs = some n → (∃ y, xs[n]? = some y ∧ y.eqb x = true) ∧ ∀ m y, m < n → xs[m]? = some y → y.eqb x = false
  | [], _, h => by cases h
  | y :: ys, n, h => by
    unfold idxOf at h
    split at h
    · rename_i e; cases h; exact ⟨⟨y, rfl, e⟩, fun m y hm => absurd hm (Nat.not_lt_zero m)⟩
    · rename_i e
      rw [Option.map_eq_some_iff] at h
      obtain ⟨k, hk, rfl⟩ := h
      obtain ⟨h1, h2⟩ := idxOf_some hk
      refine ⟨h1, fun m z hm hz => ?_⟩
      cases m with
      | zero => cases hz; simpa using e
      | succ m => exact h2 m z (by omega) hz
def Facts (H : Hp) (K : PySem.W.Frag) (y : V) (d : PyData) (ws : List V) (ds : List PyData) : Prop := DpAll K H ws ds ∧ Dp K H y d ∧ PyData.plainAll ds = true ∧ d.plain = true ∧ d.depth ≤ 40
def rIndexP (K : PySem.W.Frag) (sq : Hp → Addr → List V → Prop) : V → List V → Hp → VK → Prop := fun x xs H Q => ∃ (a : Addr) (y : V) (d : PyData) (ds : List PyData) (ws : List V) (j : Nat) (z : PyData), x = V.ref a ∧ xs = [y] ∧ sq H a ws ∧ Facts H K y d ws ds ∧
  ds[j]? = some z ∧ PyData.eqv z d = true ∧ (∀ (m : Nat) (z' : PyData), m < j → ds[m]? = some z' → PyData.eqv z' d = false) ∧ Q (.int (j : Nat)) H
def rCountP (K : PySem.W.Frag) (sq : Hp → Addr → List V → Prop) : V → List V → Hp → VK → Prop := fun x xs H Q => ∃ (a : Addr) (y : V) (d : PyData) (ds : List PyData) (ws : List V), x = V.ref a ∧ xs = [y] ∧ sq H a ws ∧ Facts H K y d ws ds ∧ Q (.int (ds.countP (fun z => PyData.eqv z d) : Nat)) H
section
variable {X : Cx} {pins : List (Addr × Obj)} {s : Shared} {σ : L2.St} {H : Hp} {y : V} {uy : Value} {d : PyData} {ws : List V} {its : List Value} {ds : List PyData}
theorem facts_at (hu : X.A.units + 64 < cLine) (I : L2.Inv X pins σ H s) (f : Facts H X.K y d ws ds) (ry : RelV y uy) (rv : Vals ws its) : its.map (SeqAt.readOf s.heap) = ds ∧ ∀ v, v ∈ its.toArray → SeqAt.EqAt X.A.in1 s v uy (PyData.eqv (SeqAt.readOf s.heap v) d) := by
  obtain ⟨h1, h2, h3, h4, h5⟩ := f
  obtain ⟨bs, r1⟩ := Dp.reads I d y uy h2 ry
  obtain ⟨as, r2⟩ := Dp.readsAll I ds _ its h1 rv
  have hm := Nat.min_le_right (PyData.depthAll ds) d.depth
  exact ⟨SeqAt.readsAll_map_plain ds its as h3 r2, SeqAt.items_plain (vs := its.toArray) (show ReadsAll s.heap its.toArray.toList ds as from r2) r1 h3 h4 (by omega)⟩
theorem facts_ix (hmap : its.map (SeqAt.readOf s.heap) = ds) {j : Nat} {z : PyData} (hz : ds[j]? = some z) (hzj : PyData.eqv z d = true) (hno : ∀ (m : Nat) (z' : PyData), m < j → ds[m]? = some z' → PyData.eqv z' d = false) :
    ∃ hj : j < its.toArray.size, PyData.eqv (SeqAt.readOf s.heap its.toArray[j]) d = true ∧ ∀ m (hm : m < its.toArray.size), m < j → PyData.eqv (SeqAt.readOf s.heap its.toArray[m]) d = false := by
  have at_ : ∀ (m : Nat) (hm : m < its.toArray.size), ds[m]? = some (SeqAt.readOf s.heap its.toArray[m]) := fun m hm => by
    have hml : m < its.length := by simpa using hm
    rw [← hmap, List.getElem?_map, List.getElem?_eq_getElem hml]
    simp
  have hj : j < its.toArray.size := by
    have := (List.getElem?_eq_some_iff.mp hz).1
    rw [← hmap, List.length_map] at this
    simpa using this
  refine ⟨hj, ?_, fun m hm hmj => hno m _ hmj (at_ m hm)⟩
  have e := at_ j hj
  rw [hz] at e
  rw [← Option.some.inj e]; exact hzj
theorem mt_indexL (hu : X.A.units + 64 < cLine) : MtR X "list.index" (rIndexP X.K (SqL X.K)) := by
  intro pins s σ H x xs v us Q I rx rxs h
  obtain ⟨a, y, d, ds, ws, j, z, rfl, rfl, hl, f, hz, hzj, hno, q⟩ := h
  cases rx
  cases rxs with
  | cons ry rt =>
    cases rt
    obtain ⟨its, rv, ⟨⟨cls, dd, data, sls⟩, n, ho, hc, hdn, hdt⟩, hlen⟩ := I.list hl
    simp only at hc hdt
    subst hc hdt
    obtain ⟨hmap, heq⟩ := facts_at hu I f ry rv
    obtain ⟨hj, h1, h2⟩ := facts_ix hmap hz hzj hno
    have hsl := sizeLine_eq
    have hvl := rv.length
    have hj' : j < its.length := by simpa using hj
    exact call_meets PySem.F.slot_list_index ⟨_, ho, rfl⟩ PySem.F.entry_list_index (PySem.F.args_list_index_2 _ _) (SeqAt.list_indexAt a its.toArray n dd sls _ (fun u => PyData.eqv (SeqAt.readOf s.heap u) d) j hj (by omega) h1 h2) ⟨ho, heq, ⟨.int (j : Nat), H, I.tok _, ⟨_, rfl⟩, q⟩⟩
theorem mt_indexT (hu : X.A.units + 64 < cLine) : MtR X "tuple.index" (rIndexP X.K (SqT X.K)) := by
  intro pins s σ H x xs v us Q I rx rxs h
  obtain ⟨a, y, d, ds, ws, j, z, rfl, rfl, hl, f, hz, hzj, hno, q⟩ := h
  cases rx
  cases rxs with
  | cons ry rt =>
    cases rt
    obtain ⟨its, rv, pl, hlen⟩ := I.tuple hl
    obtain ⟨⟨cls, dd, data, sls⟩, ho, hc, n, hdt⟩ := pl
    simp only at hc hdt
    subst hc hdt
    obtain ⟨hmap, heq⟩ := facts_at hu I f ry rv
    obtain ⟨hj, h1, h2⟩ := facts_ix hmap hz hzj hno
    exact call_meets PySem.F.slot_tuple_index ⟨_, ho, rfl⟩ PySem.F.entry_tuple_index (PySem.F.args_tuple_index_2 _ _) (TI.tuple_indexAt a its.toArray n dd sls _ (fun u => PyData.eqv (SeqAt.readOf s.heap u) d) j hj h1 h2) ⟨ho, heq, ⟨.int (j : Nat), H, I.tok _, ⟨_, rfl⟩, q⟩⟩
theorem facts_cnt (hmap : its.map (SeqAt.readOf s.heap) = ds) : its.toArray.toList.countP (fun u => PyData.eqv (SeqAt.readOf s.heap u) d) = ds.countP (fun z => PyData.eqv z d) := by
  rw [← hmap, List.countP_map]; rfl
theorem mt_countL (hu : X.A.units + 64 < cLine) : MtR X "list.count" (rCountP X.K (SqL X.K)) := by
  intro pins s σ H x xs v us Q I rx rxs h
  obtain ⟨a, y, d, ds, ws, rfl, rfl, hl, f, q⟩ := h
  cases rx
  cases rxs with
  | cons ry rt =>
    cases rt
    obtain ⟨its, rv, ⟨⟨cls, dd, data, sls⟩, n, ho, hc, hdn, hdt⟩, hlen⟩ := I.list hl
    simp only at hc hdt
    subst hc hdt
    obtain ⟨hmap, heq⟩ := facts_at hu I f ry rv
    rw [← facts_cnt hmap] at q
    exact call_meets PySem.F.slot_list_count ⟨_, ho, rfl⟩ PySem.F.entry_list_count (PySem.F.args_list_count_2 _ _) (SeqAt.list_countAt a its.toArray n dd sls _ (fun u => PyData.eqv (SeqAt.readOf s.heap u) d)) ⟨ho, heq, ⟨.int _, H, I.tok _, ⟨_, rfl⟩, q⟩⟩
theorem mt_countT (hu : X.A.units + 64 < cLine) : MtR X "tuple.count" (rCountP X.K (SqT X.K)) := by
  intro pins s σ H x xs v us Q I rx rxs h
  obtain ⟨a, y, d, ds, ws, rfl, rfl, hl, f, q⟩ := h
  cases rx
  cases rxs with
  | cons ry rt =>
    cases rt
    obtain ⟨its, rv, pl, hlen⟩ := I.tuple hl
    obtain ⟨⟨cls, dd, data, sls⟩, ho, hc, n, hdt⟩ := pl
    simp only at hc hdt
    subst hc hdt
    obtain ⟨hmap, heq⟩ := facts_at hu I f ry rv
    rw [← facts_cnt hmap] at q
    exact call_meets PySem.F.slot_tuple_count ⟨_, ho, rfl⟩ PySem.F.entry_tuple_count (PySem.F.args_tuple_count_2 _ _) (SeqAt.tuple_countAt a its.toArray n dd sls _ (fun u => PyData.eqv (SeqAt.readOf s.heap u) d)) ⟨ho, heq, ⟨.int _, H, I.tok _, ⟨_, rfl⟩, q⟩⟩
end
end DL

namespace DL
open PySem L2 PyProof.Rows
/-- a method of built-in values of the type T, by values -/
def BmD (G : Gm) (T : String) (p : D → Bool) (r : V → List V → Hp → VK → Prop) (g : D → List D → Option D) : Prop := ∀ M H o ds vx vs d (Q : VK), MD M H → p o = true → g o ds = some d → Rep G M H o vx → RepL G M H ds vs → (∀ v H', Extn H H' → Rep G M H' d v → Q v H') → r vx vs H Q
section
variable {X : Cx} {J : Jx} {o e : Expr} {es : List Expr} {fo f : List Sl → RE D} {fs : List Sl → RE (List D)} {apos cpos : Pos} {name : Str} {id T : String} {r : V → List V → Hp → VK → Prop} {g : D → List D → Option D} {p : D → Bool}
theorem bm_core {K : PySem.W.Frag} (hT : ∀ M H o vx, p o = true → Rep J.G M H o vx → tyV K T vx H) (hr : BmD J.G T p r g) {σ : L2.St} {H : Hp} {Q : VK} {M : Addr → Prop} {r0 : List Sl} (I : SI J M r0 σ H) (h : Out J (RV J) M H σ (meth g fo fs r0) Q) (hp : ∀ d r1, fo r0 = .ok d r1 → p d = true) : tBM K T r (tE J fo) (tA J fs) σ H Q := by
  refine ⟨M, r0, I, ?_⟩
  unfold meth at h
  cases e1 : fo r0 with
  | ok d r1 =>
    rw [e1] at h
    have hpd := hp d r1 e1
    intro v M1 H1 st1 I1 rd1
    refine ⟨hT M1 H1 d v hpd rd1, M1, r1, I1, Out.bind (Out.step st1 h) fun ds r2 vs M2 H2 st2 I2 rd2 h2 => ?_⟩
    cases eg : g d ds with
    | none => rw [eg] at h2; exact h2.elim
    | some y =>
      rw [eg] at h2
      exact hr M2 H2 d ds v vs y Q I2.md hpd eg (Rep.step st2 I1.md _ _ rd1) rd2 fun w H' ex q => h2 w M2 H' (Step.ext ex) (I2.ext ex) q
  | exn x r1 => rw [e1] at h; exact h
  | bad => rw [e1] at h; exact h.elim
def isL : D → Bool
  | .lst _ => true
  | _ => false
def isT : D → Bool
  | .tup _ => true
  | _ => false
theorem tyL {K : PySem.W.Frag} {G : Gm} : ∀ M H o vx, isL o = true → Rep G M H o vx → tyV K "list" vx H := fun M H o vx h r => by
  cases o with
  | lst xs => obtain ⟨a, vs, rfl, n, ha, _⟩ := r; exact .inl ⟨rfl, vs, SqL.of ha⟩
  | _ => cases h
theorem index_facts {G : Gm} {M : Addr → Prop} {H : Hp} {xs : List D} {y : D} {vs : List V} {vy : V} (hx : xs.all (okd 20) = true) (hy : okd 20 y = true) (rx : RepL G M H xs vs) (ry : Rep G M H y vy) : Facts H G.K vy (toPy y) vs (toPyL xs) := by
  have p1 := plainAll_of xs 20 hx
  have p2 := plain_of y 20 hy
  exact ⟨dpAll_of G M H xs 20 vs hx rx, dp_of G M H y 20 vy hy ry, p1.1, p2.1, by omega⟩
theorem toPyL_get {xs : List D} {j : Nat} : (toPyL xs)[j]? = (xs[j]?).map toPy := by rw [toPyL_eq, List.getElem?_map]
theorem okd_get {xs : List D} {j : Nat} {z : D} (hx : xs.all (okd 20) = true) (h : xs[j]? = some z) : okd 20 z = true := List.all_eq_true.mp hx z (List.mem_of_getElem? h)
theorem index_py {xs : List D} {y : D} {j : Nat} (hx : xs.all (okd 20) = true) (hy : okd 20 y = true) (h : idxOf y xs = some j) : ∃ z, (toPyL xs)[j]? = some z ∧ PyData.eqv z (toPy y) = true ∧ ∀ (m : Nat) (z' : PyData), m < j → (toPyL xs)[m]? = some z' → PyData.eqv z' (toPy y) = false := by
  obtain ⟨⟨z, hz, ez⟩, hno⟩ := idxOf_some h
  refine ⟨toPy z, by rw [toPyL_get, hz]; rfl, by rw [eqv_py z y 20 20 (okd_get hx hz) hy]; exact ez, fun m z' hm hz' => ?_⟩
  rw [toPyL_get, Option.map_eq_some_iff] at hz'
  obtain ⟨w, hw, rfl⟩ := hz'
  rw [eqv_py w y 20 20 (okd_get hx hw) hy]
  exact hno m w hm hw
theorem bmd_indexL {G : Gm} : BmD G "list" isL (rIndexP G.K (SqL G.K)) gIndex := by
  intro M H o ds vx vs d Q md hp e ro rd q
  cases o with
  | lst xs =>
    obtain ⟨a, ws, rfl, n, ha, rl⟩ := ro
    match ds, vs, rd, e with
    | [y], _, ⟨vy, _, rfl, ry, e2⟩, e =>
      cases e2
      simp only [gIndex] at e
      split at e
      · rename_i hk
        rw [Bool.and_eq_true] at hk
        rw [Option.map_eq_some_iff] at e
        obtain ⟨j, hj, rfl⟩ := e
        obtain ⟨z, h1, h2, h3⟩ := index_py hk.1 hk.2 hj
        exact ⟨a, vy, toPy y, toPyL xs, ws, j, z, rfl, rfl, SqL.of ha, index_facts hk.1 hk.2 rl ry, h1, h2, h3, q _ H (fun _ _ h => h) rfl⟩
      · cases e
    | [], _, _, e => cases e
    | _ :: _ :: _, _, _, e => cases e
  | _ => cases hp
theorem bmd_indexT {G : Gm} : BmD G "tuple" isT (rIndexP G.K (SqT G.K)) gIndex := by
  intro M H o ds vx vs d Q md hp e ro rd q
  cases o with
  | tup xs =>
    obtain ⟨a, ws, rfl, ha', rl⟩ := ro
    have ha := ha'.sqt
    match ds, vs, rd, e with
    | [y], _, ⟨vy, _, rfl, ry, e2⟩, e =>
      cases e2
      simp only [gIndex] at e
      split at e
      · rename_i hk
        rw [Bool.and_eq_true] at hk
        rw [Option.map_eq_some_iff] at e
        obtain ⟨j, hj, rfl⟩ := e
        obtain ⟨z, h1, h2, h3⟩ := index_py hk.1 hk.2 hj
        exact ⟨a, vy, toPy y, toPyL xs, ws, j, z, rfl, rfl, ha, index_facts hk.1 hk.2 rl ry, h1, h2, h3, q _ H (fun _ _ h => h) rfl⟩
      · cases e
    | [], _, _, e => cases e
    | _ :: _ :: _, _, _, e => cases e
  | _ => cases hp
end
end DL

set_option Elab.async false
set_option linter.all false
set_option maxRecDepth 100000
set_option maxHeartbeats 4000000
/-! slots that are forgotten; several names at once, some of them owned; index and count -/
namespace DL
open PySem L2 PyProof.Rows

/-! ### a slot is forgotten -/
section
variable {J : Jx} {M : Addr → Prop} {r : List Sl} {σ : L2.St} {H : Hp}
theorem SI.forget1 (I : SI J M r σ H) (i : Nat) : SI J M (r.set i .un) σ H := by
  refine ⟨I.md, I.m0, I.io0, I.keep, by rw [List.length_set]; exact I.len, fun j s e => ?_, fun j k s t a e1 e2 h1 h2 h3 h4 => ?_⟩
  · rw [List.getElem?_set] at e
    by_cases hj : i = j
    · subst hj
      rw [if_pos rfl] at e
      split at e
      · cases e; trivial
      · cases e
    · rw [if_neg hj] at e
      exact I.slot j s e
  · have pick : ∀ (j : Nat) t, (r.set i Sl.un)[j]? = some t → t.owned = true → r[j]? = some t := fun j t e h => by
      rw [List.getElem?_set] at e
      by_cases hj : i = j
      · subst hj
        rw [if_pos rfl] at e
        split at e
        · cases e; cases h
        · cases e
      · rw [if_neg hj] at e; exact e
    exact I.dist j k s t a (pick j s e1 h1) (pick k t e2 h2) h1 h2 h3 h4
theorem SI.forget (I : SI J M r σ H) : ∀ vs : List Nat, SI J M (wipeR r vs) σ H
  | [] => I
  | v :: vs => (SI.forget I vs).forget1 v
end
/-- f, and the slots vs are forgotten -/
def skl (vs : List Nat) (f : List Sl → RS) : List Sl → RS := fun r => match f r with
  | .nx r1 => .nx (wipeR r1 vs)
  | .ct r1 => .ct (wipeR r1 vs)
  | x => x
theorem skl_core {J : Jx} {vs : List Nat} {f : List Sl → RS} {E : Ends} {σ : L2.St} {H : Hp} (h : tS J (skl vs f) E σ H) : tS J f E σ H := by
  obtain ⟨M, r, I, h⟩ := h
  refine ⟨M, r, I, ?_⟩
  unfold skl at h
  cases e : f r with
  | nx r1 => rw [e] at h; exact fun M' σ' H' st I' => h M' σ' H' st (I'.forget vs)
  | ct r1 => rw [e] at h; exact fun M' σ' H' st I' => h M' σ' H' st (I'.forget vs)
  | _ => rw [e] at h; exact h
theorem s_kl {X : Cx} {J : Jx} {st : Stmt} {f : List Sl → RS} (vs : List Nat) (h : PS X st (tS J f)) : PS X st (tS J (skl vs f)) := PSi h fun E σ H q => skl_core q
theorem ss_kl {X : Cx} {J : Jx} {st : List Stmt} {f : List Sl → RS} (vs : List Nat) (h : PSs X st (tS J f)) : PSs X st (tS J (skl vs f)) := PSsi h fun E σ H q => skl_core q

/-! ### values, some of them new owned objects -/
def MixL (J : Jx) (r : List Sl) (σ : L2.St) (M : Addr → Prop) (H : Hp) : List Bool → List D → List V → Prop
  | [], ds, vs => ds = [] ∧ vs = []
  | false :: ms, ds, vs => ∃ d ds' v vs', ds = d :: ds' ∧ vs = v :: vs' ∧ Rep J.G M H d v ∧ MixL J r σ M H ms ds' vs'
  | true :: ms, ds, vs => ∃ d ds' a vs', ds = d :: ds' ∧ vs = V.ref a :: vs' ∧ M a ∧ OwnAt J.G M H a d ∧ ¬ J.M0 a ∧ J.H0 a = none ∧ (∀ (j : Nat) s, r[j]? = some s → s.owned = true → σ[j]? ≠ some (some (.ref a))) ∧
      (∀ j : Nat, ms[j]? = some true → vs'[j]? ≠ some (V.ref a)) ∧ MixL J r σ M H ms ds' vs'
def RVm (J : Jx) (ms : List Bool) : List Sl → L2.St → (Addr → Prop) → Hp → List D → List V → Prop := fun r σ M H ds vs => MixL J r σ M H ms ds vs
abbrev tM (J : Jx) (ms : List Bool) (f : List Sl → RE (List D)) : TA := tX J (RVm J ms) f
/-- the object at p, which floats, stays while more is read -/
def Jx.hold (J : Jx) (p : Addr) (o : HO) : Jx := { J with M0 := fun b => J.M0 b ∨ b = p, H0 := fun b => if b = p then some o else J.H0 b }
/-- what parts behind a floating object may use -/
structure JH (J J' : Jx) : Prop where
  G : J'.G = J.G
  W : J'.W = J.W
  hx : J'.hx = J.hx
theorem JH.hold {J : Jx} {p : Addr} {o : HO} : JH J (J.hold p o) := ⟨rfl, rfl, rfl⟩
theorem JH.refl {J : Jx} : JH J J := ⟨rfl, rfl, rfl⟩
theorem JH.trans {J J' J2 : Jx} (a : JH J J') (b : JH J' J2) : JH J J2 := ⟨b.G.trans a.G, b.W.trans a.W, b.hx.trans a.hx⟩
theorem takes_h {Y : Cx} {J J' : Jx} (b : JH J J') (t : Takes Y J.W) : Takes Y J'.W := by rw [b.W]; exact t
section
variable {J : Jx} {M M' : Addr → Prop} {r : List Sl} {σ : L2.St} {H H' : Hp}
theorem SI.toHold {p : Addr} {o : HO} (I : SI J M r σ H) (m : M p) (h : H p = some o) (h0 : J.H0 p = none) (hio : J.io ≠ some p) (fl : ∀ (j : Nat) s, r[j]? = some s → s.owned = true → σ[j]? ≠ some (some (.ref p))) : SI (J.hold p o) M r σ H :=
  let z := I.toBlk m h h0 hio fl
  ⟨z.md, z.m0, z.io0, z.keep, z.len, fun i s hs => by
    have q := z.slot i s hs
    cases s with
    | un => trivial
    | val d => exact q
    | own d => exact q
    | io d => exact q
    | xc x => exact q, z.dist⟩
theorem SI.ofHold {p : Addr} {o : HO} (I : SI (J.hold p o) M r σ H) (h0 : J.H0 p = none) (hio : ∀ a, J.io = some a → J.M0 a) : SI J M r σ H :=
  SI.ofBlk (J := J) (p := p) (o := o) ⟨I.md, I.m0, I.io0, I.keep, I.len, fun i s hs => by
    have q := I.slot i s hs
    cases s with
    | un => trivial
    | val d => exact q
    | own d => exact q
    | io d => exact q
    | xc x => exact q, I.dist⟩ h0 hio
theorem MixL.ofHold {p : Addr} {o : HO} (h0 : J.H0 p = none) : ∀ {ms : List Bool} {ds : List D} {vs : List V}, MixL (J.hold p o) r σ M H ms ds vs → MixL J r σ M H ms ds vs ∧ ∀ j : Nat, ms[j]? = some true → vs[j]? ≠ some (V.ref p)
  | [], _, _, h => ⟨⟨h.1, h.2⟩, fun j e => by simp at e⟩
  | false :: ms, _, _, ⟨d, ds', v, vs', e1, e2, q, h⟩ => by
    have z := MixL.ofHold h0 h
    refine ⟨⟨d, ds', v, vs', e1, e2, q, z.1⟩, fun j e => ?_⟩
    subst e2
    cases j with
    | zero => cases e
    | succ j => exact z.2 j e
  | true :: ms, _, _, ⟨d, ds', a, vs', e1, e2, m, q, n0, ha, fl, dis, h⟩ => by
    have z := MixL.ofHold h0 h
    have ne : a ≠ p := fun e => n0 (.inr e)
    have ha' : (if a = p then some o else J.H0 a) = none := ha
    rw [if_neg ne] at ha'
    refine ⟨⟨d, ds', a, vs', e1, e2, m, q, fun h => n0 (.inl h), ha', fl, dis, z.1⟩, fun j e => ?_⟩
    subst e2
    cases j with
    | zero => intro w; exact ne (by cases w; rfl)
    | succ j => exact z.2 j e
theorem MixL.ext (e : Extn H H') (md : MD M H) : ∀ {ms : List Bool} {ds : List D} {vs : List V}, MixL J r σ M H ms ds vs → MixL J r σ M H' ms ds vs
  | [], _, _, h => ⟨h.1, h.2⟩
  | false :: ms, _, _, ⟨d, ds', v, vs', e1, e2, q, h⟩ => ⟨d, ds', v, vs', e1, e2, Rep.step (Step.ext e) md _ _ q, MixL.ext e md h⟩
  | true :: ms, _, _, ⟨d, ds', a, vs', e1, e2, m, q, n0, ha, fl, dis, h⟩ => by
    obtain ⟨u, hu⟩ := md.some m
    exact ⟨d, ds', a, vs', e1, e2, m, q.step (Step.ext e) md ((e a u hu).trans hu.symm), n0, ha, fl, dis, MixL.ext e md h⟩
/-- the names' slots, one after another -/
def putsR : List (Nat × Bool) → List D → List Sl → Option (List Sl)
  | [], [], r => some r
  | (i, b) :: is, d :: ds, r => putsR is ds (r.set i (if b = true then .own d else .val d))
  | _, _, _ => none
def putsσ : List (Nat × Bool) → List V → L2.St → L2.St
  | (i, _) :: is, v :: vs, σ => putsσ is vs (σ.set i (some v))
  | _, _, σ => σ
theorem MixL.moved {i : Nat} {s : Sl} {v : V} (hs : s.owned = true → ∀ ds : List D, True) : ∀ {ms : List Bool} {ds : List D} {vs : List V}, (s.owned = true → ∀ j : Nat, ms[j]? = some true → vs[j]? ≠ some v) → MixL J r σ M H ms ds vs → MixL J (r.set i s) (σ.set i (some v)) M H ms ds vs
  | [], _, _, _, h => ⟨h.1, h.2⟩
  | false :: ms, _, _, hd, ⟨d, ds', w, vs', e1, e2, q, h⟩ => ⟨d, ds', w, vs', e1, e2, q, MixL.moved hs (fun ho j e => by subst e2; exact hd ho (j + 1) e) h⟩
  | true :: ms, _, _, hd, ⟨d, ds', a, vs', e1, e2, m, q, n0, ha, fl, dis, h⟩ => by
    refine ⟨d, ds', a, vs', e1, e2, m, q, n0, ha, fun j t e ho => ?_, dis, MixL.moved hs (fun ho j e => by subst e2; exact hd ho (j + 1) e) h⟩
    rw [List.getElem?_set] at e ⊢
    by_cases hj : i = j
    · subst hj
      rw [if_pos rfl] at e ⊢
      split at e
      · cases e
        split
        · intro w
          subst e2
          have w' : v = V.ref a := by injection w with w; injection w
          exact hd ho 0 rfl (by rw [w']; rfl)
        · intro w; cases w
      · cases e
    · rw [if_neg hj] at e ⊢
      exact fl j t e ho
theorem SI.puts : ∀ {is : List (Nat × Bool)} {ds : List D} {vs : List V} {r r' : List Sl} {σ : L2.St}, SI J M r σ H → MixL J r σ M H (is.map (·.2)) ds vs → putsR is ds r = some r' → SI J M r' (putsσ is vs σ) H
  | [], _, _, _, _, _, I, h, e => by
    obtain ⟨rfl, rfl⟩ := h
    cases e
    exact I
  | (i, false) :: is, _, _, _, _, _, I, ⟨d, ds', v, vs', e1, e2, q, h⟩, e => by
    subst e1 e2
    exact SI.puts (is := is) (I.set (i := i) q) (MixL.moved (i := i) (s := .val d) (fun _ _ => trivial) (fun ho => by cases ho) h) e
  | (i, true) :: is, _, _, _, _, _, I, ⟨d, ds', a, vs', e1, e2, m, q, n0, ha, fl, dis, h⟩, e => by
    subst e1 e2
    exact SI.puts (is := is) (I.setOwn (i := i) m q n0 ha fl) (MixL.moved (i := i) (s := .own d) (fun _ _ => trivial) (fun _ => dis) h) e
end
section
variable {X : Cx} {J : Jx} {e : Expr} {es : List Expr} {fe : List Sl → RE D} {fs : List Sl → RE (List D)} {ms : List Bool} {pos : Pos}
theorem m_nil : PA X [] (tM J [] anil) := PAi pa_nil fun σ H Q ⟨M, r, I, h⟩ => h [] M H Step.refl I ⟨rfl, rfl⟩
theorem m_val (ha : PE X e (tE J fe)) (hr : PA X es (tM J ms fs)) (hs : starEach (e :: es) X.env = (false, eval e X.env) :: starEach es X.env := by rfl) : PA X (e :: es) (tM J (false :: ms) (acons fe fs)) :=
  PAi (pa_cons ha hr hs) fun σ H Q ⟨M, r, I, h⟩ => ⟨M, r, I, Out.bind h fun d r1 v M1 H1 st1 I1 rd1 h1 => ⟨M1, r1, I1, Out.bind h1 fun ds r2 vs M2 H2 st2 I2 rds h2 => h2 (v :: vs) M2 H2 Step.refl I2 ⟨d, ds, v, vs, rfl, rfl, Rep.step st2 I1.md _ _ rd1, rds⟩⟩⟩
theorem PAex {t : Jx → TA} (h : ∀ J', JH J J' → PA X es (t J')) : PA X es (fun σ H Q => ∃ J', JH J J' ∧ t J' σ H Q) := ⟨fun p pins s σ H Q I ⟨J', b, q⟩ => (h J' b).run p pins s σ H Q I q⟩
theorem OwnAt.any {G : Gm} {M : Addr → Prop} {H : Hp} {a : Addr} : ∀ {d : D}, OwnAt G M H a d → ∃ o, H a = some o
  | .lst xs, ⟨vs, h, r⟩ => ⟨_, h⟩
  | .dct ks ds, ⟨vs, h, r⟩ => h.some
  | .ob c ns ds, ⟨C, dx, vs, hc, h, l, r⟩ => ⟨_, h⟩
theorem m_own (ha : PE X e (tN J fe)) (hr : ∀ J', JH J J' → PA X es (tM J' ms fs)) (hs : starEach (e :: es) X.env = (false, eval e X.env) :: starEach es X.env := by rfl) : PA X (e :: es) (tM J (true :: ms) (acons fe fs)) :=
  PAi (pa_cons ha (PAex hr) hs) fun σ H Q ⟨M, r, I, h⟩ => ⟨M, r, I, Out.bind h fun d r1 v M1 H1 st1 I1 ⟨p, ev, m, own, n0, h0, fl⟩ h1 => by
    subst ev
    obtain ⟨o, ho⟩ := own.any
    have hio : J.io ≠ some p := fun e => n0 (I1.io0 p e)
    refine ⟨J.hold p o, .hold, M1, r1, I1.toHold m ho h0 hio fl, ?_⟩
    have io0 := I1.io0
    have fin : ∀ ds r2 vs M2 H2, Step M1 H1 M2 H2 → SI (J.hold p o) M2 r2 σ H2 → MixL (J.hold p o) r2 σ M2 H2 ms ds vs → Out J (RVm J (true :: ms)) M2 H2 σ (.ok (d :: ds) r2) Q → Q (V.ref p :: vs) H2 := fun ds r2 vs M2 H2 st2 I2 rds h2 => by
      have hp2 : H2 p = some o := I2.keep p o (by show (if p = p then some o else J.H0 p) = some o; rw [if_pos rfl]) hio
      obtain ⟨z1, z2⟩ := MixL.ofHold h0 rds
      refine h2 _ M2 H2 Step.refl (I2.ofHold h0 io0) ⟨d, ds, p, vs, rfl, rfl, I2.m0 p (.inr rfl), own.step st2 I1.md (hp2.trans ho.symm), n0, h0, ?_, z2, z1⟩
      intro j s hs ho' e
      have q := I2.slot j s hs
      cases s with
      | own d => obtain ⟨a, ea, ma, oa, n0', _⟩ := q; rw [e] at ea; cases ea; exact n0' (.inr rfl)
      | io d => obtain ⟨a, ea, ma, oa, hh⟩ := q; rw [e] at ea; cases ea; exact hio hh
      | un => cases ho'
      | val d => cases ho'
      | xc x => cases ho'
    cases e2 : fs r1 with
    | ok ds r2 => rw [e2] at h1; exact fun vs M2 H2 st2 I2 rds => fin ds r2 vs M2 H2 st2 I2 rds (Out.step st2 h1)
    | exn x r2 => rw [e2] at h1; exact fun cls dd M2 H2 st2 I2 rx => h1 cls dd M2 H2 st2 (I2.ofHold h0 io0) rx
    | bad => rw [e2] at h1; exact h1.elim⟩
/-- several names at once -/
def smix (is : List (Nat × Bool)) (fs : List Sl → RE (List D)) : List Sl → RS := fun r => (fs r).s fun ds r1 => match putsR is ds r1 with
  | some r2 => .nx r2
  | none => .bad
theorem MixL.len {r : List Sl} {σ : L2.St} {M : Addr → Prop} {H : Hp} : ∀ {ms : List Bool} {ds : List D} {vs : List V}, MixL J r σ M H ms ds vs → vs.length = ms.length
  | [], _, _, h => by rw [h.2]; rfl
  | false :: ms, _, _, ⟨d, ds', v, vs', e1, e2, q, h⟩ => by rw [e2]; simp [h.len]
  | true :: ms, _, _, ⟨d, ds', a, vs', e1, e2, m, q, n0, ha, fl, dis, h⟩ => by rw [e2]; simp [h.len]
theorem smix_core {is : List (Nat × Bool)} {E : Ends} {M : Addr → Prop} {H : Hp} {σ : L2.St} {r1 : List Sl} {ds : List D} {vs : List V} (I : SI J M r1 σ H) (q : MixL J r1 σ M H (is.map (·.2)) ds vs) (h : OutS J M H (match putsR is ds r1 with
  | some r2 => .nx r2
  | none => .bad) E) : E.nx (putsσ is vs σ) H := by
  cases e : putsR is ds r1 with
  | none => rw [e] at h; exact h.elim
  | some r2 => rw [e] at h; exact h M _ H Step.refl (I.puts q e)
theorem s_mix2 (i j : Nat) (bi bj : Bool) {x y : Str} {a b : Expr} {px py pt : Pos} {kt k2 : Nat} {pt2 : Pos} (hc : X.calm = true) (hN : X.N.Nodup) (ha : PA X [a, b] (tM J [bi, bj] fs)) (hi : X.N[i]? = some x := by rfl) (hj : X.N[j]? = some y := by rfl) (hij : i ≠ j := by decide)
    (hx : X.env.scope.names.lookup x = some .local := by rfl) (hy : X.env.scope.names.lookup y = some .local := by rfl)
    (hw : swappedStores [.Tuple [.Name x px, .Name y py] kt pt] (.Tuple [a, b] k2 pt2) X.env = pure (some [x, y]) := by rfl)
    (hs : swapsWithSole [.Tuple [.Name x px, .Name y py] kt pt] (.Tuple [a, b] k2 pt2) pos.line X.env = pure false := by rfl) : PS X (.Assign [.Tuple [.Name x px, .Name y py] kt pt] (.Tuple [a, b] k2 pt2) pos) (tS J (smix [(i, bi), (j, bj)] fs)) :=
  PSi (ps_par hc hN hi hj hij hx hy ha hw hs) fun E σ H ⟨M, r, I, h⟩ => ⟨M, r, I, Out.s h fun d r1 v M1 H1 st1 I1 rd1 h1 => by
    match v, rd1.len, rd1, h1 with
    | [v1, v2], _, rd1, h1 => exact ⟨v1, v2, rfl, smix_core (is := [(i, bi), (j, bj)]) I1 rd1 h1⟩⟩
theorem s_mix3 (i j l : Nat) (bi bj bl : Bool) {x y z : Str} {a b c : Expr} {px py pz pt : Pos} {kt k2 : Nat} {pt2 : Pos} (hc : X.calm = true) (hN : X.N.Nodup) (ha : PA X [a, b, c] (tM J [bi, bj, bl] fs)) (hi : X.N[i]? = some x := by rfl) (hj : X.N[j]? = some y := by rfl) (hl : X.N[l]? = some z := by rfl) (hij : i ≠ j := by decide) (hil : i ≠ l := by decide) (hjl : j ≠ l := by decide)
    (hx : X.env.scope.names.lookup x = some .local := by rfl) (hy : X.env.scope.names.lookup y = some .local := by rfl) (hz : X.env.scope.names.lookup z = some .local := by rfl)
    (hw : swappedStores [.Tuple [.Name x px, .Name y py, .Name z pz] kt pt] (.Tuple [a, b, c] k2 pt2) X.env = pure (some [x, y, z]) := by rfl)
    (hs : swapsWithSole [.Tuple [.Name x px, .Name y py, .Name z pz] kt pt] (.Tuple [a, b, c] k2 pt2) pos.line X.env = pure false := by rfl) : PS X (.Assign [.Tuple [.Name x px, .Name y py, .Name z pz] kt pt] (.Tuple [a, b, c] k2 pt2) pos) (tS J (smix [(i, bi), (j, bj), (l, bl)] fs)) :=
  PSi (ps_par3 hc hN hi hj hl hij hil hjl hx hy hz ha hw hs) fun E σ H ⟨M, r, I, h⟩ => ⟨M, r, I, Out.s h fun d r1 v M1 H1 st1 I1 rd1 h1 => by
    match v, rd1.len, rd1, h1 with
    | [v1, v2, v3], _, rd1, h1 => exact ⟨v1, v2, v3, rfl, smix_core (is := [(i, bi), (j, bj), (l, bl)]) I1 rd1 h1⟩⟩
/-- plain names as targets, by values -/
inductive Nms (X : Cx) : List Expr → List Nat → Prop where
  | nil : Nms X [] []
  | cons {x : Str} {p : Pos} {es : List Expr} {i : Nat} {is : List Nat} (hi : X.N[i]? = some x) (hx : Loc X.env.scope x) (hf : X.fn x = true ∨ X.env.scope.names.lookup x = some .local) (hs : (assignEach (.Name x p :: es) X.env).map (·.2) = assign (.Name x p) X.env :: (assignEach es X.env).map (·.2)) (r : Nms X es is) : Nms X (.Name x p :: es) (i :: is)
theorem nm_cons (i : Nat) {x : Str} {p : Pos} {es : List Expr} {is : List Nat} (r : Nms X es is) (hi : X.N[i]? = some x := by rfl) (hx : Loc X.env.scope x := by first | exact Or.inl rfl | exact Or.inr rfl) (hf : X.fn x = true ∨ X.env.scope.names.lookup x = some .local := by first | exact .inl rfl | exact .inr rfl)
    (hs : (assignEach (.Name x p :: es) X.env).map (·.2) = assign (.Name x p) X.env :: (assignEach es X.env).map (·.2) := by rfl) : Nms X (.Name x p :: es) (i :: is) := .cons hi hx hf hs r
def setsσ : List Nat → List V → L2.St → L2.St
  | i :: is, v :: vs, σ => setsσ is vs (σ.set i (some v))
  | _, _, σ => σ
def tNms (is : List Nat) : TGs := fun vs σ H Q => vs.length = is.length ∧ Q (setsσ is vs σ) H
theorem pgs_nms (hN : X.N.Nodup) : ∀ {es : List Expr} {is : List Nat}, Nms X es is → PGs X es (tNms is)
  | _, _, .nil => ⟨fun pins s σ H vs us Q I r ⟨hl, q⟩ => pgs_nil.run pins s σ H vs us Q I r (by
      cases vs with
      | nil => exact ⟨rfl, q⟩
      | cons v vs => cases hl)⟩
  | _, _, .cons hi hx hf hs r => ⟨fun pins s σ H vs us Q I rv ⟨hl, q⟩ => (pgs_cons (pg_name hN hi hx hf) (pgs_nms hN r) hs).run pins s σ H vs us Q I rv (by
      cases vs with
      | nil => cases hl
      | cons v vs => exact ⟨v, vs, rfl, by simpa using hl, q⟩)⟩
theorem sets_puts : ∀ {is : List (Nat × Bool)} {vs : List V} {σ : L2.St}, setsσ (is.map (·.1)) vs σ = putsσ is vs σ
  | [], vs, σ => by cases vs <;> rfl
  | (i, b) :: is, [], σ => rfl
  | (i, b) :: is, v :: vs, σ => sets_puts (is := is) (vs := vs) (σ := σ.set i (some v))
/-- .. by a tuple that is made -/
theorem s_mixT (is : List (Nat × Bool)) {ts : List Expr} {kt k2 : Nat} {pt pt2 : Pos} (hc : X.calm = true) (hN : X.N.Nodup) (nm : Nms X ts (is.map (·.1))) (ha : PA X es (tM J (is.map (·.2)) fs)) (hlim : is.length ≤ LIM := by decide)
    (hn : (assignEach ts X.env).length = is.length := by rfl) (hst : (assignEach ts X.env).findIdx? (·.1) = none := by rfl)
    (hs : swapsWithSole [.Tuple ts kt pt] (.Tuple es k2 pt2) pos.line X.env = pure false := by rfl) (hw : swappedStores [.Tuple ts kt pt] (.Tuple es k2 pt2) X.env = pure none := by rfl) (h1 : (assignEach [.Tuple ts kt pt] X.env).map (·.2) = [assign (.Tuple ts kt pt) X.env] := by rfl) :
    PS X (.Assign [.Tuple ts kt pt] (.Tuple es k2 pt2) pos) (tS J (smix is fs)) :=
  PSi (ps_asg (pe_tupF ha) (pg_tup hc (pgs_nms hN nm) hn hst) hs hw h1) fun E σ H ⟨M, r, I, h⟩ => ⟨M, r, I, Out.s h fun d r1 v M1 H1 st1 I1 rd1 h1 => by
    have hlen := rd1.len
    rw [List.length_map] at hlen
    refine ⟨by rw [hlen]; exact le_size hlim, fun p o hp ho => ?_⟩
    have ex : Extn H1 (upd H1 p (.frz o (.tup v))) := ext_new hp
    refine ⟨p, v, rfl, .inl (.inr ⟨o, upd_same⟩), by rw [hlen], by rw [List.length_map]; exact hlen, ?_⟩
    rw [sets_puts]
    exact smix_core (I1.ext ex) (rd1.ext ex I1.md) (OutS.step (Step.ext ex) h1)⟩
end

/-! ### == and isinstance of own classes, as the top has written them -/
structure NeOk (K : PySem.W.Frag) (mg : Str → Option Value) (c : Str) : Prop where
  ex : ∃ C, mg c = some (.ref C) ∧ PySem.W.findIn K (.ref C) "__ne__" = some (some (.builtin "object.__ne__")) ∧ PySem.W.mroIn K C (.type "object") = some true
theorem hasEq_of {P : Program} {w : World} {K : PySem.W.Frag} {mg : Str → Option Value} {base : Heap} {k : Nat} {c : Str} {F : List D → RF} (h : HasM P w K mg base k c "__eq__" ["self", "other"] (spP ⟨K, mg⟩ F)) (n : NeOk K mg c) : HasEq P w K mg base k c F := by
  obtain ⟨C, f, fd, hC, cl, hm, Fk, hb⟩ := h.ex
  obtain ⟨C', hC', h1, h2⟩ := n.ex
  rw [hC] at hC'
  cases hC'
  exact ⟨C, f, fd, hC, hm.at_, hm.fn, h1, h2, Fk, hb⟩
theorem kit_no {K : PySem.W.Frag} {C : Addr} {t : String} (h : t ∈ tyAll) (hc : PySem.W.isClsIn K C = true) (ht : PySem.W.typeIn K (.ref C) = some (.type "type")) : PySem.W.kitOne K (.type t) (.ref C) = some false := by
  have e : ((Value.type t) == (Value.ref C)) = false := rfl
  have hc' : (PySem.W.clsIn K C).isSome = true := hc
  have ht' : (PySem.W.typeIn K (.ref C) == some (.type "type")) = true := by rw [ht]; exact beq_self_eq_true _
  show (if ((Value.type t) == (Value.ref C)) = true then some true else if ((PySem.W.clsIn K C).isSome && PySem.W.typeIn K (.ref C) == some (.type "type")) = true then PySem.W.subIn K (.type t) (.ref C) else none) = some false
  rw [e, hc', ht']
  exact sub_no (K := K) h
theorem isC_mk1 {K : PySem.W.Frag} {mg : Str → Option Value} {c : Str} {C : Addr} (hC : mg c = some (.ref C)) (cl : Cls K C) (hc : PySem.W.isClsIn K C = true) (ht : PySem.W.typeIn K (.ref C) = some (.type "type")) (h1 : PySem.W.findIn K (.ref C) "__class__" = some (some (.builtin "object.__class__")))
    (h2 : PySem.W.specialIn K (.builtin "object.__class__") "__get__" = some (some (.builtin "getset_descriptor.__get__"))) (h3 : PySem.W.takesIn K (.builtin "object.__class__") = some true) (h4 : PySem.W.mroIn K C (.type "object") = some true) : IsC K mg c (fun x => ([(c, true)] : List (Str × Bool)).lookup x) := by
  refine ⟨C, hC, fun t h => kit_no h hc ht, fun c' b hb => ?_⟩
  have e : c' = c ∧ b = true := by
    have hb' : List.lookup c' [(c, true)] = some b := hb
    by_cases q : c' = c
    · subst q; simp [List.lookup] at hb'; exact ⟨rfl, hb'⟩
    · have : (c' == c) = false := by simpa using q
      simp [List.lookup, this] at hb'
  obtain ⟨rfl, rfl⟩ := e
  exact ⟨C, hC, cl, h1, h2, h3, h4, by unfold PySem.W.kitOne; rw [if_pos (beq_self_eq_true _)]⟩

/-! ### constants of the module -/
section
variable {X : Cx} {J : Jx} {c : Str} {pos : Pos}
theorem e_gi {i : Int} (T : ∃ u, X.mg c = some u ∧ RelV (.int i) u) (hg : Gl X c := by rfl) (hd : (c == ("__debug__" : Str)) = false := by decide) : PE X (.Name c pos) (tE J (cst (.int i))) := by
  obtain ⟨u, h1, h2⟩ := T
  exact e_glob hg h1 h2 (fun _ _ => rfl) hd
theorem e_gs {i : Str} (T : ∃ u, X.mg c = some u ∧ RelV (.str i) u) (hg : Gl X c := by rfl) (hd : (c == ("__debug__" : Str)) = false := by decide) : PE X (.Name c pos) (tE J (cst (.str i))) := by
  obtain ⟨u, h1, h2⟩ := T
  exact e_glob hg h1 h2 (fun _ _ => rfl) hd
end

/-! ### index, count -/
def methP (p : D → Bool) (g : D → List D → Option D) (fo : List Sl → RE D) (fs : List Sl → RE (List D)) : List Sl → RE D := fun r => (fo r).bind fun o r1 => if p o = true then (fs r1).bind fun ds r2 => liftO (g o ds) r2 else .bad
def isSq : D → Bool
  | .lst _ => true
  | .tup _ => true
  | _ => false
section
variable {X : Cx} {J : Jx} {o e : Expr} {es : List Expr} {fo f : List Sl → RE D} {fs : List Sl → RE (List D)} {apos cpos : Pos} {name : Str} {id T : String} {r : V → List V → Hp → VK → Prop} {g : D → List D → Option D} {p : D → Bool}
theorem bmP_core {K : PySem.W.Frag} (hT : ∀ M H o vx, p o = true → Rep J.G M H o vx → tyV K T vx H) (hr : BmD J.G T p r g) {σ : L2.St} {H : Hp} {Q : VK} (h : tE J (methP p g fo fs) σ H Q) : tBM K T r (tE J fo) (tA J fs) σ H Q := by
  obtain ⟨M, r0, I, h⟩ := h
  refine ⟨M, r0, I, Out.bind h fun d r1 v M1 H1 st1 I1 rd1 h1 => ?_⟩
  split at h1
  · rename_i hp
    refine ⟨hT M1 H1 d v hp rd1, M1, r1, I1, Out.bind h1 fun ds r2 vs M2 H2 st2 I2 rd2 h2 => ?_⟩
    cases eg : g d ds with
    | none => rw [eg] at h2; exact h2.elim
    | some y =>
      rw [eg] at h2
      exact hr M2 H2 d ds v vs y Q I2.md hp eg (Rep.step st2 I1.md _ _ rd1) rd2 fun w H' ex q => h2 w M2 H' (Step.ext ex) (I2.ext ex) q
  · exact h1.elim
theorem bmSq_core (hK : X.K = J.G.K) {rl rt : V → List V → Hp → VK → Prop} (hl : BmD J.G "list" isL rl g) (ht : BmD J.G "tuple" isT rt g) {σ : L2.St} {H : Hp} {Q : VK} (h : tE J (methP isSq g fo fs) σ H Q) :
    tBM X.K "list" rl (tE J fo) (tA J fs) σ H Q ∨ tTM X.K rt (tE J fo) (tA J fs) σ H Q := by
  obtain ⟨M, r0, I, h⟩ := h
  have key : ∀ {d r1}, fo r0 = .ok d r1 → ∀ v M1 H1, Step M H M1 H1 → SI J M1 r1 σ H1 → Rep J.G M1 H1 d v → Out J (RV J) M1 H1 σ (if isSq d = true then (fs r1).bind fun ds r2 => liftO (g d ds) r2 else .bad) Q → ∀ {rr : V → List V → Hp → VK → Prop} {pp : D → Bool} {T : String}, BmD J.G T pp rr g → pp d = true → isSq d = true → tA J fs σ H1 fun xs H2 => rr v xs H2 Q := by
    intro d r1 e v M1 H1 st1 I1 rd1 h1 rr pp T hb hp hq
    rw [if_pos hq] at h1
    refine ⟨M1, r1, I1, Out.bind h1 fun ds r2 vs M2 H2 st2 I2 rd2 h2 => ?_⟩
    cases eg : g d ds with
    | none => rw [eg] at h2; exact h2.elim
    | some y =>
      rw [eg] at h2
      exact hb M2 H2 d ds v vs y Q I2.md hp eg (Rep.step st2 I1.md _ _ rd1) rd2 fun w H' ex q => h2 w M2 H' (Step.ext ex) (I2.ext ex) q
  unfold methP at h
  cases e1 : fo r0 with
  | bad => rw [e1] at h; exact h.elim
  | exn x r1 => rw [e1] at h; exact .inl ⟨M, r0, I, by rw [e1]; exact h⟩
  | ok d r1 =>
    rw [e1] at h
    by_cases hl' : isL d = true
    · refine .inl ⟨M, r0, I, ?_⟩
      rw [e1]
      intro v M1 H1 st1 I1 rd1
      exact ⟨tyL M1 H1 d v hl' rd1, key e1 v M1 H1 st1 I1 rd1 (Out.step st1 h) hl hl' (by cases d <;> first | rfl | cases hl')⟩
    · by_cases ht' : isT d = true
      · refine .inr ⟨M, r0, I, ?_⟩
        rw [e1]
        intro v M1 H1 st1 I1 rd1
        refine ⟨?_, key e1 v M1 H1 st1 I1 rd1 (Out.step st1 h) ht ht' (by cases d <;> first | rfl | cases ht')⟩
        cases d with
        | tup xs => obtain ⟨a, vs, rfl, q, _⟩ := rd1; exact ⟨a, vs, rfl, hK ▸ q⟩
        | _ => cases ht'
      · exfalso
        have hs : ¬ isSq d = true := by cases d <;> simp_all [isSq, isL, isT]
        have h' : Out J (RV J) M H σ (if isSq d = true then (fs r1).bind fun ds r2 => liftO (g d ds) r2 else .bad) Q := h
        rw [if_neg hs] at h'
        exact h'
theorem e_index (hK : X.K = J.G.K) (hu : X.A.units + 64 < cLine) (ho : PE X o (tE J fo)) (ha : PA X (e :: es) (tA J fs))
    (hbase : attributeBase o "index" X.env (eval o X.env) = eval o X.env := by rfl)
    (hfew : ((backTo cpos (starEach (e :: es) X.env)).all (fun x => !x.1) && (backToKw cpos (keywordEach [] X.env)).all (fun x => x.1.isSome)
      && decide ((e :: es).length + ([] : List Keyword).length + (if ([] : List Keyword).isEmpty then 0 else 1) < 30)) = true := by rfl)
    (hline : (apos.endLine == cpos.line) = true := by rfl) (hs : starEach (e :: es) X.env = (false, eval e X.env) :: starEach es X.env := by rfl) (hplain : (backTo cpos (starEach es X.env)).any (·.1) = false := by rfl) :
    PE X (.Call (.Attribute o "index" apos) (e :: es) [] cpos) (tE J (methP isSq gIndex fo fs)) :=
  PEi (PEor (pe_bm PySem.F.plainAttrs_list PySem.F.slot_list_index PySem.F.type_list_index (hK ▸ mt_indexL hu) ho ha hbase hfew hline hs hplain) (pe_tm PySem.F.slot_tuple_index PySem.F.type_tuple_index (hK ▸ mt_indexT hu) ho ha hbase hfew hline hs hplain)) fun σ H Q h => bmSq_core hK bmd_indexL bmd_indexT h
def gCount : D → List D → Option D
  | .lst xs, [y] => if (xs.all (okd 20) && okd 20 y) = true then some (.int (xs.countP (fun z => z.eqb y) : Nat)) else none
  | .tup xs, [y] => if (xs.all (okd 20) && okd 20 y) = true then some (.int (xs.countP (fun z => z.eqb y) : Nat)) else none
  | _, _ => none
theorem count_py {y : D} (hy : okd 20 y = true) : ∀ {xs : List D}, xs.all (okd 20) = true → (toPyL xs).countP (fun z => PyData.eqv z (toPy y)) = xs.countP fun z => z.eqb y
  | [], _ => rfl
  | x :: xs, h => by
    rw [List.all_cons, Bool.and_eq_true] at h
    show (toPy x :: toPyL xs).countP _ = _
    rw [List.countP_cons, List.countP_cons, eqv_py x y 20 20 h.1 hy, count_py hy h.2]
theorem bmd_countL {G : Gm} : BmD G "list" isL (rCountP G.K (SqL G.K)) gCount := by
  intro M H o ds vx vs d Q md hp e ro rd q
  cases o with
  | lst xs =>
    obtain ⟨a, ws, rfl, n, ha, rl⟩ := ro
    match ds, vs, rd, e with
    | [y], _, ⟨vy, _, rfl, ry, e2⟩, e =>
      cases e2
      simp only [gCount] at e
      split at e
      · rename_i hk
        rw [Bool.and_eq_true] at hk
        cases e
        refine ⟨a, vy, toPy y, toPyL xs, ws, rfl, rfl, SqL.of ha, index_facts hk.1 hk.2 rl ry, ?_⟩
        rw [count_py hk.2 hk.1]
        exact q _ H (fun _ _ h => h) rfl
      · cases e
    | [], _, _, e => cases e
    | _ :: _ :: _, _, _, e => cases e
  | _ => cases hp
theorem bmd_countT {G : Gm} : BmD G "tuple" isT (rCountP G.K (SqT G.K)) gCount := by
  intro M H o ds vx vs d Q md hp e ro rd q
  cases o with
  | tup xs =>
    obtain ⟨a, ws, rfl, ha', rl⟩ := ro
    have ha := ha'.sqt
    match ds, vs, rd, e with
    | [y], _, ⟨vy, _, rfl, ry, e2⟩, e =>
      cases e2
      simp only [gCount] at e
      split at e
      · rename_i hk
        rw [Bool.and_eq_true] at hk
        cases e
        refine ⟨a, vy, toPy y, toPyL xs, ws, rfl, rfl, ha, index_facts hk.1 hk.2 rl ry, ?_⟩
        rw [count_py hk.2 hk.1]
        exact q _ H (fun _ _ h => h) rfl
      · cases e
    | [], _, _, e => cases e
    | _ :: _ :: _, _, _, e => cases e
  | _ => cases hp
theorem e_count (hK : X.K = J.G.K) (hu : X.A.units + 64 < cLine) (ho : PE X o (tE J fo)) (ha : PA X (e :: es) (tA J fs))
    (hbase : attributeBase o "count" X.env (eval o X.env) = eval o X.env := by rfl)
    (hfew : ((backTo cpos (starEach (e :: es) X.env)).all (fun x => !x.1) && (backToKw cpos (keywordEach [] X.env)).all (fun x => x.1.isSome)
      && decide ((e :: es).length + ([] : List Keyword).length + (if ([] : List Keyword).isEmpty then 0 else 1) < 30)) = true := by rfl)
    (hline : (apos.endLine == cpos.line) = true := by rfl) (hs : starEach (e :: es) X.env = (false, eval e X.env) :: starEach es X.env := by rfl) (hplain : (backTo cpos (starEach es X.env)).any (·.1) = false := by rfl) :
    PE X (.Call (.Attribute o "count" apos) (e :: es) [] cpos) (tE J (methP isSq gCount fo fs)) :=
  PEi (PEor (pe_bm PySem.F.plainAttrs_list PySem.F.slot_list_count PySem.F.type_list_count (hK ▸ mt_countL hu) ho ha hbase hfew hline hs hplain) (pe_tm PySem.F.slot_tuple_count PySem.F.type_tuple_count (hK ▸ mt_countT hu) ho ha hbase hfew hline hs hplain)) fun σ H Q h => bmSq_core hK bmd_countL bmd_countT h
end
end DL

set_option Elab.async false
set_option linter.all false
set_option maxRecDepth 100000
set_option maxHeartbeats 4000000
/-! a list or a tuple times a number -/
namespace DL
open PySem L2 PyProof.Rows
def rRepTF (K : PySem.W.Frag) : R2 := fun x y H Q => ∃ (l : Addr) (k : Int) (xs : List V), x = .ref l ∧ y = .int k ∧ SqT K H l xs ∧ xs ≠ [] ∧ 2 ≤ k ∧ k ≤ 1000 ∧ xs.length ≤ 1000 ∧ ∀ p o, H p = none → o.dict = none → Q (.ref p) (upd H p (.frz o (.tup (List.replicate k.toNat xs).flatten)))
theorem rep_len {α : Type} (xs : List α) (n : Nat) : (List.replicate n xs).flatten.length = n * xs.length := PyProof.Rows.lm_len_rep_flat ..
theorem op_repTF {X : Cx} : OpR X (binaryOp .Mult) (rRepTF X.K) := by
  intro pins st σ H x y vx vy Q I rx ry h
  obtain ⟨l, k, xs, ex, ey, hT, hne, h1, h2, hz, q⟩ := h
  subst ex ey
  cases rx
  obtain ⟨tk, et⟩ := ry
  subst et
  obtain ⟨its, rv, ⟨⟨cl, dd, data, sl⟩, ho, hcl, n, hdt⟩, hs⟩ := I.tuple hT
  simp only at hcl hdt
  subst hcl hdt
  have hlen : its.length = xs.length := rv.length.symm
  have hn : its ≠ [] := fun e => hne (List.eq_nil_of_length_eq_zero (by rw [← hlen, e]; rfl))
  have hemp : its.toArray.isEmpty = false := by cases its <;> first | exact absurd rfl hn | rfl
  have hsz : its.toArray.size = xs.length := by rw [List.size_toArray, hlen]
  have b1 : ((xs.length : Nat) : Int) * k ≤ 1000 * k := Int.mul_le_mul_of_nonneg_right (by omega) (by omega)
  have b2 : k.toNat * xs.length ≤ 1000 * 1000 := Nat.mul_le_mul (by omega) hz
  have hsl := sizeLine_eq
  have flen : (List.replicate k.toNat its).flatten.length ≤ sizeLine := by rw [rep_len, hlen]; omega
  have c0 : (decide (k < -(2 ^ 63)) || decide (k ≥ 2 ^ 63)) = false := by simp only [Bool.or_eq_false_iff, decide_eq_false_iff_not]; omega
  have c1 : (its.toArray.isEmpty || k == 1) = false := by rw [hemp, Bool.false_or]; exact beq_eq_false_iff_ne.mpr (by omega)
  have c2 : (decide (k ≤ 0) || its.toArray.isEmpty) = false := by rw [hemp, Bool.or_false]; exact decide_eq_false (by omega)
  have c3 : ¬ ((its.toArray.size : Nat) : Int) * k > (2 ^ 63 - 1) / 8 := by rw [hsz]; omega
  have c4 : Builtin.Tuple.tupleTooMany (((its.toArray.size : Nat) : Int) * k) = false := by unfold Builtin.Tuple.tupleTooMany; rw [hsl, hsz]; exact decide_eq_false (by omega)
  have c5 : (List.foldl (fun x1 x2 => x1 ++ x2) #[] (List.replicate k.toNat its.toArray)).size ≤ sizeLine := by rw [size_rep, List.size_toArray]; exact flen
  have fin : ∀ (m : Nat) (Z : Value → Shared → Prop), Z = (EP X pins σ Q) → Z (.ref st.heap.objs.size) { st with heap := st.heap.push { cls := Value.type "tuple", data := Data.seq (List.replicate k.toNat its).flatten.toArray m } } := by
    intro m Z eZ
    subst eZ
    exact ⟨.ref st.heap.objs.size, _, I.laid (t' := st.toks) (fun b ob e => Heap.get?_push_of_some _ e) (Nat.le_refl _) (frz_ok (Heap.get?_push_size _ rfl) (by rw [rep_len]; omega) (rv.rep k.toNat) rfl rfl), rfl, q _ _ (I.hok.fresh (Nat.le_refl _)) rfl⟩
  refine wpAny_binaryOp_repeat_ref (T := "tuple") (U := "int") (by decide) ⟨_, ho, rfl⟩ (fun z => typeIs_int z k tk) noFill_tuple_mul PySem.F.fills_int_mul PySem.F.slot_int_rmul repeat_tuple PySem.F.slot_int_index.lookup (call_meets PySem.F.slot_int_rmul (typeIs_int st k tk) PySem.F.entry_int_rmul (PySem.F.args_int_rmul_2 _ _) (int_rmul_tuple k tk l its.toArray n dd sl) ⟨ho, rfl, ⟨_, ho, rfl⟩, call_meets PySem.F.slot_tuple_mul ⟨_, ho, rfl⟩ PySem.F.entry_tuple_mul (PySem.F.args_tuple_mul_2 _ _) (tuple_mulW l its.toArray n dd sl k tk c0 c1 c2 c3 c4 c5) ⟨ho, ?_⟩⟩)
  rw [size_rep]
  exact fin _ _ rfl
def gRepT : D → D → Option D
  | .tup xs, .int k => if (!xs.isEmpty && decide (2 ≤ k) && decide (k ≤ 1000) && decide (xs.length ≤ 1000)) = true then some (.tup (List.replicate k.toNat xs).flatten) else none
  | _, _ => none
theorem rep_rep {G : Gm} {M : Addr → Prop} {H : Hp} {ds : List D} {vs : List V} (r : RepL G M H ds vs) : ∀ n, RepL G M H (List.replicate n ds).flatten (List.replicate n vs).flatten
  | 0 => rfl
  | n + 1 => by rw [List.replicate_succ, List.replicate_succ, List.flatten_cons, List.flatten_cons]; exact r.append (rep_rep r n)
theorem od_repT {G : Gm} : OpD G (rRepTF G.K) gRepT := by
  intro M H x y vx vy d Q md e rx ry q
  unfold gRepT at e
  split at e
  · split at e
    · rename_i xs k h
      simp only [Bool.and_eq_true, decide_eq_true_eq, Bool.not_eq_true'] at h
      cases e
      obtain ⟨a, vs, rfl, ha, r⟩ := rx.tup
      cases ry.int
      have hl := r.length
      refine ⟨a, k, vs, rfl, rfl, ha, fun e => ?_, h.1.1.2, h.1.2, by omega, fun p o hp ho => q _ _ (ext_new hp) (Rep.newTup ho hp md (rep_rep r _))⟩
      rw [r.nil_of e] at h
      simp at h
    · cases e
  · cases e
def gRepL : D → D → Option D
  | .lst xs, .int k => if (decide (-1000000000 ≤ k) && decide (k ≤ 1000000000) && decide (xs.length * k.toNat ≤ LIM)) = true then some (.lst (List.replicate k.toNat xs).flatten) else none
  | _, _ => none
theorem od_repL {G : Gm} : OpD G rRep gRepL := by
  intro M H x y vx vy d Q md e rx ry q
  unfold gRepL at e
  split at e
  · split at e
    · rename_i xs k h
      simp only [Bool.and_eq_true, decide_eq_true_eq] at h
      cases e
      obtain ⟨a, vs, rfl, ha, r⟩ := rx.lst
      cases ry.int
      have hl := r.length
      exact ⟨a, k, vs, rfl, rfl, ha, by omega, by omega, le_size (by rw [← hl]; exact h.2), fun p hp => q _ _ (ext_new hp) (Rep.newLst hp md (rep_rep r _))⟩
    · cases e
  · cases e
section
variable {X : Cx} {J : Jx} {a b : Expr} {fa fb : List Sl → RE D} {pos : Pos}
theorem e_repT (hK : X.K = J.G.K) (ha : PE X a (tE J fa)) (hb : PE X b (tB J fb)) : PE X (.BinOp a .Mult b pos) (tE J (bin gRepT fa fb)) := e_bin (hK ▸ op_repTF) od_repT ha hb
theorem e_repL (ha : PE X a (tE J fa)) (hb : PE X b (tB J fb)) : PE X (.BinOp a .Mult b pos) (tE J (bin gRepL fa fb)) := e_bin op_rep od_repL ha hb
end
end DL

set_option Elab.async false
set_option linter.all false
set_option maxRecDepth 100000
set_option maxHeartbeats 4000000
/-! dicts: new ones, those that change no more -/
namespace DL
open PySem L2
section
variable {J : Jx} {M : Addr → Prop} {r : List Sl} {σ : St} {H : Hp}
theorem new_dct {p : Addr} {kvs : List (Key × V)} {ks ds : List D} {Q : VK} (I : SI J M r σ H) (hp : H p = none) (ek : ks = kvs.map fun p => keyD p.1) (rd : RepL J.G M H ds (kvs.map (·.2)))
    (h : Out J (RO J) M H σ (.ok (.dct ks ds) r) Q) : Q (.ref p) (upd H p (.dK kvs)) := by
  obtain ⟨I', st, nm, n0, h0, fl⟩ := I.newOwn (o := .dK kvs) hp trivial
  exact h _ _ _ st I' ⟨p, rfl, .inr rfl, ⟨kvs.map (·.2), .inl ⟨kvs, upd_same, ek, rfl⟩, RepL.step st I.md _ _ rd⟩, n0, h0, fl⟩
/-- the owned dict of a name changes no more -/
theorem SI.lockAt {i : Nat} {ks ds : List D} (I : SI J M r σ H) (hi : r[i]? = some (.own (.dct ks ds))) (hk : ks.all isK = true) : ∃ a kvs, H a = some (.dK kvs) ∧
    ∀ od, SI J (fun b => M b ∧ b ≠ a) (r.set i (.val (.dct (.non :: ks) ds))) σ (upd H a (.frz od (.dK kvs))) ∧ Step M H (fun b => M b ∧ b ≠ a) (upd H a (.frz od (.dK kvs))) := by
  obtain ⟨a, e, m, ⟨vs, o, rl⟩, n0, h0⟩ := I.slot i _ hi
  obtain ⟨kvs, hd, ek, ev⟩ := dict_keys o hk
  refine ⟨a, kvs, hd, fun od => ?_⟩
  have st : Step M H (fun b => M b ∧ b ≠ a) (upd H a (.frz od (.dK kvs))) := ⟨fun b u h n => by rw [upd_ne (by rintro rfl; exact n m)]; exact h, fun b h => .inl h.1⟩
  refine ⟨?_, st⟩
  have hlt : i < σ.length := (List.getElem?_eq_some_iff.mp e).1
  have I1 : SI J M (r.set i .un) (σ.set i none) H := I.drop
  have I2 : SI J (fun b => M b ∧ b ≠ a) (r.set i .un) (σ.set i none) (upd H a (.frz od (.dK kvs))) := I1.step st
    (fun b h => by rw [upd_ne h.2]; exact I.md b h.1)
    (fun b h => ⟨I1.m0 b h, fun e => n0 (e ▸ h)⟩)
    (fun b u h n => by rw [upd_ne (by rintro rfl; rw [h0] at h; cases h)]; exact I1.keep b u h n)
    fun j s c hj hs hq => by
      have nj : i ≠ j := by
        rintro rfl
        rw [List.getElem?_set, if_pos rfl] at hj
        split at hj
        · cases hj; cases hs
        · cases hj
      have hj' := hj
      have hq' := hq
      rw [List.getElem?_set, if_neg nj] at hj' hq'
      have nc : c ≠ a := fun z => by subst z; exact nj (I.dist i j _ s c hi hj' rfl hs e hq')
      exact ⟨⟨(I1.slot j s hj).ownM hs hq, nc⟩, upd_ne nc⟩
  have R : Rep J.G (fun b => M b ∧ b ≠ a) (upd H a (.frz od (.dK kvs))) (.dct (.non :: ks) ds) (.ref a) :=
    ⟨a, vs, rfl, fun h => h.2 rfl, .inr (.inr ⟨od, kvs, upd_same, by rw [ek], ev⟩), RepL.step st I.md _ _ rl⟩
  have I3 := I2.set (i := i) R
  rw [List.set_set, List.set_set] at I3
  have es : σ.set i (some (.ref a)) = σ := by
    apply List.ext_getElem?
    intro j
    rw [List.getElem?_set]
    by_cases hij : i = j
    · subst hij; rw [if_pos rfl, if_pos hlt, e]
    · rw [if_neg hij]
  rw [es] at I3
  exact I3
end
/-- before the statement: the dict of name i changes no more -/
def sfz (i : Nat) (f : List Sl → RS) : List Sl → RS := fun r => match r[i]? with
  | some (.own (.dct ks ds)) => if ks.all isK = true then f (r.set i (.val (.dct (.non :: ks) ds))) else .bad
  | _ => .bad
def pairD : D → Option (D × D)
  | .tup [k, v] => if isK k = true then some (k, v) else none
  | _ => none
def pairsD : List D → Option (List (D × D))
  | [] => some []
  | d :: ds => (pairD d).bind fun p => (pairsD ds).map (p :: ·)
def putP (a p : List D × List D) : List D × List D := a
def foldP : List D → List D → List (D × D) → List D × List D
  | ks, ds, [] => (ks, ds)
  | ks, ds, p :: ps => foldP (pkS ks p.1) (pvS ks ds p.1 p.2) ps
/-- dict(list of pairs) -/
def gDict : D → Option (List D × List D)
  | .lst xs => (pairsD xs).map (foldP [] [])
  | _ => none
def unD (g : D → Option (List D × List D)) (f : List Sl → RE D) : List Sl → RE D := fun r => (f r).bind fun x r1 => match g x with
  | some p => .ok (.dct p.1 p.2) r1
  | none => .bad
theorem pairs_rep {G : Gm} {M : Addr → Prop} {H : Hp} : ∀ {xs : List D} {vs : List V} {ps : List (D × D)}, pairsD xs = some ps → RepL G M H xs vs →
    ∃ (as : List Addr) (kvs : List (Key × V)), vs = as.map V.ref ∧ Paired (fun p kv => SqT G.K H p [kV kv.1, kv.2]) as kvs ∧ ps.map Prod.fst = kvs.map (fun p => keyD p.1) ∧ RepL G M H (ps.map Prod.snd) (kvs.map (·.2))
  | [], _, _, e, r => by cases e; cases r; exact ⟨[], [], rfl, .nil, rfl, rfl⟩
  | x :: xs, _, _, e, ⟨v, ws, ev, q, r⟩ => by
    subst ev
    unfold pairsD at e
    rw [Option.bind_eq_some_iff] at e
    obtain ⟨p, e1, e2⟩ := e
    rw [Option.map_eq_some_iff] at e2
    obtain ⟨ps, e2, rfl⟩ := e2
    obtain ⟨as, kvs, rfl, pr, ek, rl⟩ := pairs_rep e2 r
    unfold pairD at e1
    split at e1
    · split at e1
      · rename_i k w hk
        cases e1
        obtain ⟨a, us, rfl, ha, v1, _, rfl, q1, v2, _, rfl, q2, e3⟩ := q
        cases e3
        obtain ⟨key, rfl, rfl⟩ := isK_key hk (.inl q1)
        exact ⟨a :: as, (key, v2) :: kvs, rfl, .cons ha.sqt pr, by rw [List.map_cons, List.map_cons, ek], v2, _, rfl, q2, rl⟩
      · cases e1
    · cases e1
theorem fold_rep {G : Gm} {M : Addr → Prop} {H : Hp} : ∀ {ps : List (D × D)} {more kvs : List (Key × V)} {ds : List D}, ps.map Prod.fst = more.map (fun p => keyD p.1) → RepL G M H (ps.map Prod.snd) (more.map (·.2)) → RepL G M H ds (kvs.map (·.2)) →
    (foldP (kvs.map fun p => keyD p.1) ds ps).1 = (mergeK kvs more).map (fun p => keyD p.1) ∧ RepL G M H (foldP (kvs.map fun p => keyD p.1) ds ps).2 ((mergeK kvs more).map (·.2))
  | [], [], _, _, _, _, r => ⟨rfl, r⟩
  | [], _ :: _, _, _, e, _, _ => by cases e
  | _ :: _, [], _, _, e, _, _ => by cases e
  | p :: ps, q :: more, kvs, ds, e, ⟨v, ws, ev, rv, rl⟩, r => by
    rw [List.map_cons, List.map_cons] at e
    injection e with e1 e2
    injection ev with ev1 ev2
    subst ev1 ev2
    have r' := put_vals (x := q.1) rv r
    have z := fold_rep (kvs := putK kvs q.1 q.2) e2 rl r'
    show (foldP (pkS (kvs.map fun p => keyD p.1) p.1) (pvS (kvs.map fun p => keyD p.1) ds p.1 p.2) ps).1 = _ ∧ RepL G M H (foldP (pkS (kvs.map fun p => keyD p.1) p.1) (pvS (kvs.map fun p => keyD p.1) ds p.1 p.2) ps).2 _
    rw [e1, put_keys (w := q.2)]
    exact z
section
variable {X : Cx} {J : Jx} {e : Expr} {f : List Sl → RE D} {p pos : Pos}
/-- {} -/
theorem n_dnew : PE X (.Dict [] [] pos) (tN J (cst (.dct [] []))) :=
  PEi pe_dnewK fun σ H Q ⟨M, r, I, h⟩ p hp => new_dct (kvs := []) (ks := []) (ds := []) I hp rfl rfl h
theorem n_dict (hK : X.K = J.G.K) (hc : X.calm = true) (hx : Gl X "dict") (hm : X.mg "dict" = none) (he : PE X e (DL.tB J f)) (hs : starEach [e] X.env = (false, eval e X.env) :: starEach [] X.env := by rfl) (hpl : (backTo pos (starEach [] X.env)).any (·.1) = false := by rfl) :
    PE X (.Call (.Name "dict" p) [e] [] pos) (tN J (unD gDict f)) :=
  PEi (pe_callTy (call_dictP hc) hx hm (by decide +kernel) (pa1 he hs) (by decide) (by decide) hs hpl) fun σ H Q ⟨M, r0, I, h⟩ => by
    refine ⟨M, r0, I, Out.bind h fun d r1 v M1 H1 st1 I1 rd1 h1 => ?_⟩
    cases e1 : gDict d with
    | none => rw [e1] at h1; exact h1.elim
    | some pr =>
      rw [e1] at h1
      unfold gDict at e1
      split at e1
      · rename_i xs
        rw [Option.map_eq_some_iff] at e1
        obtain ⟨ps, e2, rfl⟩ := e1
        obtain ⟨a, vs, rfl, ha, rl⟩ := rd1.lst
        obtain ⟨as, kvs, rfl, pr, ek, rv⟩ := pairs_rep e2 rl
        obtain ⟨z1, z2⟩ := fold_rep (kvs := []) (ds := []) ek rv rfl
        refine ⟨a, as, kvs, rfl, SqL.of ha, by rw [hK]; exact pr, fun p hp => ?_⟩
        exact new_dct I1 hp z1 z2 h1
      · cases e1
theorem s_fz (i : Nat) {st : Stmt} {f : List Sl → RS} (h : PS X st (tS J f)) : PS X st (tS J (sfz i f)) := by
  refine ⟨fun pins s σ H E I ⟨M, r, S, hw⟩ => ?_⟩
  unfold sfz at hw
  split at hw
  · rename_i ks ds hi
    split at hw
    · rename_i hk
      obtain ⟨a, kvs, hd, q⟩ := S.lockAt hi hk
      obtain ⟨od, I1⟩ := I.lock hd trivial
      obtain ⟨S1, st1⟩ := q od
      exact h.run pins s σ _ E I1 ⟨_, _, S1, OutS.step st1 hw⟩
    · exact hw.elim
  · exact hw.elim
end
end DL

set_option Elab.async false
set_option linter.all false
set_option maxRecDepth 100000
set_option maxHeartbeats 4000000
/-! exceptions of ours made by keywords -/
namespace DLX
open PySem PySem.W PySem.Calls PyProof.Rows PySem.HandSPX
section
variable {prog : Program} {w : World} {A : Around} {E : Value → Shared → Prop} {R : Result → Shared → Prop} {hp : Heap} {gs : Array GenState} {dr : Drawn} {tk : Nat} {os : OsState}
variable {nm qn : Str} {C nsA : Addr} {bs mb mB : List Value} {hd : Bool} {sn : List Str} {sb : List Value} {ab : Bool} {co : Option Bool} {dd : Option Addr} {j0 j1 j2 j3 j5 : Option Value} {B nw ini : String} {kws : List (Str × Value)}
theorem kw_checked (fx : ExcBaseFacts B nw ini mB) (same : ∀ x : String, mb.contains (.type x) = mB.contains (.type x)) {more : List Value} {Q : Unit → Shared → Prop}
    (at0 : hp.get? C = some (excClassObj nm qn C nsA bs mb hd sn sb ab co dd j0 j1 j2 j3 j5 nw)) (fin : Q () ⟨hp, gs, dr, tk, os⟩) :
    wpAny (model prog w) A (checkBuiltinCall nw ⟨.ref C :: more, kws⟩) Q E ⟨hp, gs, dr, tk, os⟩ := by
  have has0 : (Value.ref C :: mb).contains (.type B) = true := by rw [List.contains_cons, same, fx.hasB, Bool.or_true]
  have st := fx.noStar
  simp only [checkBuiltinCall, fx.newKind, fx.newSplit, fx.newRow]
  repeat (first
    | refine wpAny_loadPart_at at0 ?_
    | (refine wpAny_isSubtype_exc at0 ?_
       rw [has0])
    | refine wpAny_staticBase_exc at0 ?_
    | refine wpAny_madeBy_exc at0 ?_
    | simp only [bne_self_eq_false, Bool.false_eq_true, if_false]
    | wp_step)
  exact fin
theorem kw_newed (fx : ExcBaseFacts B nw ini mB) (same : ∀ x : String, mb.contains (.type x) = mB.contains (.type x)) {more : List Value}
    (at0 : hp.get? C = some (excClassObj nm qn C nsA bs mb hd sn sb ab co dd j0 j1 j2 j3 j5 nw)) (sz : more.length ≤ sizeLine)
    (fin : R (.ok (.ret (.ref (hp.objs.size + 1)))) ⟨(hp.push (kdv_tup more)).push (excO C hp.objs.size), gs, dr, tk, os⟩) :
    codeAny (model prog w) A (.builtin nw ⟨.ref C :: more, kws⟩) R ⟨hp, gs, dr, tk, os⟩ := by
  have en := fx.ends
  have has0 : (Value.ref C :: mb).contains (.type B) = true := by rw [List.contains_cons, same, fx.hasB, Bool.or_true]
  have has1 : (Value.ref C :: mb).contains (.type "AttributeError") = false := by rw [List.contains_cons, same, fx.noAttr]; rfl
  have has2 : (Value.ref C :: mb).contains (.type "NameError") = false := by rw [List.contains_cons, same, fx.noName]; rfl
  refine codeAny_builtinAt fx.entry ?_
  unfold Builtin.«BaseException.__new__»
  refine PySem.wpAt_bind ?_
  show _root_.PySem.wpAt _ _ _ (stack >>= _) _ _ _
  refine PySem.wpAt_bind (PySem.wpAt_stack fun top under => PySem.wpAt_of_wpAny ?_)
  wp_walk
  refine PySem.wpAt_of_wpAny ?_
  rw [fx.owner]
  repeat (first
    | with_reducible refine wpAny_madeHere_exc fx.canon at0 ?_
    | with_reducible refine wpAny_loadPart_at at0 ?_
    | (with_reducible refine wpAny_isSubtype_exc at0 ?_
       first
         | rw [has0]
         | rw [has1]
         | rw [has2])
    | wp_step)
  show R _ _
  rw [Heap.size_push]
  exact fin
theorem kw_typeCall (fx : ExcBaseFacts B nw ini mB) (same : ∀ x : String, mb.contains (.type x) = mB.contains (.type x)) {more : List Value} {f0 : Addr} {Q : Fin → Shared → Prop}
    (at0 : hp.get? C = some (excClassObj nm qn C nsA bs mb hd sn sb ab co dd j0 j1 j2 j3 j5 nw)) (sz : more.length ≤ sizeLine)
    (li : W.Looks (model prog w) hp (typeLookup (.ref C) "__init__") (some (.ref f0))) (lb : ∀ me, W.Looks (model prog w) hp (bindSpecial (.ref f0) me) (.ref f0, [me]))
    (fin : codeAny (model prog w) A (.call (.ref f0) ⟨.ref (hp.objs.size + 1) :: more, kws⟩)
      (fun res s' => match res with
        | .ok (.ret v) => v = .none ∧ Q (.done (.ret (.ref (hp.objs.size + 1)))) s'
        | .ok _ => False
        | .error e => E e s') ⟨(hp.push (kdv_tup more)).push (excO C hp.objs.size), gs, dr, tk, os⟩) :
    wpAny (model prog w) A (Builtin.«type.__call__» ⟨.ref C :: more, kws⟩) Q E ⟨hp, gs, dr, tk, os⟩ := by
  repeat (first
    | with_reducible refine wpAny_loadPart_at at0 ?_
    | with_reducible refine wpAny_madeBy_exc at0 ?_
    | wp_step)
  refine codeAny_call_builtin_code (Code.quiet_builtin _ fx.quiet) (kw_checked fx same at0 ?_)
  refine kw_newed fx same at0 sz ?_
  show wpAny _ _ _ _ _ _
  have kp : ∀ b o, hp.get? b = some o → ((hp.push (kdv_tup more)).push (excO C hp.objs.size)).get? b = some o := fun b o e => Heap.get?_push_of_some _ (Heap.get?_push_of_some _ e)
  have at1 := kp _ _ at0
  have atx : ((hp.push (kdv_tup more)).push (excO C hp.objs.size)).get? (hp.objs.size + 1) = some (excO C hp.objs.size) := by heap_get
  have hasC : (Value.ref C :: mb).contains (.ref C) = true := by simp
  have li1 := li.keeps kp
  have lb1 := (lb (.ref (hp.objs.size + 1))).keeps kp
  unfold isInstance
  repeat (first
    | with_reducible refine wpAny_loadPart_at atx ?_
    | (with_reducible refine wpAny_isSubtype_exc at1 ?_
       rw [hasC])
    | wp_step)
  show wpAny _ _ (typeLookup (.ref C) _) _ _ _
  refine li1.at ?_
  refine wpAny_holding (wpAny_bind (lb1.at ?_))
  refine wpAny_bind (wpAny_call (codeAny_mono fin fun res s' z => ?_))
  rcases res with e | (v | _ | _ | _) <;> first | exact z | exact z.elim | skip
  obtain ⟨rfl, z⟩ := z
  first
    | exact wpAny_pure (wpAny_pure z)
    | (wp_walk
       exact z)
theorem kw_asked {more : List Value} {Q : Unit → Shared → Prop} (at0 : hp.get? C = some (excClassObj nm qn C nsA bs mb hd sn sb ab co dd j0 j1 j2 j3 j5 nw))
    (fin : Q () ⟨hp, gs, dr, tk, os⟩) : wpAny (model prog w) A (checkBuiltinCall "type.__call__" ⟨.ref C :: more, kws⟩) Q E ⟨hp, gs, dr, tk, os⟩ := by
  have ts := tc_sub
  have ty : (⟨hp, gs, dr, tk, os⟩ : Shared).TypeIs (.ref C) "type" := ⟨_, at0, rfl⟩
  simp only [checkBuiltinCall, tc_kind, tc_split]
  repeat (any_goals (first
    | assumption
    | with_reducible refine wpAny_loadPart_at at0 ?_
    | with_reducible refine wpAny_onRaise ?_
    | with_reducible refine wpAny_map ?_
    | wp_step))
theorem kw_called (fx : ExcBaseFacts B nw ini mB) (same : ∀ x : String, mb.contains (.type x) = mB.contains (.type x)) {more : List Value} {f0 : Addr}
    (at0 : hp.get? C = some (excClassObj nm qn C nsA bs mb hd sn sb ab co dd j0 j1 j2 j3 j5 nw)) (sz : more.length ≤ sizeLine)
    (li : W.Looks (model prog w) hp (typeLookup (.ref C) "__init__") (some (.ref f0))) (lb : ∀ me, W.Looks (model prog w) hp (bindSpecial (.ref f0) me) (.ref f0, [me]))
    (fin : codeAny (model prog w) (A.under (.builtin "type.__call__" ⟨.ref C :: more, kws⟩)) (.call (.ref f0) ⟨.ref (hp.objs.size + 1) :: more, kws⟩) (W.InitBack (hp.objs.size + 1) R)
      ⟨(hp.push (kdv_tup more)).push (excO C hp.objs.size), gs, dr, tk, os⟩) :
    codeAny (model prog w) A (.call (.ref C) ⟨more, kws⟩) R ⟨hp, gs, dr, tk, os⟩ := by
  have l1 := tc_lookup
  have l2 := tc_bind (.ref C)
  have ty : (⟨hp, gs, dr, tk, os⟩ : Shared).TypeIs (.ref C) "type" := ⟨_, at0, rfl⟩
  refine codeAny_of_tree ?_
  show wpAny _ _ (callAny (.ref C) _) _ _ _
  repeat (any_goals (first
    | assumption
    | with_reducible refine wpAny_loadPart_at at0 ?_
    | wp_step))
  refine ⟨rfl, ?_⟩
  refine codeAny_call_builtin_at (Code.quiet_builtin _ (by decide +kernel)) entry_typeCall (kw_asked at0 (kw_typeCall fx same at0 sz li lb ?_))
  refine codeAny_mono fin fun res s' z => ?_
  rcases res with e | (v | _ | _ | _) <;> exact z
end
section
variable {prog : Program} {w : World} {A : Around} {E : Value → Shared → Prop} {R : Result → Shared → Prop} {K : Frag} {mg : Str → Option Value} {c : Str} {C fI : Addr} {fs : List Str}
theorem kw_init1 {ag : Value → Value → Args} (T : Cl prog K mg c C fI fs) {f q : Str} {p0 p1 ap q1 pos pos' a1 a2 a3 a4 u1 u2 : Pos} (N : Fn prog K fI C q (args1 f u1 u2) (body1 f p0 p1 ap q1 pos pos' a1 a2 a3 a4) (scope1 f)) (hf : f ∈ fs) (hne : (("self" : Str) == f) = false) (hd : (f == ("__debug__" : Str)) = false)
    (lf : (scope1 f).names.lookup f = some .local) (lk : (scope1 f).names.lookup ("super" : Str) = some .globalImplicit) (lc : (scope1 f).names.lookup ("__class__" : Str) = some .free)
    (hbd : ∀ (doc pm ct : Value) (an : Option Addr) (cda cc : Addr) (y z : Value), bindArgs (ksFn "__init__" q (args1 f u1 u2) (body1 f p0 p1 ap q1 pos pos' a1 a2 a3 a4) (scope1 f) .none .none doc pm an (.ref cda) ct cc) (ag y z) = pure [(("self" : Str), y), (f, z)])
    (hev : ∀ (L cda cc : Addr), ∃ pl, eval (.Call (.Attribute (.Call (.Name "super" p0) [] [] p1) "__init__" ap) [.Name f q1] [] pos) (ksEnv q (scope1 f) L fI (.ref cda) cc) = (do
      let ov ← attributeBase (.Call (.Name "super" p0) [] [] p1) "__init__" (ksEnv q (scope1 f) L fI (.ref cda) cc) (eval (.Call (.Name "super" p0) [] [] p1) (ksEnv q (scope1 f) L fI (.ref cda) cc))
      standAt ap.atName
      let (g, first) ← holding [ov] (getMethod ov "__init__" pl)
      callWith pos g first (backTo pos (starEach [.Name f q1] (ksEnv q (scope1 f) L fI (.ref cda) cc))) []))
    (hsw1 : ∀ (L cda cc : Addr), swapsWith (.Call (.Attribute (.Call (.Name "super" p0) [] [] p1) "__init__" ap) [.Name f q1] [] pos) none pos'.line (ksEnv q (scope1 f) L fI (.ref cda) cc) = pure false)
    (hsw2 : ∀ (L cda cc : Addr), swapsWith (.Name f a3) (some (.Attribute (.Name "self" a1) f a2)) a4.line (ksEnv q (scope1 f) L fI (.ref cda) cc) = pure false)
    {s : Shared} {mb : Str → Option Value} {x t0 : Addr} {v : Value} (X : K.In s.heap) (hlim : s.heap.NoLimit) (hg : s.heap.Ns mainGlobals mg) (hb : s.heap.Ns builtinsNs mb) (hbb : ∀ y : Str, y ≠ "__name__" → mb y = bootBuiltins y)
    (hx : s.heap.get? x = some (excO C t0)) (hnx : K.lookup x = none) (hroom : A.depth < recursionLimit)
    (hq : ∀ h' tk dx, End s.heap h' x C dx (fun y => if y = f then some v else none) → R (.ok (.ret .none)) { s with heap := h', toks := tk }) :
    codeAny (model prog w) A (.call (.ref fI) (ag (.ref x) v)) R s := by
  obtain ⟨oc, od, doc, pm, an, cda, ct, osl, cc, ccl, cl, cdd, cld, vs, ccs, csl, file, tf, ho, hcd, hcode, hvs, hfile, hcell⟩ := N.ex
  obtain ⟨nm, qn, NN, bs, bm, sn, sub, ab, col, dd, k0, k1, k2, k3, k5, hC, hbm⟩ := T.cls
  have hcl : clsIn K C = some { name := nm, bases := bs, mro := .ref C :: bm, ns := NN, qualname := qn, hasDict := true, slotNames := sn, subclasses := sub, abstract := ab, collection := col, hasDel := false } := by
    unfold clsIn
    rw [hC] <;> rfl
  have ls : (scope1 f).names.lookup ("self" : Str) = some .local := by simp [scope1, List.lookup]
  have mself : ([((f : Str), v), (("self" : Str), Value.ref x)] : List (Str × Value)).lookup ("self" : Str) = some (.ref x) := by simp [List.lookup, hne]
  have mf : ([((f : Str), v), (("self" : Str), Value.ref x)] : List (Str × Value)).lookup f = some v := by simp [List.lookup]
  refine ks_codeAny_call_defAt (binds := [("self", .ref x), (f, v)]) hroom (X _ _ ho) rfl hlim (codeRec_of X hcd) rfl (BindsTo.of_eq (hbd ..)) (fun y hy => ?_) (fun y hy => ?_) (fun h1 hn k => ?_) rfl rfl rfl
  · simp [scope1] at hy; rcases hy with rfl | rfl | rfl | rfl <;> simp
  · simp at hy; rcases hy with rfl | rfl
    · exact ls
    · exact lf
  have X1 := X.keeps k
  have hx1 := k _ _ hx
  have hxL : x ≠ s.heap.objs.size := Nat.ne_of_lt (Heap.lt_size hx)
  show _root_.PySem.wpAt (model prog w) (A.deeper (ksEnv q (scope1 f) s.heap.objs.size fI (.ref cda) cc)) (.func (body1 f p0 p1 ap q1 pos pos' a1 a2 a3 a4) (ksEnv q (scope1 f) s.heap.objs.size fI (.ref cda) cc)) (execs (body1 f p0 p1 ap q1 pos pos' a1 a2 a3 a4) (ksEnv q (scope1 f) s.heap.objs.size fI (.ref cda) cc)) _ _ _
  obtain ⟨pl, hev'⟩ := hev s.heap.objs.size cda cc
  refine ks_wpAt_execs_cons (super_stmt T ho hcode hvs hfile hcell (a0 := { arg := "self", annotation := none, pos := u1 }) rfl rfl (us := [v]) X1 (hg.keeps k) (hb.keeps k) hbb hn mself hx1 hnx lk lc ls rfl (by rw [sizeLine_eq]; exact (by decide : 1 ≤ 16777216)) (fun s1 Q1 hn1 hq1 => ?_) rfl rfl hxL (fun h2 t1 tk k2 e2 hn2 sz2 => ?_) (pl := pl) hev' (hsw1 ..))
  · show wpAny _ _ (spliced ((false, eval (.Name f q1) _) :: [])) _ _ _
    exact Calls.spliced_cons (ESX.ldL (env := ksEnv q (scope1 f) s.heap.objs.size fI (.ref cda) cc) hn1 mf (Calls.spliced_nil hq1) rfl lf hd)
  have X2 : K.In h2 := fun b o e => k2 b o (fun z => by rw [z] at e; rw [hnx] at e; cases e) (X1 b o e)
  refine ks_wpAt_execs_cons (ks_wpAt_Assign_Attr ?_ (hsw2 ..))
  refine wpAt_of_wpAny (ESX.ldL (env := ksEnv q (scope1 f) s.heap.objs.size fI (.ref cda) cc) hn2 mf ?_ rfl lf hd)
  refine ESX.ldL (env := ksEnv q (scope1 f) s.heap.objs.size fI (.ref cda) cc) hn2 mself ?_ rfl ls (by decide)
  refine set_plain X2 (ox := excO C t1) (od := none) (ex_ref e2) T.sa ?_
  refine exc_osa X2 e2 hcl (show refsVE (.ref C :: bm) = true from hbm) rfl (T.no f hf) (fun h3 tk3 dx k3 dn dne hx3 hn3 => ?_)
  refine wpAt_of_wpAny (wpAny_execs_nil ?_)
  have z : s.heap.objs.size < h1.objs.size := hn.lt
  refine hq h3 tk3 dx ⟨fun b o nb e => k3 b o nb (k2 b o nb (k b o e)), ⟨t1, hx3⟩, ?_, dne, hn3⟩
  have sz2' : h1.objs.size ≤ h2.objs.size := sz2
  have dn2 : h2.objs.size ≤ dx := dn
  omega

theorem kw_init2 {ag : Value → Value → Value → Args} (T : Cl prog K mg c C fI fs) {f g q : Str} {p0 p1 ap q1 q2 pos pos' a1 a2 a3 a4 b1 b2 b3 b4 u1 u2 u3 : Pos} (N : Fn prog K fI C q (args2 f g u1 u2 u3) (body2 f g p0 p1 ap q1 q2 pos pos' a1 a2 a3 a4 b1 b2 b3 b4) (scope2 f g)) (hf : f ∈ fs) (hg1 : g ∈ fs) (hne2 : (("self" : Str) == g) = false) (hfg : (f == g) = false) (hgd : (g == ("__debug__" : Str)) = false) (lg : (scope2 f g).names.lookup g = some .local) (hne : (("self" : Str) == f) = false) (hd : (f == ("__debug__" : Str)) = false)
    (lf : (scope2 f g).names.lookup f = some .local) (lk : (scope2 f g).names.lookup ("super" : Str) = some .globalImplicit) (lc : (scope2 f g).names.lookup ("__class__" : Str) = some .free)
    (hbd : ∀ (doc pm ct : Value) (an : Option Addr) (cda cc : Addr) (y z z2 : Value), bindArgs (ksFn "__init__" q (args2 f g u1 u2 u3) (body2 f g p0 p1 ap q1 q2 pos pos' a1 a2 a3 a4 b1 b2 b3 b4) (scope2 f g) .none .none doc pm an (.ref cda) ct cc) (ag y z z2) = pure [(("self" : Str), y), (f, z), (g, z2)])
    (hev : ∀ (L cda cc : Addr), ∃ pl, eval (.Call (.Attribute (.Call (.Name "super" p0) [] [] p1) "__init__" ap) [.Name f q1, .Name g q2] [] pos) (ksEnv q (scope2 f g) L fI (.ref cda) cc) = (do
      let ov ← attributeBase (.Call (.Name "super" p0) [] [] p1) "__init__" (ksEnv q (scope2 f g) L fI (.ref cda) cc) (eval (.Call (.Name "super" p0) [] [] p1) (ksEnv q (scope2 f g) L fI (.ref cda) cc))
      standAt ap.atName
      let (k, first) ← holding [ov] (getMethod ov "__init__" pl)
      callWith pos k first (backTo pos (starEach [.Name f q1, .Name g q2] (ksEnv q (scope2 f g) L fI (.ref cda) cc))) []))
    (hsw1 : ∀ (L cda cc : Addr), swapsWith (.Call (.Attribute (.Call (.Name "super" p0) [] [] p1) "__init__" ap) [.Name f q1, .Name g q2] [] pos) none pos'.line (ksEnv q (scope2 f g) L fI (.ref cda) cc) = pure false)
    (hsw3 : ∀ (L cda cc : Addr), swapsWith (.Name g b3) (some (.Attribute (.Name "self" b1) g b2)) b4.line (ksEnv q (scope2 f g) L fI (.ref cda) cc) = pure false)
    (hsw2 : ∀ (L cda cc : Addr), swapsWith (.Name f a3) (some (.Attribute (.Name "self" a1) f a2)) a4.line (ksEnv q (scope2 f g) L fI (.ref cda) cc) = pure false)
    {s : Shared} {mb : Str → Option Value} {x t0 : Addr} {v v2 : Value} (X : K.In s.heap) (hlim : s.heap.NoLimit) (hg : s.heap.Ns mainGlobals mg) (hb : s.heap.Ns builtinsNs mb) (hbb : ∀ y : Str, y ≠ "__name__" → mb y = bootBuiltins y)
    (hx : s.heap.get? x = some (excO C t0)) (hnx : K.lookup x = none) (hroom : A.depth < recursionLimit)
    (hq : ∀ h' tk dx, End s.heap h' x C dx (fun y => if y = g then some v2 else if y = f then some v else none) → R (.ok (.ret .none)) { s with heap := h', toks := tk }) :
    codeAny (model prog w) A (.call (.ref fI) (ag (.ref x) v v2)) R s := by
  obtain ⟨oc, od, doc, pm, an, cda, ct, osl, cc, ccl, cl, cdd, cld, vs, ccs, csl, file, tf, ho, hcd, hcode, hvs, hfile, hcell⟩ := N.ex
  obtain ⟨nm, qn, NN, bs, bm, sn, sub, ab, col, dd, k0, k1, k2, k3, k5, hC, hbm⟩ := T.cls
  have hcl : clsIn K C = some { name := nm, bases := bs, mro := .ref C :: bm, ns := NN, qualname := qn, hasDict := true, slotNames := sn, subclasses := sub, abstract := ab, collection := col, hasDel := false } := by
    unfold clsIn
    rw [hC] <;> rfl
  have ls : (scope2 f g).names.lookup ("self" : Str) = some .local := by simp [scope2, List.lookup]
  have mself : ([((g : Str), v2), ((f : Str), v), (("self" : Str), Value.ref x)] : List (Str × Value)).lookup ("self" : Str) = some (.ref x) := by simp [List.lookup, hne, hne2]
  have mf : ([((g : Str), v2), ((f : Str), v), (("self" : Str), Value.ref x)] : List (Str × Value)).lookup f = some v := by simp [List.lookup, hfg]
  have mg2 : ([((g : Str), v2), ((f : Str), v), (("self" : Str), Value.ref x)] : List (Str × Value)).lookup g = some v2 := by simp [List.lookup]
  refine ks_codeAny_call_defAt (binds := [("self", .ref x), (f, v), (g, v2)]) hroom (X _ _ ho) rfl hlim (codeRec_of X hcd) rfl (BindsTo.of_eq (hbd ..)) (fun y hy => ?_) (fun y hy => ?_) (fun h1 hn k => ?_) rfl rfl rfl
  · simp [scope2] at hy; rcases hy with rfl | rfl | rfl | rfl | rfl <;> simp
  · simp at hy; rcases hy with rfl | rfl | rfl
    · exact ls
    · exact lf
    · exact lg
  have X1 := X.keeps k
  have hx1 := k _ _ hx
  have hxL : x ≠ s.heap.objs.size := Nat.ne_of_lt (Heap.lt_size hx)
  show _root_.PySem.wpAt (model prog w) (A.deeper (ksEnv q (scope2 f g) s.heap.objs.size fI (.ref cda) cc)) (.func (body2 f g p0 p1 ap q1 q2 pos pos' a1 a2 a3 a4 b1 b2 b3 b4) (ksEnv q (scope2 f g) s.heap.objs.size fI (.ref cda) cc)) (execs (body2 f g p0 p1 ap q1 q2 pos pos' a1 a2 a3 a4 b1 b2 b3 b4) (ksEnv q (scope2 f g) s.heap.objs.size fI (.ref cda) cc)) _ _ _
  obtain ⟨pl, hev'⟩ := hev s.heap.objs.size cda cc
  refine ks_wpAt_execs_cons (super_stmt T ho hcode hvs hfile hcell (a0 := { arg := "self", annotation := none, pos := u1 }) rfl rfl (us := [v, v2]) X1 (hg.keeps k) (hb.keeps k) hbb hn mself hx1 hnx lk lc ls rfl (by rw [sizeLine_eq]; exact (by decide : 2 ≤ 16777216)) (fun s1 Q1 hn1 hq1 => ?_) rfl rfl hxL (fun h2 t1 tk k2 e2 hn2 sz2 => ?_) (pl := pl) hev' (hsw1 ..))
  · show wpAny _ _ (spliced ((false, eval (.Name f q1) _) :: (false, eval (.Name g q2) _) :: [])) _ _ _
    exact Calls.spliced_cons (ESX.ldL (env := ksEnv q (scope2 f g) s.heap.objs.size fI (.ref cda) cc) hn1 mf (Calls.spliced_cons (ESX.ldL (env := ksEnv q (scope2 f g) s.heap.objs.size fI (.ref cda) cc) hn1 mg2 (Calls.spliced_nil hq1) rfl lg hgd)) rfl lf hd)
  have X2 : K.In h2 := fun b o e => k2 b o (fun z => by rw [z] at e; rw [hnx] at e; cases e) (X1 b o e)
  refine ks_wpAt_execs_cons (ks_wpAt_Assign_Attr ?_ (hsw2 ..))
  refine wpAt_of_wpAny (ESX.ldL (env := ksEnv q (scope2 f g) s.heap.objs.size fI (.ref cda) cc) hn2 mf ?_ rfl lf hd)
  refine ESX.ldL (env := ksEnv q (scope2 f g) s.heap.objs.size fI (.ref cda) cc) hn2 mself ?_ rfl ls (by decide)
  refine set_plain X2 (ox := excO C t1) (od := none) (ex_ref e2) T.sa ?_
  refine exc_osa X2 e2 hcl (show refsVE (.ref C :: bm) = true from hbm) rfl (T.no f hf) (fun h3 tk3 dx k3 dn dne hx3 hn3 => ?_)
  have X3 : K.In h3 := fun b o e => k3 b o (fun z => by rw [z] at e; rw [hnx] at e; cases e) (X2 b o e)
  have hn3' : h3.Ns s.heap.objs.size (fun y => ([((g : Str), v2), ((f : Str), v), (("self" : Str), Value.ref x)] : List (Str × Value)).lookup y) := by
    obtain ⟨oL, es', ep, hL, r⟩ := hn2
    exact ⟨oL, es', ep, k3 _ _ (Ne.symm hxL) hL, r⟩
  refine ks_wpAt_execs_cons (ks_wpAt_Assign_Attr ?_ (hsw3 ..))
  refine wpAt_of_wpAny (ESX.ldL (env := ksEnv q (scope2 f g) s.heap.objs.size fI (.ref cda) cc) hn3' mg2 ?_ rfl lg hgd)
  refine ESX.ldL (env := ksEnv q (scope2 f g) s.heap.objs.size fI (.ref cda) cc) hn3' mself ?_ rfl ls (by decide)
  obtain ⟨od1, es1, ep1, hod1, _⟩ := id hn3
  refine set_plain X3 (ox := { cls := .ref C, dict := some dx, data := .fields #[.ref t1, .none, .none, .none, .bool false, .none] }) (od := some od1) ⟨hx3, rfl, rfl, hod1⟩ T.sa ?_
  refine PySem.OEX.osa_old X3 hx3 hn3 (nl := [f]) (fun y hy => ?_) (by show 1 ≤ 1000; decide) hcl (show refsVE (.ref C :: bm) = true from hbm) rfl (T.no g hg1) (fun h4 tk4 k4 hn4 => ?_)
  · by_cases e : y = f
    · subst e; exact List.mem_singleton_self _
    · rw [if_neg e] at hy; exact absurd rfl hy
  refine wpAt_of_wpAny (wpAny_execs_nil ?_)
  have z : s.heap.objs.size < h1.objs.size := hn.lt
  have sz2' : h1.objs.size ≤ h2.objs.size := sz2
  have dn2 : h2.objs.size ≤ dx := dn
  have dn' : s.heap.objs.size ≤ dx := by omega
  refine hq h4 tk4 dx ⟨fun b o nb e => k4 b o (fun eb => ?_) (k3 b o nb (k2 b o nb (k b o e))), ⟨t1, k4 _ _ (Ne.symm dne) hx3⟩, dn', dne, hn4⟩
  subst eb
  exact absurd (Heap.lt_size e) (Nat.not_lt_of_le dn')

/-- its __init__, called by the keywords ks, does its work -/
def KwOk (prog : Program) (w : World) (K : Frag) (mg : Str → Option Value) (C fI : Addr) (ks : List Str) : Prop :=
  ∀ (A : Around) (R : Result → Shared → Prop) (s : Shared) (mb : Str → Option Value) (x t0 : Addr) (us : List Value), us.length = ks.length → K.In s.heap → s.heap.NoLimit → s.heap.Ns mainGlobals mg → s.heap.Ns builtinsNs mb → (∀ y : Str, y ≠ "__name__" → mb y = bootBuiltins y) →
    s.heap.get? x = some (excO C t0) → K.lookup x = none → A.depth < recursionLimit → (∀ h' tk dx mA, End s.heap h' x C dx mA → (∀ y, mA y = (ks.zip us).lookup y) → R (.ok (.ret .none)) { s with heap := h', toks := tk }) → codeAny (model prog w) A (.call (.ref fI) ⟨[.ref x], ks.zip us⟩) R s
theorem kw_made {ks : List Str} (T : Cl prog K mg c C fI fs) (In : KwOk prog w K mg C fI ks) {s : Shared} {mb : Str → Option Value} {us : List Value} (hn : us.length = ks.length) (X : K.In s.heap) (hlim : s.heap.NoLimit) (hg : s.heap.Ns mainGlobals mg) (hb : s.heap.Ns builtinsNs mb) (hbb : ∀ y : Str, y ≠ "__name__" → mb y = bootBuiltins y) (hroom : A.depth + 1 < recursionLimit)
    (hq : ∀ h' tk e d mA, Made s.heap h' e C d mA → (∀ y, mA y = (ks.zip us).lookup y) → R (.ok (.ret (.ref e))) { s with heap := h', toks := tk }) : codeAny (model prog w) A (.call (.ref C) ⟨[], ks.zip us⟩) R s := by
  obtain ⟨nm, q, N, bs, bm, sn, sub, ab, col, dd, k0, k1, k2, k3, k5, hC, hbm⟩ := T.cls
  obtain ⟨hp, g, dr, tk, os⟩ := s
  have k : ∀ b o, hp.get? b = some o → ((hp.push (kdv_tup [])).push (excO C hp.objs.size)).get? b = some o := fun b o e => Heap.get?_push_of_some _ (Heap.get?_push_of_some _ e)
  have hget : ((hp.push (kdv_tup [])).push (excO C hp.objs.size)).get? (hp.objs.size + 1) = some (excO C hp.objs.size) := by heap_get
  have hnx : K.lookup (hp.objs.size + 1) = none := by
    cases e : K.lookup (hp.objs.size + 1) with
    | none => rfl
    | some o =>
      have z := Heap.lt_size (show hp.get? (hp.objs.size + 1) = some o from X _ _ e)
      exact absurd (Nat.lt_of_succ_lt z) (Nat.lt_irrefl _)
  refine kw_called F.excBase_ValueError (fun X => refsVE_contains X bm hbm) (X _ _ hC) (by rw [sizeLine_eq]; exact (by decide : 0 ≤ 16777216)) (looks_findIn X T.iC) (fun self => bind_fn X self T.tC) ?_
  refine In _ _ ⟨(hp.push (kdv_tup [])).push (excO C hp.objs.size), g, dr, tk, os⟩ mb _ _ us hn (X.keeps k) (hlim.keeps k) (hg.keeps k) (hb.keeps k) hbb hget hnx hroom fun h' tk' dx mA ⟨k', ⟨t, hx⟩, dn, dne, hns⟩ hm => ?_
  have old : ∀ b o, hp.get? b = some o → h'.get? b = some o := fun b o e => k' b o (Nat.ne_of_lt (Nat.lt_succ_of_lt (Heap.lt_size e))) (k b o e)
  have z : hp.objs.size + 1 + 1 ≤ dx := by
    have q := dn
    rw [Heap.size_push, Heap.size_push] at q
    exact q
  exact ⟨rfl, hq h' tk' (hp.objs.size + 1) dx mA ⟨old, Nat.le_succ _, ⟨_, _, hx, rfl, rfl, rfl, rfl⟩, Nat.le_trans (Nat.le_trans (Nat.le_succ _) (Nat.le_succ _)) z, dne, hns⟩ hm⟩
end
end DLX
namespace DL
open PySem L2 PySem.W
structure HasKw (P : Program) (w : World) (K : PySem.W.Frag) (mg : Str → Option Value) (c : Str) (ks : List Str) : Prop where
  ex : ∃ C fI fs, DLX.Cl P K mg c C fI fs ∧ DLX.KwOk P w K mg C fI ks ∧ ∀ k ∈ ks, k ∈ fs
/-- C(k = v, ..).f -/
def kwf (ks : List Str) (f : Str) (fa : List Sl → RE (List D)) : List Sl → RE D := fun r => (fa r).bind fun ds r1 => if ds.length = ks.length then (match (ks.zip ds).lookup f with
  | some d => .ok d r1
  | none => .bad) else .bad
section
variable {X : Cx} {J : Jx} {c f : Str} {ks : List Str} {kws : List Keyword} {tk : TA} {fa : List Sl → RE (List D)} {p cpos apos : Pos}
theorem zip_mem {α : Type} {f : Str} {v : α} : ∀ {ks : List Str} {vs : List α}, (ks.zip vs).lookup f = some v → f ∈ ks
  | [], _, e => by simp at e
  | _ :: _, [], e => by simp at e
  | k :: ks, v :: vs, e => by
    rw [List.zip_cons_cons, List.lookup_cons] at e
    cases q : (f == k) with
    | true => have : f = k := by simpa using q
              subst this; exact List.mem_cons_self
    | false => rw [q] at e; exact List.mem_cons_of_mem _ (zip_mem e)
theorem zip_rel {f : Str} {v : V} : ∀ {ks : List Str} {vs : List V} {us : List Value}, Vals vs us → (ks.zip vs).lookup f = some v → ∃ u, (ks.zip us).lookup f = some u ∧ RelV v u
  | [], _, _, _, e => by simp at e
  | _ :: _, [], _, _, e => by simp at e
  | k :: ks, v0 :: vs, _, .cons r rr, e => by
    rw [List.zip_cons_cons, List.lookup_cons] at e ⊢
    cases q : (f == k) with
    | true => rw [q] at e; cases e; exact ⟨_, rfl, r⟩
    | false => rw [q] at e; exact zip_rel rr e
theorem pe_kwf (T : HasKw X.prog X.w X.K X.mg c ks) (hkw : PK X kws tk) (hr : X.A.depth + 2 < recursionLimit) (hg : Gl X c) (hdb : (c == ("__debug__" : Str)) = false := by decide)
    (hb : attributeBase (.Call (.Name c p) [] kws cpos) f X.env (eval (.Call (.Name c p) [] kws cpos) X.env) = eval (.Call (.Name c p) [] kws cpos) X.env := by rfl)
    (hall : (backToKw cpos (keywordEach kws X.env)).all (·.1.isSome) = true := by rfl) (hks : (backToKw cpos (keywordEach kws X.env)).filterMap (·.1) = ks := by rfl)
    (hpl : ((backTo cpos (starEach [] X.env)).any (·.1) || (backToKw cpos (keywordEach kws X.env)).any (·.1.isNone)) = false := by rfl) :
    PE X (.Attribute (.Call (.Name c p) [] kws cpos) f apos) (fun σ H Q => tk σ H fun vs H1 => vs.length = ks.length ∧ ∃ v, (ks.zip vs).lookup f = some v ∧ Q v H1) := by
  refine ⟨fun pins s σ H Q I h => ?_⟩
  obtain ⟨C, fI, fs, T1, T2, T3⟩ := T.ex
  refine attr_of hb ?_
  refine wpAny_Call_Name_kw (ld_glob I hg T1.gC ?_ hdb)
  refine PySem.W.callWith_KW0 (h₀ := X.base) I.ok.mod.kin T1.kC hall (thn (hkw.run cpos pins s σ H _ I h) fun us s1 ⟨vs, H1, I1, r1, hl, v, hv, q1⟩ => ⟨I1.kIn, ?_⟩) hpl
  rw [hks]
  have hlim := I1.nolimit
  have M1 := I1.mod
  obtain ⟨mb, hb1, hb2⟩ := M1.blt
  have kp : ∀ b o, X.base.get? b = some o → s1.heap.get? b = some o := I1.bk
  have hgN := M1.glob.keeps kp
  have hbN := hb1.keeps kp
  obtain ⟨hp, g, dr, tk0, os⟩ := s1
  have hul : us.length = ks.length := r1.length.symm.trans hl
  refine wpAny_call (DLX.kw_made T1 T2 hul I1.kIn hlim hgN hbN hb2 (by omega) fun h' tk' e d mA Md hm => ?_)
  have I2 : Inv X pins σ H1 ⟨h', g, dr, tk', os⟩ := I1.kept (t' := tk') Md.keep
  obtain ⟨oe, fv, hoe, hc, hd, hdat, h1⟩ := Md.obj
  obtain ⟨od, ho, hlk⟩ := lookIn_ns Md.ns
  obtain ⟨u, hu, ru⟩ := zip_rel r1 hv
  have J2 : PySem.W.InstAt h' e oe C (some od) := ⟨hoe, hc, by unfold PySem.W.notCls; rw [hdat] <;> rfl, by rw [hd]; exact ho⟩
  exact HandSPX.exc_get I2.kIn J2 T1.ga T1.gg T1.exC (PySem.W.findObj_own T1.hdC (T1.no f (T3 f (zip_mem hv))) rfl (by rw [hlk, hm, hu])) (handed_of ru) ⟨v, H1, I2.tok _, ru, q1⟩
theorem e_kwf (hG : J.G = ⟨X.K, X.mg⟩) (T : HasKw X.prog X.w X.K X.mg c ks) (hkw : PK X kws (tA J fa)) (hr : X.A.depth + 2 < recursionLimit) (hg : Gl X c := by rfl) (hdb : (c == ("__debug__" : Str)) = false := by decide)
    (hb : attributeBase (.Call (.Name c p) [] kws cpos) f X.env (eval (.Call (.Name c p) [] kws cpos) X.env) = eval (.Call (.Name c p) [] kws cpos) X.env := by rfl)
    (hall : (backToKw cpos (keywordEach kws X.env)).all (·.1.isSome) = true := by rfl) (hks : (backToKw cpos (keywordEach kws X.env)).filterMap (·.1) = ks := by rfl)
    (hpl : ((backTo cpos (starEach [] X.env)).any (·.1) || (backToKw cpos (keywordEach kws X.env)).any (·.1.isNone)) = false := by rfl) :
    PE X (.Attribute (.Call (.Name c p) [] kws cpos) f apos) (tE J (kwf ks f fa)) :=
  PEi (pe_kwf T hkw hr hg hdb hb hall hks hpl) fun σ H Q ⟨M, r, I, h⟩ => ⟨M, r, I, Out.bind h fun ds r1 vs M1 H1 st1 I1 rd1 h1 => by
    split at h1
    · rename_i hl
      split at h1
      · rename_i d el
        obtain ⟨v, hv, rv⟩ := lookup_rep rd1 el
        exact ⟨by rw [← rd1.length]; exact hl, v, hv, h1 v M1 H1 Step.refl I1 rv⟩
      · exact h1.elim
    · exact h1.elim⟩
theorem PKi {t t' : TA} (h : PK X kws t) (w : ∀ σ H Q, t' σ H Q → t σ H Q) : PK X kws t' := ⟨fun pos pins s σ H Q I q => h.run pos pins s σ H Q I (w σ H Q q)⟩
theorem kw_nil : PK X [] (tA J anil) := PKi pk_nil fun σ H Q ⟨M, r, I, h⟩ => h [] M H Step.refl I rfl
theorem kw_cons {e : Expr} {fe : List Sl → RE D} {nm : Option Str} {kpos : Pos} (ha : PE X e (tE J fe)) (hr : PK X kws (tA J fa)) : PK X (⟨nm, e, kpos⟩ :: kws) (tA J (acons fe fa)) :=
  PKi (pk_cons ha hr) fun σ H Q ⟨M, r, I, h⟩ => ⟨M, r, I, Out.bind h fun d r1 v M1 H1 st1 I1 rd1 h1 =>
    ⟨M1, r1, I1, Out.bind h1 fun ds r2 vs M2 H2 st2 I2 rd2 h2 => h2 (v :: vs) M2 H2 Step.refl I2 ⟨v, vs, rfl, Rep.step st2 I1.md _ _ rd1, rd2⟩⟩⟩
end
end DL

set_option Elab.async false
set_option linter.all false
set_option maxRecDepth 100000
set_option maxHeartbeats 4000000
/-! a caught exception of ours: isinstance; one without fields: raise -/
namespace DLX
open PySem PySem.W PySem.Calls PyProof.Rows PySem.Spec
section
variable {prog : Program} {w : World} {A : Around} {E : Value → Shared → Prop} {s : Shared} {K : Frag} {x D : Addr} {ox : Obj} {od : Option Obj}
/-- what the class at D says -/
structure ClsE (K : Frag) (D : Addr) : Prop where
  g1 : findIn K (.ref D) "__getattribute__" = some (some (.builtin "BaseException.__getattribute__"))
  g2 : findIn K (.ref D) "__getattr__" = some none
  g3 : subIn K (.ref D) (.type "BaseException") = some true
  g4 : hasDictIn K D = true
  g5 : findIn K (.ref D) "__class__" = some (some (.builtin "object.__class__"))
  g6 : specialIn K (.builtin "object.__class__") "__get__" = some (some (.builtin "getset_descriptor.__get__"))
  g7 : takesIn K (.builtin "object.__class__") = some true
  g8 : mroIn K D (.type "object") = some true
theorem ClsE.data (c : ClsE K D) : findObj K D od "__class__" = some (.bind (.builtin "getset_descriptor.__get__") (.builtin "object.__class__")) := by
  obtain ⟨cd, e, _⟩ := any_some c.g4
  unfold findObj
  rw [e, Option.bind_some, c.g5, Option.bind_some]
  simp [c.g6, c.g7]
theorem ClsE.asked (c : ClsE K D) {Q : Option Value → Shared → Prop} (kin : K.In s.heap) (at0 : InstAt s.heap x ox D od) (fin : Q (some (.ref D)) { s with toks := s.toks + 1 }) : wpAny (model prog w) A (getAttr? (.ref x) "__class__") Q E s := by
  have fo := c.data (od := od)
  obtain ⟨hp, gs, dr, tk, os⟩ := s
  have T0 := at0.type (M := model prog w)
  have T1 := looks_findIn (M := model prog w) kin c.g1
  have T2 := looks_findIn (M := model prog w) kin c.g2
  have T3 := looks_find (M := model prog w) kin at0 fo
  have sup : Looks (model prog w) hp (isInstance (.ref x) (.type "BaseException")) true := T0.andThen (looks_subIn kin c.g3)
  have z0 : (false && onTheHeap (Value.builtin "BaseException.__getattribute__")) = false := rfl
  have z2 : (Value.builtin "BaseException.__getattribute__" == Value.builtin "object.__getattribute__") = false := by decide +kernel
  have z1 : (onTheHeap (Value.ref D) && Value.builtin "BaseException.__getattribute__" == Value.builtin "object.__getattribute__") = false := by
    rw [z2]
    rfl
  (unfold getAttr? getAttrBy? getAttrBy)
  refine wpAny_bind (wpAny_mkText (wpAny_bind (wpAny_attempt (wpAny_holding (wpAny_bind (T0.at (wpAny_bind (T1.at ?_))))))))
  show wpAny (model prog w) _ (if (onTheHeap (Value.ref D) && Value.builtin "BaseException.__getattribute__" == Value.builtin "object.__getattribute__") = true then _ else _) _ _ _
  rw [z1, if_neg Bool.false_ne_true]
  (unfold getAttrByItsOwn hookBefore)
  refine wpAny_bind ?_
  rw [if_pos (by rfl : onTheHeap (Value.ref D) = true)]
  refine T2.at ?_
  (refine wpAny_bind (wpAny_attempt (wpAny_holding ?_)))
  unfold callGetattribute
  rw [z0, if_neg Bool.false_ne_true]
  unfold boundAndCalled
  (rw [PySem.F.excAttr_ValueError.ga.bind (.ref x)])
  refine wpAny_bind (wpAny_pure ?_)
  show wpAny (model prog w) _ (call (.builtin "BaseException.__getattribute__") [.ref x, .str "__class__" tk]) _ _ _
  (refine wpAny_call (codeAny_call_builtin PySem.F.excAttr_ValueError.ga.plain PySem.F.entry_bexc_ga ?_))
  refine @check_slot (model prog w) _ _ ⟨hp, gs, dr, tk + 1, os⟩ "BaseException.__getattribute__" "BaseException" "__getattribute__" (.ref x) [.str "__class__" tk] [] _ (by decide +kernel) (by decide +kernel) sup (PySem.F.args_bexc_ga (.ref x) (.str "__class__" tk)) ?_
  (unfold Builtin.«object.__getattribute__»)
  refine wpAny_bind (wpAny_of_eq (a := ((Value.ref x : Value), [Value.str "__class__" tk])) (by first | rfl | (simp only [slotArgs]; rfl)) ?_)
  refine wpAny_bind (wpAny_pure (wpAny_bind (T0.at (wpAny_bind (T3.at ?_)))))
  show wpAny (model prog w) _ (holding [Value.builtin "object.__class__"] (call (.builtin "getset_descriptor.__get__") [.builtin "object.__class__", .ref x, .ref D]) >>= ret) _ _ _
  refine wpAny_bind (wpAny_holding (wpAny_call (class_get (s := ⟨hp, gs, dr, tk + 1, os⟩) (ox := ox) (od := od) kin at0 c.g8 ?_)))
  refine wpAny_pure ?_
  show wpAny (model prog w) _ (handedOut (.ref D)) _ _ _
  (rw [handedOut_of (v := .ref D) rfl])
  first
    | exact wpAny_pure (wpAny_pure fin)
    | exact wpAny_pure fin
    | exact wpAny_pure (wpAny_bind (wpAny_pure (wpAny_pure fin)))
theorem ClsE.kit (c : ClsE K D) : KitX K (.ref x) (.ref D) (fun h => InstAt h x ox D od) where
  ty := fun _ _ _ at0 => at0.type
  it := fun _ _ kin _ => by
    obtain ⟨cd, e, _⟩ := any_some c.g4
    unfold clsIn at e
    split at e
    · rename_i c1 d1 cd1 sl1 lk
      intro A' Q' E' s' k q
      unfold isType loadHead
      exact wpAny_bind (wpAny_loadPart (k _ _ (kin _ _ lk)) (wpAny_pure q))
    · cases e
  ne := fun h tp dd its n sl kin htp => by
    obtain ⟨cd, e, _⟩ := any_some c.g4
    refine Bool.eq_false_iff.mpr fun q => ?_
    have e' : D = tp := Value.ref.inj (beq_iff_eq.mp q)
    subst e'
    unfold clsIn at e
    split at e
    · rename_i c1 d1 cd1 sl1 lk
      have z := (kin _ _ lk).symm.trans htp
      cases z
    · cases e
  ca := fun kin at0 k => c.asked kin at0 k
end
end DLX
namespace DL
open PySem L2 PySem.W
section
variable {X : Cx} {J : Jx} {a : Addr} {oe : Obj} {pn : List (Addr × Obj)}
/-- isinstance(e, c), e the caught exception -/
def rIsX (K : PySem.W.Frag) (oe : Obj) (a : Addr) : List V → Hp → VK → Prop := fun xs H Q => ∃ (C : Addr) (c : V) (cv : Value) (b : Bool) (dd : Option Addr), xs = [.ref a, c] ∧ (∀ u, RelV c u → u = cv) ∧ DLX.ClsE K C ∧ Zc (.ref C) dd oe ∧
  (dd = none ∨ ∃ d fs, dd = some d ∧ H d = some (.xd fs)) ∧ PySem.W.kitOne K (.ref C) cv = some b ∧ Q (.bl b) H
theorem call_isX (hf : ∃ vs, oe.data = .fields vs) : CallR (X.suite a ((a, oe) :: pn)) (.builtin "isinstance") (rIsX X.K oe a) := by
  intro pins s σ H xs us Q I r h
  obtain ⟨C, c, cv, b, dd, rfl, hcv, T, hz, hd, e, q⟩ := h
  cases r with
  | cons rx rr =>
    cases rr with
    | cons rt rr =>
      cases rr
      cases rx
      have ec := hcv _ rt
      subst ec
      obtain ⟨hget, _⟩ := I.pin (a, oe) (List.mem_append_left _ List.mem_cons_self)
      obtain ⟨ovs, hod⟩ := hf
      have J2 : ∃ od, PySem.W.InstAt s.heap a oe C od := by
        rcases hd with rfl | ⟨d, fs, rfl, hH⟩
        · exact ⟨none, hget, hz.1, by unfold PySem.W.notCls; rw [hod] <;> rfl, by rw [hz.2]; trivial⟩
        · have hx2 : ObjOk X.prog X.w H s.heap d (.xd fs) := I.hok d _ hH
          obtain ⟨mA, hns, _⟩ := hx2
          obtain ⟨od, ho, _⟩ := lookIn_ns hns
          exact ⟨some od, hget, hz.1, by unfold PySem.W.notCls; rw [hod] <;> rfl, by rw [hz.2]; exact ho⟩
      obtain ⟨od, J2⟩ := J2
      exact PySem.W.kia_one (T.kit (od := od)) I.kIn J2 e (fun z => nomatch z) fun tk => ⟨.bl b, H, I.kept (t' := tk) fun _ _ z => z, rfl, q⟩
/-- what isinstance says of the caught exception, by its class's name -/
def gisX (i : Nat) (tab : Str → Option Bool) : List Sl → RE D := fun r => match r[i]? with
  | some (.xc x) => (match tab x.c with
    | some b => .ok (.bl b) r
    | none => .bad)
  | _ => .bad
/-- the table is right of the class value cv -/
def IsX (K : PySem.W.Frag) (mg : Str → Option Value) (cv : Value) (tab : Str → Option Bool) : Prop := ∀ c b, tab c = some b → ∃ C, mg c = some (.ref C) ∧ DLX.ClsE K C ∧ PySem.W.kitOne K (.ref C) cv = some b
theorem isx_core {i : Nat} {cls cv : Value} {c : V} {d : Option Addr} {tab : Str → Option Bool} (hmg : X.mg = J.G.mg) (hz : Zc cls d oe) (hJ : J.hx = some (a, cls, d)) (hcv : ∀ u, RelV c u → u = cv) (T : IsX X.K X.mg cv tab)
    {σ : St} {H : Hp} {Q : VK} (h : tE J (gisX i tab) σ H Q) : ∃ v, σ[i]? = some (some v) ∧ rIsX X.K oe a [v, c] H Q := by
  obtain ⟨M, r, S, h⟩ := h
  unfold gisX at h
  split at h
  · rename_i x er
    split at h
    · rename_i b et
      obtain ⟨a', cls', dd', ea, hx', C, hC, rfl, vs, hl, rl, hdd⟩ := S.slot i _ er
      rw [hJ] at hx'
      cases hx'
      obtain ⟨C', hC', T1, T2⟩ := T _ _ et
      rw [hmg, hC] at hC'
      cases hC'
      refine ⟨_, ea, C, c, cv, b, d, rfl, hcv, T1, hz, ?_, T2, h _ M H Step.refl S rfl⟩
      rcases hdd with ⟨_, e⟩ | ⟨d', e, q⟩
      · exact .inl e
      · exact .inr ⟨d', _, e, q⟩
    · exact h.elim
  · exact h.elim
theorem e_isX (i : Nat) {x y : Str} {py p q pos : Pos} {cls : Value} {d : Option Addr} {tab : Str → Option Bool} (hmg : X.mg = J.G.mg) (hz : Zc cls d oe) (hf : ∃ vs, oe.data = .fields vs) (hJ : J.hx = some (a, cls, d)) (T : ∃ S, X.mg x = some (.ref S) ∧ IsX X.K X.mg (.ref S) tab)
    (hx : Gl (X.suite a ((a, oe) :: pn)) "isinstance") (hm : X.mg "isinstance" = none) (hN : X.N[i]? = some y := by rfl) (hv : Vis X.env.scope y := by first | exact Or.inl rfl | exact Or.inr (Or.inl rfl) | exact Or.inr (Or.inr rfl)) (hd : (y == ("__debug__" : Str)) = false := by decide) (hcd : (y == ("__classdict__" : Str)) = false := by decide)
    (hg : Gl (X.suite a ((a, oe) :: pn)) x := by rfl) (hdx : (x == ("__debug__" : Str)) = false := by decide)
    (hs : starEach [.Name y py, .Name x q] X.env = (false, eval (.Name y py) X.env) :: starEach [.Name x q] X.env := by rfl) (hs2 : starEach [.Name x q] X.env = (false, eval (.Name x q) X.env) :: starEach [] X.env := by rfl) (hpl : (backTo pos (starEach [.Name x q] X.env)).any (·.1) = false := by rfl) :
    PE (X.suite a ((a, oe) :: pn)) (.Call (.Name "isinstance" p) [.Name y py, .Name x q] [] pos) (tE J (gisX i tab)) := by
  obtain ⟨S, hS, T⟩ := T
  refine PEi (pe_callB (X := X.suite a ((a, oe) :: pn)) (call_isX hf) hx hm PyProof.Rows.boot_isinstance (pa_cons (pe_var (X := X.suite a ((a, oe) :: pn)) (i := i) hN hv hd hcd) (pa_cons (pe_glob (X := X.suite a ((a, oe) :: pn)) (v := .ref S) hg hS rfl hdx) pa_nil hs2) hs) (by decide) (by decide) hs hpl) fun σ H Q h => ?_
  exact isx_core (c := .ref S) hmg hz hJ (fun u r => r) T h
theorem e_isXb (i : Nat) {x y : Str} {T0 : String} {py p q pos : Pos} {cls : Value} {d : Option Addr} {tab : Str → Option Bool} (hmg : X.mg = J.G.mg) (hz : Zc cls d oe) (hf : ∃ vs, oe.data = .fields vs) (hJ : J.hx = some (a, cls, d)) (T : IsX X.K X.mg (.type T0) tab)
    (hx : Gl (X.suite a ((a, oe) :: pn)) "isinstance") (hm : X.mg "isinstance" = none) (hg : Gl (X.suite a ((a, oe) :: pn)) x) (hmx : X.mg x = none) (hbt : bootBuiltins x = some (.type T0)) (hN : X.N[i]? = some y := by rfl) (hv : Vis X.env.scope y := by first | exact Or.inl rfl | exact Or.inr (Or.inl rfl) | exact Or.inr (Or.inr rfl)) (hd : (y == ("__debug__" : Str)) = false := by decide) (hcd : (y == ("__classdict__" : Str)) = false := by decide)
    (hn : x ≠ "__name__" := by decide) (hdx : (x == ("__debug__" : Str)) = false := by decide)
    (hs : starEach [.Name y py, .Name x q] X.env = (false, eval (.Name y py) X.env) :: starEach [.Name x q] X.env := by rfl) (hs2 : starEach [.Name x q] X.env = (false, eval (.Name x q) X.env) :: starEach [] X.env := by rfl) (hpl : (backTo pos (starEach [.Name x q] X.env)).any (·.1) = false := by rfl) :
    PE (X.suite a ((a, oe) :: pn)) (.Call (.Name "isinstance" p) [.Name y py, .Name x q] [] pos) (tE J (gisX i tab)) := by
  refine PEi (pe_callB (X := X.suite a ((a, oe) :: pn)) (call_isX hf) hx hm PyProof.Rows.boot_isinstance (pa_cons (pe_var (X := X.suite a ((a, oe) :: pn)) (i := i) hN hv hd hcd) (pa_cons (pe_tyN (X := X.suite a ((a, oe) :: pn)) hg hmx hbt hn hdx) pa_nil hs2) hs) (by decide) (by decide) hs hpl) fun σ H Q h => ?_
  exact isx_core (c := .ty T0) hmg hz hJ (fun u r => r) T h
end

/-! ### raise X(), X without own __init__ -/
structure HasE0 (K : PySem.W.Frag) (mg : Str → Option Value) (c : Str) : Prop where
  ex : ∃ (C : Addr) (bmB : List Value) (B newId initId : String), PySem.ExcBaseFacts B newId initId bmB ∧ mg c = some (.ref C) ∧ PySem.W.excIn K C bmB newId = true ∧ PySem.W.keepIn K (.ref C) = true ∧ PySem.W.subIn K (.ref C) (.type "BaseException") = some true ∧ PySem.W.typeIn K (.ref C) = some (.type "type")
section
variable {X : Cx} {J : Jx} {c : Str} {p pos pos2 : Pos}
theorem pmk_own0 {C : Addr} {bmB : List Value} {B newId initId : String} (fx : PySem.ExcBaseFacts B newId initId bmB) (gC : X.mg c = some (.ref C)) (q : PySem.W.excIn X.K C bmB newId = true) (kC : PySem.W.keepIn X.K (.ref C) = true) (r : Raises X (.ref C)) (hg : Gl X c) (hdb : (c == ("__debug__" : Str)) = false) :
    PMk X (.Call (.Name c p) [] [] pos) (fun _ H Q => Q (.ref C) none H) := by
  intro pins s σ H Q I h
  refine wpAny_Call_Name_kw (ld_glob I hg gC ?_ hdb)
  refine PySem.W.callWith_K0 I.kIn kC ?_
  show wpAny (model X.prog X.w) _ (PySem.call (.ref C) []) _ _ _
  obtain ⟨bm, nsA, nm, qn, bs, hd, sn, sb, ab, co, dd, j0, j1, j2, j3, j5, mN, h1, h2, h3, T⟩ := exc_obj I.kIn q
  refine wpAny_call_exc_subT fx T h1 h2 h3 (fun h' e hm => ?_) (Nat.zero_le _)
  exact mk_of I hm r h (I.hok.gone hm.new)
def sraise0 (c : Str) : List Sl → RS := fun r => .exn ⟨c, [], []⟩ r
theorem r_ex0 (hG : J.G = ⟨X.K, X.mg⟩) (T : HasE0 X.K X.mg c) (hc : X.calm = true) (tk : Takes X J.W) (hg : Gl X c := by rfl) (hdb : (c == ("__debug__" : Str)) = false := by decide) :
    PS X (.Raise (some (.Call (.Name c p) [] [] pos)) none pos2) (tS J (sraise0 c)) := by
  obtain ⟨C, bmB, B, newId, initId, fx, gC, q, kC, exC, tyC⟩ := T.ex
  refine PSi (ps_raise hc tk (pmk_own0 fx gC q kC (raises_own exC tyC) hg hdb)) fun E σ H ⟨M, r, I, h⟩ => ?_
  exact h (.ref C) none M σ H Step.refl I ⟨C, by rw [hG]; exact gC, rfl, [], rfl, rfl, .inl ⟨rfl, rfl⟩⟩
end
end DL

set_option Elab.async false
set_option linter.all false
set_option maxRecDepth 100000
set_option maxHeartbeats 4000000
/-! our exceptions with two fields, and by keywords (printed by mkDMY.py out of DLN) -/
namespace DL
open PySem L2 PySem.W
theorem zipl1 {α : Type} {f y : Str} {v : α} : (([f].zip [v]).lookup y) = if y = f then some v else none := by
  by_cases e : y = f
  · subst e; simp [List.lookup]
  · have q : (y == f) = false := by simpa using e
    rw [if_neg e]; simp [List.lookup, q]
theorem zipl2 {α : Type} {f g y : Str} {v u : α} (n : (f == g) = false) : (([f, g].zip [v, u]).lookup y) = if y = g then some u else if y = f then some v else none := by
  have n' : ¬ f = g := by simpa using n
  by_cases e : y = g
  · subst e
    have q : (y == f) = false := by simpa using fun z : y = f => n' z.symm
    simp [List.lookup, q]
  · have q : (y == g) = false := by simpa using e
    rw [if_neg e]
    by_cases e2 : y = f
    · subst e2; simp [List.lookup]
    · have q2 : (y == f) = false := by simpa using e2
      rw [if_neg e2]; simp [List.lookup, q, q2]
theorem zipl2r {α : Type} {f g y : Str} {v u : α} (n : (f == g) = false) : (([g, f].zip [u, v]).lookup y) = if y = g then some u else if y = f then some v else none := by
  by_cases e : y = g
  · subst e; simp [List.lookup]
  · have q : (y == g) = false := by simpa using e
    rw [if_neg e]
    by_cases e2 : y = f
    · subst e2; simp [List.lookup, q]
    · have q2 : (y == f) = false := by simpa using e2
      rw [if_neg e2]; simp [List.lookup, q, q2]
theorem hasKw1 {P : Program} {w : World} {K : PySem.W.Frag} {mg : Str → Option Value} {c f q : Str} {C fI : Addr} {p0 p1 ap q1 pos pos' a1 a2 a3 a4 u1 u2 : Pos} (T : DLX.Cl P K mg c C fI [f])
    (N : DLX.Fn P K fI C q (DLX.args1 f u1 u2) (DLX.body1 f p0 p1 ap q1 pos pos' a1 a2 a3 a4) (DLX.scope1 f)) (hne : (("self" : Str) == f) = false := by decide) (hd : (f == ("__debug__" : Str)) = false := by decide)
    (lf : (DLX.scope1 f).names.lookup f = some .local := by rfl) (lk : (DLX.scope1 f).names.lookup ("super" : Str) = some .globalImplicit := by rfl) (lc : (DLX.scope1 f).names.lookup ("__class__" : Str) = some .free := by rfl)
    (hbd : ∀ (doc pm ct : Value) (an : Option Addr) (cda cc : Addr) (y z : Value), bindArgs (PySem.W.ksFn "__init__" q (DLX.args1 f u1 u2) (DLX.body1 f p0 p1 ap q1 pos pos' a1 a2 a3 a4) (DLX.scope1 f) .none .none doc pm an (.ref cda) ct cc) ⟨[y], [(f, z)]⟩ = pure [(("self" : Str), y), (f, z)] := by intros; rfl)
    (hev : ∀ (L cda cc : Addr), ∃ pl, eval (.Call (.Attribute (.Call (.Name "super" p0) [] [] p1) "__init__" ap) [.Name f q1] [] pos) (PySem.W.ksEnv q (DLX.scope1 f) L fI (.ref cda) cc) = (do
      let ov ← attributeBase (.Call (.Name "super" p0) [] [] p1) "__init__" (PySem.W.ksEnv q (DLX.scope1 f) L fI (.ref cda) cc) (eval (.Call (.Name "super" p0) [] [] p1) (PySem.W.ksEnv q (DLX.scope1 f) L fI (.ref cda) cc))
      standAt ap.atName
      let (g, first) ← holding [ov] (getMethod ov "__init__" pl)
      callWith pos g first (backTo pos (starEach [.Name f q1] (PySem.W.ksEnv q (DLX.scope1 f) L fI (.ref cda) cc))) []) := by intros; exact ⟨_, rfl⟩)
    (hsw1 : ∀ (L cda cc : Addr), swapsWith (.Call (.Attribute (.Call (.Name "super" p0) [] [] p1) "__init__" ap) [.Name f q1] [] pos) none pos'.line (PySem.W.ksEnv q (DLX.scope1 f) L fI (.ref cda) cc) = pure false := by intros; rfl)
    (hsw2 : ∀ (L cda cc : Addr), swapsWith (.Name f a3) (some (.Attribute (.Name "self" a1) f a2)) a4.line (PySem.W.ksEnv q (DLX.scope1 f) L fI (.ref cda) cc) = pure false := by intros; rfl) : HasKw P w K mg c [f] := by
  refine ⟨C, fI, [f], T, ?_, fun k hk => hk⟩
  intro A R s mb x t0 us hl kx hlim hg hb hbb hx hnx hroom hq
  match us, hl with
  | [v], _ => exact DLX.kw_init1 (ag := fun y z => ⟨[y], [(f, z)]⟩) T N (List.mem_singleton_self _) hne hd lf lk lc hbd hev hsw1 hsw2 kx hlim hg hb hbb hx hnx hroom fun h' tk dx q => hq h' tk dx _ q fun y => zipl1.symm
theorem hasEx2 {P : Program} {w : World} {K : PySem.W.Frag} {mg : Str → Option Value} {c f g q : Str} {C fI : Addr} {p0 p1 ap q1 q2 pos pos' a1 a2 a3 a4 b1 b2 b3 b4 u1 u2 u3 : Pos} (T : DLX.Cl P K mg c C fI [f, g])
    (N : DLX.Fn P K fI C q (DLX.args2 f g u1 u2 u3) (DLX.body2 f g p0 p1 ap q1 q2 pos pos' a1 a2 a3 a4 b1 b2 b3 b4) (DLX.scope2 f g)) (hne2 : (("self" : Str) == g) = false := by decide) (hfg : (f == g) = false := by decide) (hgd : (g == ("__debug__" : Str)) = false := by decide) (lg : (DLX.scope2 f g).names.lookup g = some .local := by rfl) (hne : (("self" : Str) == f) = false := by decide) (hd : (f == ("__debug__" : Str)) = false := by decide)
    (lf : (DLX.scope2 f g).names.lookup f = some .local := by rfl) (lk : (DLX.scope2 f g).names.lookup ("super" : Str) = some .globalImplicit := by rfl) (lc : (DLX.scope2 f g).names.lookup ("__class__" : Str) = some .free := by rfl)
    (hbd : ∀ (doc pm ct : Value) (an : Option Addr) (cda cc : Addr) (y z z2 : Value), bindArgs (PySem.W.ksFn "__init__" q (DLX.args2 f g u1 u2 u3) (DLX.body2 f g p0 p1 ap q1 q2 pos pos' a1 a2 a3 a4 b1 b2 b3 b4) (DLX.scope2 f g) .none .none doc pm an (.ref cda) ct cc) ⟨[y, z, z2], []⟩ = pure [(("self" : Str), y), (f, z), (g, z2)] := by intros; rfl)
    (hev : ∀ (L cda cc : Addr), ∃ pl, eval (.Call (.Attribute (.Call (.Name "super" p0) [] [] p1) "__init__" ap) [.Name f q1, .Name g q2] [] pos) (PySem.W.ksEnv q (DLX.scope2 f g) L fI (.ref cda) cc) = (do
      let ov ← attributeBase (.Call (.Name "super" p0) [] [] p1) "__init__" (PySem.W.ksEnv q (DLX.scope2 f g) L fI (.ref cda) cc) (eval (.Call (.Name "super" p0) [] [] p1) (PySem.W.ksEnv q (DLX.scope2 f g) L fI (.ref cda) cc))
      standAt ap.atName
      let (gm, first) ← holding [ov] (getMethod ov "__init__" pl)
      callWith pos gm first (backTo pos (starEach [.Name f q1, .Name g q2] (PySem.W.ksEnv q (DLX.scope2 f g) L fI (.ref cda) cc))) []) := by intros; exact ⟨_, rfl⟩)
    (hsw1 : ∀ (L cda cc : Addr), swapsWith (.Call (.Attribute (.Call (.Name "super" p0) [] [] p1) "__init__" ap) [.Name f q1, .Name g q2] [] pos) none pos'.line (PySem.W.ksEnv q (DLX.scope2 f g) L fI (.ref cda) cc) = pure false := by intros; rfl)
    (hsw3 : ∀ (L cda cc : Addr), swapsWith (.Name g b3) (some (.Attribute (.Name "self" b1) g b2)) b4.line (PySem.W.ksEnv q (DLX.scope2 f g) L fI (.ref cda) cc) = pure false := by intros; rfl)
    (hsw2 : ∀ (L cda cc : Addr), swapsWith (.Name f a3) (some (.Attribute (.Name "self" a1) f a2)) a4.line (PySem.W.ksEnv q (DLX.scope2 f g) L fI (.ref cda) cc) = pure false := by intros; rfl) : HasEx P w K mg c [f, g] := by
  refine ⟨C, fI, fun us y => ([f, g].zip us).lookup y, T, ?_, ?_⟩
  · intro A R s mb x t0 us hl kx hlim hg hb hbb hx hnx hroom hq
    match us, hl with
    | [v, u], _ =>
      refine DLX.held_init2 T N List.mem_cons_self (List.mem_cons_of_mem _ (List.mem_singleton_self _)) hne2 hfg hgd lg hne hd lf lk lc hbd hev hsw1 hsw3 hsw2 kx hlim hg hb hbb hx hnx hroom fun h' tk dx z => hq h' tk dx ?_
      have e : (fun y => ([f, g].zip [v, u]).lookup y) = fun y => if y = g then some u else if y = f then some v else none := funext fun y => zipl2 hfg
      show DLX.End s.heap h' x C dx (fun y => ([f, g].zip [v, u]).lookup y)
      rw [e]; exact z
  · intro vs us hl rv k
    match vs, hl, rv with
    | [v, u], _, .cons r1 (.cons r2 .nil) =>
      show RelO (([f, g].zip [v, u]).lookup k) (([f, g].zip _).lookup k)
      rw [zipl2 hfg, zipl2 hfg]
      split
      · exact r2
      · split
        · exact r1
        · trivial
theorem hasKw2 {P : Program} {w : World} {K : PySem.W.Frag} {mg : Str → Option Value} {c f g q : Str} {C fI : Addr} {p0 p1 ap q1 q2 pos pos' a1 a2 a3 a4 b1 b2 b3 b4 u1 u2 u3 : Pos} (T : DLX.Cl P K mg c C fI [f, g])
    (N : DLX.Fn P K fI C q (DLX.args2 f g u1 u2 u3) (DLX.body2 f g p0 p1 ap q1 q2 pos pos' a1 a2 a3 a4 b1 b2 b3 b4) (DLX.scope2 f g)) (hne2 : (("self" : Str) == g) = false := by decide) (hfg : (f == g) = false := by decide) (hgd : (g == ("__debug__" : Str)) = false := by decide) (lg : (DLX.scope2 f g).names.lookup g = some .local := by rfl) (hne : (("self" : Str) == f) = false := by decide) (hd : (f == ("__debug__" : Str)) = false := by decide)
    (lf : (DLX.scope2 f g).names.lookup f = some .local := by rfl) (lk : (DLX.scope2 f g).names.lookup ("super" : Str) = some .globalImplicit := by rfl) (lc : (DLX.scope2 f g).names.lookup ("__class__" : Str) = some .free := by rfl)
    (hbd : ∀ (doc pm ct : Value) (an : Option Addr) (cda cc : Addr) (y z z2 : Value), bindArgs (PySem.W.ksFn "__init__" q (DLX.args2 f g u1 u2 u3) (DLX.body2 f g p0 p1 ap q1 q2 pos pos' a1 a2 a3 a4 b1 b2 b3 b4) (DLX.scope2 f g) .none .none doc pm an (.ref cda) ct cc) ⟨[y], [(f, z), (g, z2)]⟩ = pure [(("self" : Str), y), (f, z), (g, z2)] := by intros; rfl)
    (hev : ∀ (L cda cc : Addr), ∃ pl, eval (.Call (.Attribute (.Call (.Name "super" p0) [] [] p1) "__init__" ap) [.Name f q1, .Name g q2] [] pos) (PySem.W.ksEnv q (DLX.scope2 f g) L fI (.ref cda) cc) = (do
      let ov ← attributeBase (.Call (.Name "super" p0) [] [] p1) "__init__" (PySem.W.ksEnv q (DLX.scope2 f g) L fI (.ref cda) cc) (eval (.Call (.Name "super" p0) [] [] p1) (PySem.W.ksEnv q (DLX.scope2 f g) L fI (.ref cda) cc))
      standAt ap.atName
      let (gm, first) ← holding [ov] (getMethod ov "__init__" pl)
      callWith pos gm first (backTo pos (starEach [.Name f q1, .Name g q2] (PySem.W.ksEnv q (DLX.scope2 f g) L fI (.ref cda) cc))) []) := by intros; exact ⟨_, rfl⟩)
    (hsw1 : ∀ (L cda cc : Addr), swapsWith (.Call (.Attribute (.Call (.Name "super" p0) [] [] p1) "__init__" ap) [.Name f q1, .Name g q2] [] pos) none pos'.line (PySem.W.ksEnv q (DLX.scope2 f g) L fI (.ref cda) cc) = pure false := by intros; rfl)
    (hsw3 : ∀ (L cda cc : Addr), swapsWith (.Name g b3) (some (.Attribute (.Name "self" b1) g b2)) b4.line (PySem.W.ksEnv q (DLX.scope2 f g) L fI (.ref cda) cc) = pure false := by intros; rfl)
    (hsw2 : ∀ (L cda cc : Addr), swapsWith (.Name f a3) (some (.Attribute (.Name "self" a1) f a2)) a4.line (PySem.W.ksEnv q (DLX.scope2 f g) L fI (.ref cda) cc) = pure false := by intros; rfl) : HasKw P w K mg c [f, g] := by
  refine ⟨C, fI, [f, g], T, ?_, fun k hk => hk⟩
  intro A R s mb x t0 us hl kx hlim hg hb hbb hx hnx hroom hq
  match us, hl with
  | [v, u], _ => exact DLX.kw_init2 (ag := fun y z z2 => ⟨[y], [(f, z), (g, z2)]⟩) T N List.mem_cons_self (List.mem_cons_of_mem _ (List.mem_singleton_self _)) hne2 hfg hgd lg hne hd lf lk lc hbd hev hsw1 hsw3 hsw2 kx hlim hg hb hbb hx hnx hroom fun h' tk dx q => hq h' tk dx _ q fun y => (zipl2 hfg).symm
theorem hasKw2r {P : Program} {w : World} {K : PySem.W.Frag} {mg : Str → Option Value} {c f g q : Str} {C fI : Addr} {p0 p1 ap q1 q2 pos pos' a1 a2 a3 a4 b1 b2 b3 b4 u1 u2 u3 : Pos} (T : DLX.Cl P K mg c C fI [f, g])
    (N : DLX.Fn P K fI C q (DLX.args2 f g u1 u2 u3) (DLX.body2 f g p0 p1 ap q1 q2 pos pos' a1 a2 a3 a4 b1 b2 b3 b4) (DLX.scope2 f g)) (hne2 : (("self" : Str) == g) = false := by decide) (hfg : (f == g) = false := by decide) (hgd : (g == ("__debug__" : Str)) = false := by decide) (lg : (DLX.scope2 f g).names.lookup g = some .local := by rfl) (hne : (("self" : Str) == f) = false := by decide) (hd : (f == ("__debug__" : Str)) = false := by decide)
    (lf : (DLX.scope2 f g).names.lookup f = some .local := by rfl) (lk : (DLX.scope2 f g).names.lookup ("super" : Str) = some .globalImplicit := by rfl) (lc : (DLX.scope2 f g).names.lookup ("__class__" : Str) = some .free := by rfl)
    (hbd : ∀ (doc pm ct : Value) (an : Option Addr) (cda cc : Addr) (y z z2 : Value), bindArgs (PySem.W.ksFn "__init__" q (DLX.args2 f g u1 u2 u3) (DLX.body2 f g p0 p1 ap q1 q2 pos pos' a1 a2 a3 a4 b1 b2 b3 b4) (DLX.scope2 f g) .none .none doc pm an (.ref cda) ct cc) ⟨[y], [(g, z2), (f, z)]⟩ = pure [(("self" : Str), y), (f, z), (g, z2)] := by intros; rfl)
    (hev : ∀ (L cda cc : Addr), ∃ pl, eval (.Call (.Attribute (.Call (.Name "super" p0) [] [] p1) "__init__" ap) [.Name f q1, .Name g q2] [] pos) (PySem.W.ksEnv q (DLX.scope2 f g) L fI (.ref cda) cc) = (do
      let ov ← attributeBase (.Call (.Name "super" p0) [] [] p1) "__init__" (PySem.W.ksEnv q (DLX.scope2 f g) L fI (.ref cda) cc) (eval (.Call (.Name "super" p0) [] [] p1) (PySem.W.ksEnv q (DLX.scope2 f g) L fI (.ref cda) cc))
      standAt ap.atName
      let (gm, first) ← holding [ov] (getMethod ov "__init__" pl)
      callWith pos gm first (backTo pos (starEach [.Name f q1, .Name g q2] (PySem.W.ksEnv q (DLX.scope2 f g) L fI (.ref cda) cc))) []) := by intros; exact ⟨_, rfl⟩)
    (hsw1 : ∀ (L cda cc : Addr), swapsWith (.Call (.Attribute (.Call (.Name "super" p0) [] [] p1) "__init__" ap) [.Name f q1, .Name g q2] [] pos) none pos'.line (PySem.W.ksEnv q (DLX.scope2 f g) L fI (.ref cda) cc) = pure false := by intros; rfl)
    (hsw3 : ∀ (L cda cc : Addr), swapsWith (.Name g b3) (some (.Attribute (.Name "self" b1) g b2)) b4.line (PySem.W.ksEnv q (DLX.scope2 f g) L fI (.ref cda) cc) = pure false := by intros; rfl)
    (hsw2 : ∀ (L cda cc : Addr), swapsWith (.Name f a3) (some (.Attribute (.Name "self" a1) f a2)) a4.line (PySem.W.ksEnv q (DLX.scope2 f g) L fI (.ref cda) cc) = pure false := by intros; rfl) : HasKw P w K mg c [g, f] := by
  refine ⟨C, fI, [f, g], T, ?_, fun k hk => by
    rcases List.mem_cons.mp hk with rfl | hk
    · exact List.mem_cons_of_mem _ (List.mem_singleton_self _)
    · rcases List.mem_cons.mp hk with rfl | hk
      · exact List.mem_cons_self
      · cases hk⟩
  intro A R s mb x t0 us hl kx hlim hg hb hbb hx hnx hroom hq
  match us, hl with
  | [u, v], _ => exact DLX.kw_init2 (ag := fun y z z2 => ⟨[y], [(g, z2), (f, z)]⟩) T N List.mem_cons_self (List.mem_cons_of_mem _ (List.mem_singleton_self _)) hne2 hfg hgd lg hne hd lf lk lc hbd hev hsw1 hsw3 hsw2 kx hlim hg hb hbb hx hnx hroom fun h' tk dx q => hq h' tk dx _ q fun y => (zipl2r hfg).symm
theorem IsX.nil {K : PySem.W.Frag} {mg : Str → Option Value} {cv : Value} : IsX K mg cv fun x => ([] : List (Str × Bool)).lookup x := fun c b e => by cases e
theorem IsX.cons {K : PySem.W.Frag} {mg : Str → Option Value} {cv : Value} {c : Str} {C : Addr} {b : Bool} {L : List (Str × Bool)} (hm : mg c = some (.ref C)) (hc : DLX.ClsE K C) (he : PySem.W.kitOne K (.ref C) cv = some b) (h : IsX K mg cv fun x => L.lookup x) : IsX K mg cv fun x => ((c, b) :: L).lookup x := by
  intro n b' e
  have e : ((c, b) :: L).lookup n = some b' := e
  rw [List.lookup_cons] at e
  cases q : (n == c) with
  | true =>
    rw [q] at e
    cases e
    have : n = c := by simpa using q
    subst this
    exact ⟨C, hm, hc, he⟩
  | false => rw [q] at e; exact h n b' e
abbrev bmVE : List Value := [.type "ValueError", .type "Exception", .type "BaseException", .type "object"]
example : PySem.ExcBaseFacts "ValueError" "ValueError.__new__" "ValueError.__init__" bmVE := PySem.F.excBase_ValueError
end DL

set_option Elab.async false
set_option linter.all false
set_option maxRecDepth 100000
set_option maxHeartbeats 4000000
namespace DL
open PySem
open L2 (atI ixN)

/-! ### reading deep functions: what each word does with the slots -/
section
variable {r : List Sl} {α β : Type}
theorem bind_ok {a : α} {k : α → List Sl → RE β} : (RE.ok a r).bind k = k a r := rfl
theorem bind_exn {x : Xn} {k : α → List Sl → RE β} : (RE.exn x r : RE α).bind k = .exn x r := rfl
theorem bind_bad {k : α → List Sl → RE β} : (RE.bad : RE α).bind k = .bad := rfl
theorem s_ok {a : α} {k : α → List Sl → RS} : (RE.ok a r).s k = k a r := rfl
theorem s_exn {x : Xn} {k : α → List Sl → RS} : (RE.exn x r : RE α).s k = .exn x r := rfl
theorem s_bad {k : α → List Sl → RS} : (RE.bad : RE α).s k = .bad := rfl
theorem rd_ap {i : Nat} : rd i r = match r[i]? with
  | some (.val d) => .ok d r
  | some (.own d) => .ok d (r.set i (.val d))
  | _ => .bad := rfl
theorem pk_ap {i : Nat} : pk i r = match r[i]? with
  | some (.val d) => .ok d r
  | some (.own d) => .ok d r
  | some (.io d) => .ok d r
  | _ => .bad := rfl
theorem cst_ap {d : D} : cst d r = .ok d r := rfl
theorem lift_some {d : D} : liftO (some d) r = .ok d r := rfl
theorem lift_none : liftO none r = .bad := rfl
variable {g g' : D → D → Option D} {h : D → Option D} {fa fb fc : List Sl → RE D} {fs : List Sl → RE (List D)} {ta tb : List Sl → RE Bool} {sa sb : List Sl → RS} {i j : Nat}
theorem bin_ap : bin g fa fb r = (fa r).bind fun x r1 => (fb r1).bind fun y r2 => liftO (g x y) r2 := rfl
theorem has_ap : has i r = match pk i r with
  | .ok _ _ => true
  | _ => false := rfl
theorem binL_ap : binL g i fb r = if has i r then (fb r).bind fun y r1 => (pk i r1).bind fun x r2 => liftO (g x y) r2 else .bad := rfl
theorem un_ap : un h fa r = (fa r).bind fun x r1 => liftO (h x) r1 := rfl
theorem anil_ap : anil r = .ok [] r := rfl
theorem acons_ap : acons fa fs r = (fa r).bind fun d r1 => (fs r1).bind fun ds r2 => .ok (d :: ds) r2 := rfl
theorem mkTup_ap : mkTup fs r = (fs r).bind fun ds r1 => if ds.length ≤ LIM then .ok (.tup ds) r1 else .bad := rfl
theorem mkLst_ap : mkLst fs r = (fs r).bind fun ds r1 => if ds.length ≤ LIM then .ok (.lst ds) r1 else .bad := rfl
theorem asB_bl {b : Bool} : asB (.bl b) r = .ok b r := rfl
theorem tv_ap : tv fa r = (fa r).bind asB := rfl
theorem tnot_ap : tnot ta r = (ta r).bind fun b r1 => .ok (!b) r1 := rfl
theorem tand_ap : tand ta tb r = (ta r).bind fun b r1 => if b = true then tb r1 else .ok false r1 := rfl
theorem tor_ap : tor ta tb r = (ta r).bind fun b r1 => if b = true then .ok true r1 else tb r1 := rfl
theorem vand_ap : vand fa fb r = (fa r).bind fun x r1 => (asB x r1).bind fun b r2 => if b = true then fb r2 else .ok (.bl false) r2 := rfl
theorem vor_ap : vor fa fb r = (fa r).bind fun x r1 => (asB x r1).bind fun b r2 => if b = true then .ok (.bl true) r2 else fb r2 := rfl
theorem vnot_ap : vnot fa r = (fa r).bind fun x r1 => (asB x r1).bind fun b r2 => .ok (.bl (!b)) r2 := rfl
theorem vif_ap : vif ta fa fb r = (ta r).bind fun b r1 => if b = true then fa r1 else fb r1 := rfl
theorem vchain_ap : vchain g g' fa fb fc r = (fa r).bind fun x r1 => (fb r1).bind fun y r2 => (liftO (g x y) r2).bind fun z r3 => (asB z r3).bind fun k r4 => if k = true then (fc r4).bind fun w r5 => liftO (g' y w) r5 else .ok (.bl false) r4 := rfl
theorem sasg_ap : sasg i fa r = (fa r).s fun d r1 => .nx (r1.set i (.val d)) := rfl
theorem sown_ap : sown i fa r = (fa r).s fun d r1 => .nx (r1.set i (.own d)) := rfl
theorem sif_ap : sif ta sa sb r = (ta r).s fun b r1 => if b = true then sa r1 else sb r1 := rfl
theorem sret_ap : sret fa r = (fa r).s fun d r1 => .rt d r1 := rfl
theorem sexp_ap : sexp fa r = (fa r).s fun _ r1 => .nx r1 := rfl
theorem snx_ap : snx r = .nx r := rfl
theorem sseq_ap : sseq sa sb r = match sa r with
  | .nx r' => sb r'
  | o => o := rfl
theorem sseq_nx {r' : List Sl} (e : sa r = .nx r') : sseq sa sb r = sb r' := by rw [sseq_ap, e]
theorem sseq_rt {r' : List Sl} {d : D} (e : sa r = .rt d r') : sseq sa sb r = .rt d r' := by rw [sseq_ap, e]
theorem sseq_exn {r' : List Sl} {x : Xn} (e : sa r = .exn x r') : sseq sa sb r = .exn x r' := by rw [sseq_ap, e]
theorem spar_ap : spar i j fs r = (fs r).s fun ds r1 => match ds with
  | [d, d'] => .nx ((r1.set i (.val d)).set j (.val d'))
  | _ => .bad := rfl
theorem stg_ap {t : D → List Sl → RS} : stg fa t r = (fa r).s t := rfl
theorem gnm_ap {d : D} : gnm i d r = .nx (r.set i (.val d)) := rfl
theorem gnil_ap : gnil [] r = .nx r := rfl
theorem gcons_ap {t : D → List Sl → RS} {ts : List D → List Sl → RS} {d : D} {ds : List D} : gcons t ts (d :: ds) r = (match t d r with
    | .nx r1 => ts ds r1
    | _ => .bad) := rfl
theorem gtp_ap {n : Nat} {ts : List D → List Sl → RS} {ds : List D} : gtp n ts (.tup ds) r = if ds.length = n then ts ds r else .bad := rfl
theorem call_ap {F : List D → RF} : call F fs r = (fs r).bind fun ds r1 => doF (F ds) r1 := rfl
theorem doF_ok {d io : D} : doF (.ok d io) r = .ok d r := rfl
theorem doF_exn {x : Xn} {io : D} : doF (.exn x io) r = .exn x r := rfl
theorem callB_ap {F : List D → RF} : callB F fs r = (fs r).bind fun ds r1 => doFB (F ds) r1 := rfl
theorem apk_ap : apk i fs r = if has i r then (fs r).bind fun ds r1 => (pk i r1).bind fun d r2 => .ok (d :: ds) r2 else .bad := rfl
theorem doFB_ok {d io : D} : doFB (.ok d io) r = if imm d = true then .ok d r else .bad := rfl
theorem isOwn_ap : isOwn i r = match r[i]? with
  | some (.own _) => true
  | some (.io _) => true
  | _ => false := rfl
theorem callI_ap {F : List D → RF} : callI i F fs r = if isOwn i r = true then (fs r).bind fun ds r1 => doI i F ds r1 else .bad := rfl
theorem doI_ap {F : List D → RF} {ds : List D} : doI i F ds r = (match r[i]? with
  | some (.own o) => (match F (o :: ds) with
    | .ok d o' => .ok d (r.set i (.own o'))
    | .exn x o' => .exn x (r.set i (.own o'))
    | .bad => .bad)
  | some (.io o) => (match F (o :: ds) with
    | .ok d o' => .ok d (r.set i (.io o'))
    | .exn x o' => .exn x (r.set i (.io o'))
    | .bad => .bad)
  | _ => .bad) := rfl
theorem putOwn_ap {u : D → Option D} : putOwn i r u = match r[i]? with
  | some (.own d) => (u d).map fun d' => r.set i (.own d')
  | some (.io d) => (u d).map fun d' => r.set i (.io d')
  | _ => none := rfl
theorem setD_ap {xs : List D} {z : Int} {v : D} : setD (.int z) v (.lst xs) = (ixN xs.length z).map fun j => .lst (xs.set j v) := rfl
theorem sset_ap : sset i fa fb r = (fa r).s fun v r1 => if isOwn i r1 = true then (fb r1).s fun k r2 => (match putOwn i r2 (setD k v) with
  | some r3 => .nx r3
  | none => .bad) else .bad := rfl
theorem isLst_ap : isLst i r = match r[i]? with
  | some (.own (.lst _)) => true
  | some (.io (.lst _)) => true
  | _ => false := rfl
theorem mutl_ap {u : D → List D → Option (D × D)} : mutl i u fs r = if isLst i r = true then mutm i u fs r else .bad := rfl
theorem mutm_ap {u : D → List D → Option (D × D)} : mutm i u fs r = if isOwn i r = true then (fs r).bind fun ds r1 => (match r1[i]? with
  | some (.own o) => (match u o ds with
    | some (res, o') => .ok res (r1.set i (.own o'))
    | none => .bad)
  | some (.io o) => (match u o ds with
    | some (res, o') => .ok res (r1.set i (.io o'))
    | none => .bad)
  | _ => .bad) else .bad := rfl
theorem sraise_ap {c : Str} {ns : List Str} : sraise c ns fs r = (fs r).s fun ds r1 => if ds.length = ns.length then .exn ⟨c, ns, ds⟩ r1 else .bad := rfl
theorem slcL_ap {fl fh : List Sl → RE (Option Int)} : slcL i fl fh r = if has i r then (fl r).bind fun lo r2 => (fh r2).bind fun hi r3 => (pk i r3).bind fun x r4 => liftO (gSl lo hi x) r4 else .bad := rfl
theorem slc_ap {fl fh : List Sl → RE (Option Int)} : slc fa fl fh r = (fa r).bind fun x r1 => (fl r1).bind fun lo r2 => (fh r2).bind fun hi r3 => liftO (gSl lo hi x) r3 := rfl
theorem pno_ap : pno r = .ok none r := rfl
theorem psome_ap : psome fa r = (fa r).bind fun d r1 => match d with
  | .int i => .ok (some i) r1
  | _ => .bad := rfl
theorem unN_ap {u : D → Option (List D)} : unN u fa r = (fa r).bind fun x r1 => match u x with
  | some ds => .ok (.lst ds) r1
  | none => .bad := rfl
theorem iseq_ap : iseq fa r = (fa r).bind fun x r1 => match gSeq x with
  | some ds => .ok ds r1
  | none => .bad := rfl
theorem irng1_ap : irng1 fa r = (fa r).bind fun d r1 => match d with
  | .int j => if small j = true then .ok (rngL 0 j) r1 else .bad
  | _ => .bad := rfl
theorem irng2_ap : irng2 fa fb r = (fa r).bind fun d r1 => (fb r1).bind fun d' r2 => match d, d' with
  | .int i, .int j => if (small i && small j) = true then .ok (rngL i j) r2 else .bad
  | _, _ => .bad := rfl
theorem lrng_ap : lrng fa fb r = (fa r).bind fun d r1 => (fb r1).bind fun d' r2 => match d, d' with
  | .int i, .int j => if (small i && small j && decide ((j - i).toNat ≤ LIM)) = true then .ok (.lst (rngL i j)) r2 else .bad
  | _, _ => .bad := rfl
theorem sfor_ap {fi : List Sl → RE (List D)} {t : D → List Sl → RS} : sfor fi t sa r = (fi r).s fun ds r1 => forL ds t sa r1 := rfl
theorem forL_nil {t : D → List Sl → RS} : forL [] t sa r = .nx r := rfl
theorem forL_cons {t : D → List Sl → RS} {d : D} {ds : List D} : forL (d :: ds) t sa r = match t d r with
    | .nx r1 => (match sa r1 with
      | .nx r2 => forL ds t sa r2
      | .ct r2 => forL ds t sa r2
      | .bk r2 => .nx r2
      | o => o)
    | _ => .bad := rfl
theorem lcomp_ap {fi : List Sl → RE (List D)} {t : D → List Sl → RS} {vs : List Nat} : lcomp fi t ta fa vs r = (fi r).bind fun ds r1 => if noOwn r1 vs = true then (match lcL t ta fa vs ds [] (wipeR r1 vs) with
  | .ok ys r2 => .ok (.lst ys) (back r1 r2 vs)
  | _ => .bad) else .bad := rfl
theorem stry_ap {cat : Str → Option Bool} : stry i cat sa sb r = match sa r with
  | .exn x r1 => (match cat x.c with
    | some true => if noXc r1 = true then dropAt i (sb (r1.set i (.xc x))) else .bad
    | some false => .exn x r1
    | none => .bad)
  | o => o := rfl
theorem xfld_ap {kn : Str → Bool} {f : Str} : xfld i kn f r = match r[i]? with
  | some (.xc x) => if kn x.c = true then (match (x.ns.zip x.ds).lookup f with
    | some d => .ok d r
    | none => .bad) else .bad
  | _ => .bad := rfl
end
/-! operators -/
theorem gAdd_int {a b : Int} : gAdd (.int a) (.int b) = some (.int (a + b)) := rfl
theorem gInt_ap {C : Int → Int → Bool} {g : Int → Int → D} {a b : Int} : gInt C g (.int a) (.int b) = if C a b then some (g a b) else none := rfl
/-- so many bits are enough -/
def bt (k : Nat) (n : Int) : Prop := n.natAbs < 2 ^ k
theorem bt.le {j k : Nat} {n : Int} (h : bt j n) (e : j ≤ k) : bt k n := Nat.lt_of_lt_of_le h (Nat.pow_le_pow_right (by decide) e)
theorem bt.mul {j k : Nat} {m n : Int} (h : bt j m) (e : bt k n) : bt (j + k) (m * n) := by
  unfold bt at *
  rw [Int.natAbs_mul, Nat.pow_add]
  exact Nat.mul_lt_mul_of_lt_of_le h (Nat.le_of_lt e) (Nat.pos_of_ne_zero (by have : 0 < 2 ^ k := Nat.pow_pos (by decide); omega))
theorem bt.add {j k : Nat} {m n : Int} (h : bt j m) (e : bt k n) : bt (max j k + 1) (m + n) := by
  have h1 := h.le (Nat.le_max_left j k)
  have h2 := e.le (Nat.le_max_right j k)
  unfold bt at *
  rw [Nat.pow_succ]
  have := Int.natAbs_add_le m n
  omega
theorem bt.neg {k : Nat} {n : Int} (h : bt k n) : bt k (-n) := by unfold bt at *; rwa [Int.natAbs_neg]
theorem bt.sub {j k : Nat} {m n : Int} (h : bt j m) (e : bt k n) : bt (max j k + 1) (m - n) := by rw [Int.sub_eq_add_neg]; exact h.add e.neg
theorem bt.div {k : Nat} {m n : Int} (h : bt k m) (hn : 0 < n) : bt k (m / n) := by
  unfold bt at *
  have := Int.natAbs_ediv_le_natAbs m n
  omega
theorem bt.log {k : Nat} {n : Int} (h : bt k n) : n.natAbs.log2 ≤ k := by
  unfold bt at h
  by_cases e : n.natAbs = 0
  · rw [e]; exact Nat.zero_le _
  · exact Nat.le_of_lt ((Nat.log2_lt e).mpr h)
theorem gMulI_ok {j k : Nat} {a b : Int} (h : bt j a) (e : bt k b) (z : j + k < 1000000) : gMulI (.int a) (.int b) = some (.int (a * b)) := by
  show (if decide (a.natAbs.log2 + b.natAbs.log2 < 1000000) = true then _ else _) = _
  rw [if_pos (decide_eq_true (by have := h.log; have := e.log; omega))]
theorem gDiv_ok {k : Nat} {a b : Int} (h : 0 < b) (e : bt k b) (z : k < 9000) : gDiv (.int a) (.int b) = some (.int (a / b)) := by
  show (if (decide (0 < b) && decide (b.natAbs.log2 < 9000)) = true then _ else _) = _
  rw [if_pos (by rw [Bool.and_eq_true]; exact ⟨decide_eq_true h, decide_eq_true (by have := e.log; omega)⟩)]
theorem gMod_ok {a b : Int} (h : 0 < b) : gMod (.int a) (.int b) = some (.int (a % b)) := by
  show (if decide (0 < b) = true then _ else _) = _
  rw [if_pos (decide_eq_true h)]
/-! places of written rows -/
theorem at0 {α : Type} {a : α} {l : List α} : atI (a :: l) 0 = some a := by
  have : ixN (a :: l).length 0 = some 0 := by unfold ixN; rw [if_pos (by decide), if_pos (by rw [List.length_cons]; omega)]; rfl
  unfold atI; rw [this]; rfl
theorem at1 {α : Type} {a b : α} {l : List α} : atI (a :: b :: l) 1 = some b := by
  have : ixN (a :: b :: l).length 1 = some 1 := by unfold ixN; rw [if_pos (by decide), if_pos (by rw [List.length_cons, List.length_cons]; omega)]; rfl
  unfold atI; rw [this]; rfl
theorem at2 {α : Type} {a b c : α} {l : List α} : atI (a :: b :: c :: l) 2 = some c := by
  have : ixN (a :: b :: c :: l).length 2 = some 2 := by unfold ixN; rw [if_pos (by decide), if_pos (by rw [List.length_cons, List.length_cons, List.length_cons]; omega)]; rfl
  unfold atI; rw [this]; rfl
theorem at3 {α : Type} {a b c d : α} {l : List α} : atI (a :: b :: c :: d :: l) 3 = some d := by
  have : ixN (a :: b :: c :: d :: l).length 3 = some 3 := by unfold ixN; rw [if_pos (by decide), if_pos (by rw [List.length_cons, List.length_cons, List.length_cons, List.length_cons]; omega)]; rfl
  unfold atI; rw [this]; rfl
theorem atN {α : Type} {l : List α} {i : Int} (h0 : 0 ≤ i) (h1 : i < l.length) : ∃ a, atI l i = some a ∧ l[i.toNat]? = some a := by
  have hl : i.toNat < l.length := by omega
  have : ixN l.length i = some i.toNat := by unfold ixN; rw [if_pos h0, if_pos h1]
  refine ⟨l[i.toNat], ?_, List.getElem?_eq_getElem hl⟩
  unfold atI; rw [this]; exact List.getElem?_eq_getElem hl
theorem gIx_lst {xs : List D} {i : Int} : gIx (.lst xs) (.int i) = atI xs i := rfl
theorem gIx_tup {xs : List D} {i : Int} : gIx (.tup xs) (.int i) = atI xs i := rfl
theorem gIx_scr {ns : List Int} {i : Int} : gIx (.scr ns) (.int i) = (atI ns i).map .int := rfl
theorem gLen_lst {xs : List D} : gLen (.lst xs) = some (.int xs.length) := rfl
theorem gLen_tup {xs : List D} : gLen (.tup xs) = some (.int xs.length) := rfl
theorem gLen_scr {xs : List Int} : gLen (.scr xs) = some (.int xs.length) := rfl
theorem gToInt_int {i : Int} : gToInt (.int i) = some (.int i) := rfl
end DL

set_option Elab.async false
set_option linter.all false
set_option maxRecDepth 100000
set_option maxHeartbeats 4000000
namespace DL
open PySem
open L2 (atI ixN)

/-! ### comprehensions with one name -/
section
variable {v : Nat} {r : List Sl} {ft : List Sl → RE Bool} {fe : List Sl → RE D} {fi : List Sl → RE (List D)} {α : Type} {φ : α → D} {p : α → Bool} {f : α → D}
theorem lcL_pure : ∀ (xs : List α) (acc : List D), (∀ x ∈ xs, ft (r.set v (.val (φ x))) = .ok (p x) (r.set v (.val (φ x)))) → (∀ x ∈ xs, p x = true → fe (r.set v (.val (φ x))) = .ok (f x) (r.set v (.val (φ x)))) → acc.length + xs.length ≤ LIM →
    lcL (gnm v) ft fe [v] (xs.map φ) acc (r.set v .un) = .ok (acc ++ (xs.filter p).map f) (r.set v .un)
  | [], acc, _, _, _ => by simp [lcL]
  | x :: xs, acc, hp, hf, hl => by
    have h1 := hp x List.mem_cons_self
    have h2 := hf x List.mem_cons_self
    have hl' : acc.length < LIM := by rw [List.length_cons] at hl; omega
    rw [List.map_cons]
    show (match gnm v (φ x) (r.set v .un) with
      | .nx r1 => (ft r1).bind fun b r2 => if b = true then (fe r2).bind fun y r3 => if acc.length < LIM then lcL (gnm v) ft fe [v] (xs.map φ) (acc ++ [y]) (wipeR r3 [v]) else .bad else lcL (gnm v) ft fe [v] (xs.map φ) acc (wipeR r2 [v])
      | _ => .bad) = _
    have w : wipeR (r.set v (.val (φ x))) [v] = r.set v .un := by show (wipeR _ []).set v .un = _; show (r.set v (.val (φ x))).set v .un = _; rw [List.set_set]
    simp only [gnm_ap, List.set_set, h1, bind_ok]
    cases hb : p x with
    | true =>
      simp only [if_true, h2 hb, bind_ok, hl', w, if_pos]
      rw [lcL_pure xs (acc ++ [f x]) (fun y hy => hp y (List.mem_cons_of_mem _ hy)) (fun y hy => hf y (List.mem_cons_of_mem _ hy)) (by rw [List.length_append, List.length_singleton]; rw [List.length_cons] at hl; omega), List.filter_cons_of_pos hb]
      simp
    | false =>
      simp only [Bool.false_eq_true, if_false, w]
      rw [lcL_pure xs acc (fun y hy => hp y (List.mem_cons_of_mem _ hy)) (fun y hy => hf y (List.mem_cons_of_mem _ hy)) (by rw [List.length_cons] at hl; omega), List.filter_cons_of_neg (by simp [hb])]
theorem back_one (hv : v < r.length) : back r (r.set v .un) [v] = r := by
  show (back r (r.set v .un) []).set v (r.getD v .un) = r
  show (r.set v .un).set v (r.getD v .un) = r
  rw [List.set_set]
  apply List.ext_getElem?
  intro j
  rw [List.getElem?_set]
  by_cases e : v = j
  · subst e
    rw [if_pos rfl, if_pos hv, List.getD_eq_getElem?_getD, List.getElem?_eq_getElem hv]; rfl
  · rw [if_neg e]
theorem noOwn_lt (h : noOwn r [v] = true) : v < r.length := by
  unfold noOwn at h
  simp only [List.all_cons, List.all_nil, Bool.and_true] at h
  cases e : r[v]? with
  | none => rw [e] at h; cases h
  | some s => exact (List.getElem?_eq_some_iff.mp e).1
theorem lcomp_pure (xs : List α) (hi : fi r = .ok (xs.map φ) r) (ho : noOwn r [v] = true) (hl : xs.length ≤ LIM) (hp : ∀ x ∈ xs, ft (r.set v (.val (φ x))) = .ok (p x) (r.set v (.val (φ x)))) (hf : ∀ x ∈ xs, p x = true → fe (r.set v (.val (φ x))) = .ok (f x) (r.set v (.val (φ x)))) :
    lcomp fi (gnm v) ft fe [v] r = .ok (.lst ((xs.filter p).map f)) r := by
  rw [lcomp_ap, hi, bind_ok, if_pos ho]
  have w : wipeR r [v] = r.set v .un := rfl
  rw [w, lcL_pure (φ := φ) xs [] hp hf (by simpa using hl)]
  show RE.ok (D.lst ([] ++ (xs.filter p).map f)) (back r (r.set v .un) [v]) = _
  rw [back_one (noOwn_lt ho), List.nil_append]
/-- the parts change what the other names hold -/
theorem lcL_ex {σ : Type} (R : σ → List Sl) (I : σ → Prop) (Q : D → Prop) : ∀ (ds acc : List D) (s : σ), (∀ d ∈ ds, ∀ s, I s → ∃ y s', I s' ∧ Q y ∧ ft ((R s).set v (.val d)) = .ok true ((R s).set v (.val d)) ∧ fe ((R s).set v (.val d)) = .ok y ((R s').set v (.val d))) →
    I s → acc.length + ds.length ≤ LIM → ∃ ys s', I s' ∧ ys.length = ds.length ∧ (∀ y ∈ ys, Q y) ∧ lcL (gnm v) ft fe [v] ds acc ((R s).set v .un) = .ok (acc ++ ys) ((R s').set v .un)
  | [], acc, s, _, hs, _ => ⟨[], s, hs, rfl, (fun y hy => nomatch hy), by rw [List.append_nil]; rfl⟩
  | d :: ds, acc, s, turn, hs, hl => by
    obtain ⟨y, s', hs', hy, h1, h2⟩ := turn d List.mem_cons_self s hs
    have hl' : acc.length < LIM := by rw [List.length_cons] at hl; omega
    obtain ⟨ys, s'', hs'', e1, e2, e3⟩ := lcL_ex R I Q ds (acc ++ [y]) s' (fun e he => turn e (List.mem_cons_of_mem _ he)) hs' (by rw [List.length_append, List.length_singleton]; rw [List.length_cons] at hl; omega)
    refine ⟨y :: ys, s'', hs'', by simp [e1], (fun z hz => (List.mem_cons.mp hz).elim (fun e => e ▸ hy) (e2 z)), ?_⟩
    show (match gnm v d ((R s).set v .un) with
      | .nx r1 => (ft r1).bind fun b r2 => if b = true then (fe r2).bind fun y r3 => if acc.length < LIM then lcL (gnm v) ft fe [v] ds (acc ++ [y]) (wipeR r3 [v]) else .bad else lcL (gnm v) ft fe [v] ds acc (wipeR r2 [v])
      | _ => .bad) = _
    have w : wipeR ((R s').set v (.val d)) [v] = (R s').set v .un := by show ((R s').set v (.val d)).set v .un = _; rw [List.set_set]
    simp only [gnm_ap, List.set_set, h1, bind_ok, if_true, h2, hl', w, if_pos, e3, List.append_assoc, List.singleton_append]
end
section
variable {v : Nat} {r : List Sl} {ft : List Sl → RE Bool} {fe : List Sl → RE D} {α : Type} {φ : α → D} {p : α → Bool} {f : α → D}
theorem lcLB_pure {ck : List Sl → Bool} (hc : ck (r.set v .un) = true) : ∀ (xs : List α) (acc : List D), (∀ x ∈ xs, ft (r.set v (.val (φ x))) = .ok (p x) (r.set v (.val (φ x)))) → (∀ x ∈ xs, p x = true → fe (r.set v (.val (φ x))) = .ok (f x) (r.set v (.val (φ x)))) → acc.length + xs.length ≤ LIM →
    lcLB ck (gnm v) ft fe [v] (xs.map φ) acc (r.set v .un) = .ok (acc ++ (xs.filter p).map f) (r.set v .un)
  | [], acc, _, _, _ => by simp [lcLB, hc]
  | x :: xs, acc, hp, hf, hl => by
    have h1 := hp x List.mem_cons_self
    have h2 := hf x List.mem_cons_self
    have hl' : acc.length < LIM := by rw [List.length_cons] at hl; omega
    rw [List.map_cons]
    show (if ck (r.set v .un) = true then (match gnm v (φ x) (r.set v .un) with
      | .nx r1 => (ft r1).bind fun b r2 => if b = true then (fe r2).bind fun y r3 => if acc.length < LIM then lcLB ck (gnm v) ft fe [v] (xs.map φ) (acc ++ [y]) (wipeR r3 [v]) else .bad else lcLB ck (gnm v) ft fe [v] (xs.map φ) acc (wipeR r2 [v])
      | _ => .bad) else .bad) = _
    rw [if_pos hc]
    have w : wipeR (r.set v (.val (φ x))) [v] = r.set v .un := by show (r.set v (.val (φ x))).set v .un = _; rw [List.set_set]
    simp only [gnm_ap, List.set_set, h1, bind_ok]
    cases hb : p x with
    | true =>
      simp only [if_true, h2 hb, bind_ok, hl', w, if_pos]
      rw [lcLB_pure hc xs (acc ++ [f x]) (fun y hy => hp y (List.mem_cons_of_mem _ hy)) (fun y hy => hf y (List.mem_cons_of_mem _ hy)) (by rw [List.length_append, List.length_singleton]; rw [List.length_cons] at hl; omega), List.filter_cons_of_pos hb]
      simp
    | false =>
      simp only [Bool.false_eq_true, if_false, w]
      rw [lcLB_pure hc xs acc (fun y hy => hp y (List.mem_cons_of_mem _ hy)) (fun y hy => hf y (List.mem_cons_of_mem _ hy)) (by rw [List.length_cons] at hl; omega), List.filter_cons_of_neg (by simp [hb])]
theorem lcompB_pure {i : Nat} (xs : List α) (hi : pk i r = .ok (.lst (xs.map φ)) r) (hu : pk i (r.set v .un) = .ok (.lst (xs.map φ)) (r.set v .un)) (ho : noOwn r [v] = true) (hv : i ≠ v) (hl : xs.length ≤ LIM) (hp : ∀ x ∈ xs, ft (r.set v (.val (φ x))) = .ok (p x) (r.set v (.val (φ x)))) (hf : ∀ x ∈ xs, p x = true → fe (r.set v (.val (φ x))) = .ok (f x) (r.set v (.val (φ x)))) :
    lcompB i (gnm v) ft fe [v] r = .ok (.lst ((xs.filter p).map f)) r := by
  unfold lcompB
  rw [hi]
  dsimp only
  rw [if_pos (by rw [ho]; simp [hv])]
  have w : wipeR r [v] = r.set v .un := rfl
  rw [w, lcLB_pure (ck_of hu) (φ := φ) xs [] hp hf (by simpa using hl)]
  show RE.ok (D.lst ([] ++ (xs.filter p).map f)) (back r (r.set v .un) [v]) = _
  rw [back_one (noOwn_lt ho), List.nil_append]
end
theorem cut_tail {α : Type} {x : α} {xs : List α} : cut (x :: xs) (some 1) none = xs := by
  unfold cut
  have h1 : HT.sIx (x :: xs).length 0 (some 1) = 1 := by
    show (if (1 : Int) < 0 then ((1 : Int) + ((x :: xs).length : Int)).toNat else min (1 : Int).toNat (x :: xs).length) = 1
    rw [if_neg (by decide), List.length_cons]
    show min 1 (xs.length + 1) = 1
    omega
  have h2 : HT.sIx (x :: xs).length (x :: xs).length none = (x :: xs).length := rfl
  rw [h1, h2]
  simp
theorem rngL_map (lo hi : Int) : rngL lo hi = (List.range (hi - lo).toNat).map fun (i : Nat) => D.int (lo + i) := rfl
theorem small_of {i : Int} (h : -1000000000 ≤ i) (h' : i ≤ 1000000000) : small i = true := by
  unfold small; rw [Bool.and_eq_true]; exact ⟨decide_eq_true h, decide_eq_true h'⟩

/-! ### what every law draws with -/
def takenB : List Sl → RS :=
  (sseq (sif (tv (bin gGt (binL gIx 0 (cst (.int 3))) (cst (.int 0)))) (sseq (sasg 2 (bin gMod (un gToInt (binL gIx 0 (cst (.int 3)))) (pk 1))) (sseq (sset 0 (bin gDiv (binL gIx 0 (cst (.int 3))) (pk 1)) (cst (.int 3))) (sret (rd 2)))) snx) (sseq (sset 0 (bin gAdd (binL gIx 0 (cst (.int 1))) (cst (.int 1))) (cst (.int 1))) (sseq (sif (tv (bin gGt (binL gIx 0 (cst (.int 1))) (un gLen (binL gIx 0 (cst (.int 0)))))) (sseq (sset 0 (bin gMod (un gToInt (bin gAdd (bin gMulI (binL gIx 0 (cst (.int 2))) (cst (.int 48271))) (cst (.int 11)))) (cst (.int 2147483647))) (cst (.int 2))) (sret (bin gMod (un gToInt (bin gDiv (binL gIx 0 (cst (.int 2))) (cst (.int 7)))) (pk 1)))) snx) (sseq (sasg 3 (bin gIx (binL gIx 0 (cst (.int 0))) (bin gSub (binL gIx 0 (cst (.int 1))) (cst (.int 1))))) (sseq (sset 0 (bin gMod (un gToInt (bin gAdd (bin gAdd (bin gMulI (binL gIx 0 (cst (.int 2))) (cst (.int 48271))) (pk 3)) (cst (.int 11)))) (cst (.int 2147483647))) (cst (.int 2))) (sseq (sif (tv (bin gGe (rd 3) (bin gPow (cst (.int 10)) (cst (.int 18))))) (sset 0 (bin gDiv (rd 3) (pk 1)) (cst (.int 3))) snx) (sret (bin gMod (un gToInt (pk 3)) (pk 1)))))))))
def takenF : List D → RF := runI 4 2 takenB
def rowD (ns : List Int) (p s t : Int) : D := .lst [.scr ns, .int p, .int s, .int t]
def OkR (p s t : Int) : Prop := 0 ≤ p ∧ 0 ≤ s ∧ s < 2147483647 ∧ 0 ≤ t
theorem bt_c {k : Nat} {n : Int} (h : n.natAbs < 2 ^ k) : bt k n := h
theorem taken_ok {ns : List Int} {p s t m : Int} (h : OkR p s t) (hm : 0 < m) (hb : bt 8000 m) : ∃ x p' s' t', takenF [rowD ns p s t, .int m] = .ok (.int x) (rowD ns p' s' t') ∧ OkR p' s' t' ∧ 0 ≤ x ∧ x < m := by
  obtain ⟨hp, hs, hs', ht⟩ := h
  have i3 : ∀ l : Nat, 4 ≤ l → ixN l 3 = some 3 := fun l hl => by unfold ixN; rw [if_pos (by decide), if_pos (by omega)]; rfl
  have i2 : ∀ l : Nat, 4 ≤ l → ixN l 2 = some 2 := fun l hl => by unfold ixN; rw [if_pos (by decide), if_pos (by omega)]; rfl
  have i1 : ∀ l : Nat, 4 ≤ l → ixN l 1 = some 1 := fun l hl => by unfold ixN; rw [if_pos (by decide), if_pos (by omega)]; rfl
  have bs : bt 40 s := by unfold bt; omega
  have bc : bt 40 (48271 : Int) := by unfold bt; decide
  have md : (0 : Int) < 2147483647 := by decide
  have gm : gMulI (.int s) (.int 48271) = some (.int (s * 48271)) := gMulI_ok bs bc (by decide)
  have gd : ∀ a : Int, gDiv (.int a) (.int m) = some (.int (a / m)) := fun a => gDiv_ok hm hb (by decide)
  have gd7 : ∀ a : Int, gDiv (.int a) (.int 7) = some (.int (a / 7)) := fun a => gDiv_ok (k := 4) (by decide) (by unfold bt; decide) (by decide)
  have gmm : ∀ a : Int, gMod (.int a) (.int m) = some (.int (a % m)) := fun a => gMod_ok hm
  have gmd : ∀ a : Int, gMod (.int a) (.int 2147483647) = some (.int (a % 2147483647)) := fun a => gMod_ok md
  have m0 : ∀ a : Int, 0 ≤ a % m ∧ a % m < m := fun a => ⟨Int.emod_nonneg _ (by omega), Int.emod_lt_of_pos _ hm⟩
  have n0 : ∀ a : Int, 0 ≤ a % 2147483647 ∧ a % 2147483647 < 2147483647 := fun a => ⟨Int.emod_nonneg _ (by decide), Int.emod_lt_of_pos _ md⟩
  have r0 : takenF [rowD ns p s t, .int m] = (match takenB [.io (rowD ns p s t), .val (.int m), .un, .un] with
    | .nx r => ioOf r fun io => .ok .non io
    | .rt d r => ioOf r fun io => .ok d io
    | .exn x r => ioOf r fun io => .exn x io
    | _ => .bad) := rfl
  rw [r0]
  unfold takenB rowD
  by_cases h3 : 0 < t
  · refine ⟨t % m, p, s, t / m, ?_, ⟨hp, hs, hs', Int.ediv_nonneg ht (by omega)⟩, (m0 t).1, (m0 t).2⟩
    simp only [bind_ok, bind_exn, bind_bad, s_ok, s_exn, s_bad, rd_ap, pk_ap, cst_ap, lift_some, lift_none, bin_ap, has_ap, binL_ap, un_ap, anil_ap, acons_ap, mkTup_ap, mkLst_ap, asB_bl, tv_ap, tnot_ap, tand_ap, tor_ap, vand_ap, vor_ap, vnot_ap, vif_ap, vchain_ap, sasg_ap, sown_ap, sif_ap, sret_ap, sexp_ap, snx_ap, sseq_ap, spar_ap, stg_ap, gnm_ap, gnil_ap, gcons_ap, gtp_ap, call_ap, doF_ok, doF_exn, callB_ap, apk_ap, doFB_ok, isOwn_ap, callI_ap, doI_ap, putOwn_ap, setD_ap, sset_ap, isLst_ap, mutl_ap, mutm_ap, sraise_ap, slcL_ap, slc_ap, pno_ap, psome_ap, unN_ap, iseq_ap, irng1_ap, irng2_ap, lrng_ap, gAdd_int, gInt_ap, at0, at1, at2, at3, gIx_lst, gIx_tup, gIx_scr, gLen_lst, gLen_tup, gLen_scr, gToInt_int, List.getElem?_cons_zero, List.getElem?_cons_succ, List.set_cons_zero, List.set_cons_succ, List.length_cons, List.length_nil, ite_true, ite_false, if_true, if_false, Bool.true_and, Bool.and_true, Bool.false_and, Bool.and_false, decide_true, decide_false, Option.map_some, Option.map_none, Bool.not_true, Bool.not_false, reduceIte, Nat.reduceAdd, Nat.reduceLeDiff, Bool.false_eq_true, Bool.true_eq_false, Bool.false_or, Bool.true_or, Bool.or_false, Bool.or_true, h3, gmm, gd, i3, ioOf, Nat.le_refl]
  · by_cases h4 : (ns.length : Int) < p + 1
    · refine ⟨((s * 48271 + 11) % 2147483647 / 7) % m, p + 1, (s * 48271 + 11) % 2147483647, t, ?_, ⟨by omega, (n0 _).1, (n0 _).2, ht⟩, (m0 _).1, (m0 _).2⟩
      simp only [bind_ok, bind_exn, bind_bad, s_ok, s_exn, s_bad, rd_ap, pk_ap, cst_ap, lift_some, lift_none, bin_ap, has_ap, binL_ap, un_ap, anil_ap, acons_ap, mkTup_ap, mkLst_ap, asB_bl, tv_ap, tnot_ap, tand_ap, tor_ap, vand_ap, vor_ap, vnot_ap, vif_ap, vchain_ap, sasg_ap, sown_ap, sif_ap, sret_ap, sexp_ap, snx_ap, sseq_ap, spar_ap, stg_ap, gnm_ap, gnil_ap, gcons_ap, gtp_ap, call_ap, doF_ok, doF_exn, callB_ap, apk_ap, doFB_ok, isOwn_ap, callI_ap, doI_ap, putOwn_ap, setD_ap, sset_ap, isLst_ap, mutl_ap, mutm_ap, sraise_ap, slcL_ap, slc_ap, pno_ap, psome_ap, unN_ap, iseq_ap, irng1_ap, irng2_ap, lrng_ap, gAdd_int, gInt_ap, at0, at1, at2, at3, gIx_lst, gIx_tup, gIx_scr, gLen_lst, gLen_tup, gLen_scr, gToInt_int, List.getElem?_cons_zero, List.getElem?_cons_succ, List.set_cons_zero, List.set_cons_succ, List.length_cons, List.length_nil, ite_true, ite_false, if_true, if_false, Bool.true_and, Bool.and_true, Bool.false_and, Bool.and_false, decide_true, decide_false, Option.map_some, Option.map_none, Bool.not_true, Bool.not_false, reduceIte, Nat.reduceAdd, Nat.reduceLeDiff, Bool.false_eq_true, Bool.true_eq_false, Bool.false_or, Bool.true_or, Bool.or_false, Bool.or_true, h3, h4, gmm, gd, gd7, gmd, gm, i3, i2, i1, ioOf, Nat.le_refl]
    · obtain ⟨c, hc, _⟩ := atN (l := ns) (i := p + 1 - 1) (by omega) (by omega)
      by_cases h5 : (10 : Int) ^ (18 : Int).toNat ≤ c
      · refine ⟨c % m, p + 1, (s * 48271 + c + 11) % 2147483647, c / m, ?_, ⟨by omega, (n0 _).1, (n0 _).2, Int.ediv_nonneg (Int.le_trans (by decide) h5) (by omega)⟩, (m0 _).1, (m0 _).2⟩
        have gp : gPow (.int 10) (.int 18) = some (.int ((10 : Int) ^ (18 : Int).toNat)) := rfl
        simp only [bind_ok, bind_exn, bind_bad, s_ok, s_exn, s_bad, rd_ap, pk_ap, cst_ap, lift_some, lift_none, bin_ap, has_ap, binL_ap, un_ap, anil_ap, acons_ap, mkTup_ap, mkLst_ap, asB_bl, tv_ap, tnot_ap, tand_ap, tor_ap, vand_ap, vor_ap, vnot_ap, vif_ap, vchain_ap, sasg_ap, sown_ap, sif_ap, sret_ap, sexp_ap, snx_ap, sseq_ap, spar_ap, stg_ap, gnm_ap, gnil_ap, gcons_ap, gtp_ap, call_ap, doF_ok, doF_exn, callB_ap, apk_ap, doFB_ok, isOwn_ap, callI_ap, doI_ap, putOwn_ap, setD_ap, sset_ap, isLst_ap, mutl_ap, mutm_ap, sraise_ap, slcL_ap, slc_ap, pno_ap, psome_ap, unN_ap, iseq_ap, irng1_ap, irng2_ap, lrng_ap, gAdd_int, gInt_ap, at0, at1, at2, at3, gIx_lst, gIx_tup, gIx_scr, gLen_lst, gLen_tup, gLen_scr, gToInt_int, List.getElem?_cons_zero, List.getElem?_cons_succ, List.set_cons_zero, List.set_cons_succ, List.length_cons, List.length_nil, ite_true, ite_false, if_true, if_false, Bool.true_and, Bool.and_true, Bool.false_and, Bool.and_false, decide_true, decide_false, Option.map_some, Option.map_none, Bool.not_true, Bool.not_false, reduceIte, Nat.reduceAdd, Nat.reduceLeDiff, Bool.false_eq_true, Bool.true_eq_false, Bool.false_or, Bool.true_or, Bool.or_false, Bool.or_true, h3, h4, gmm, gd, gmd, gm, i3, i2, i1, ioOf, Nat.le_refl, hc, gp, h5]
      · refine ⟨c % m, p + 1, (s * 48271 + c + 11) % 2147483647, t, ?_, ⟨by omega, (n0 _).1, (n0 _).2, ht⟩, (m0 _).1, (m0 _).2⟩
        have gp : gPow (.int 10) (.int 18) = some (.int ((10 : Int) ^ (18 : Int).toNat)) := rfl
        simp only [bind_ok, bind_exn, bind_bad, s_ok, s_exn, s_bad, rd_ap, pk_ap, cst_ap, lift_some, lift_none, bin_ap, has_ap, binL_ap, un_ap, anil_ap, acons_ap, mkTup_ap, mkLst_ap, asB_bl, tv_ap, tnot_ap, tand_ap, tor_ap, vand_ap, vor_ap, vnot_ap, vif_ap, vchain_ap, sasg_ap, sown_ap, sif_ap, sret_ap, sexp_ap, snx_ap, sseq_ap, spar_ap, stg_ap, gnm_ap, gnil_ap, gcons_ap, gtp_ap, call_ap, doF_ok, doF_exn, callB_ap, apk_ap, doFB_ok, isOwn_ap, callI_ap, doI_ap, putOwn_ap, setD_ap, sset_ap, isLst_ap, mutl_ap, mutm_ap, sraise_ap, slcL_ap, slc_ap, pno_ap, psome_ap, unN_ap, iseq_ap, irng1_ap, irng2_ap, lrng_ap, gAdd_int, gInt_ap, at0, at1, at2, at3, gIx_lst, gIx_tup, gIx_scr, gLen_lst, gLen_tup, gLen_scr, gToInt_int, List.getElem?_cons_zero, List.getElem?_cons_succ, List.set_cons_zero, List.set_cons_succ, List.length_cons, List.length_nil, ite_true, ite_false, if_true, if_false, Bool.true_and, Bool.and_true, Bool.false_and, Bool.and_false, decide_true, decide_false, Option.map_some, Option.map_none, Bool.not_true, Bool.not_false, reduceIte, Nat.reduceAdd, Nat.reduceLeDiff, Bool.false_eq_true, Bool.true_eq_false, Bool.false_or, Bool.true_or, Bool.or_false, Bool.or_true, h3, h4, gmm, gd, gmd, gm, i3, i2, i1, ioOf, Nat.le_refl, hc, gp, h5]

/-! ### what every law compares with -/
def alikeB (me : List D → RF) : List Sl → RS :=
  (sseq (sif (tv (un (gIsi2 "tuple" "list") (pk 1))) (sseq (sif (tor (tnot (tv (un (gIsi2 "tuple" "list") (pk 0)))) (tv (bin (gEq true) (un (gIsi "list") (pk 0)) (un (gIsi "list") (pk 1))))) (sret (cst (.bl false))) snx) (sseq (sif (tv (bin (gEq true) (un gLen (pk 0)) (un gLen (pk 1)))) (sret (cst (.bl false))) snx) (sret (bin (gEq false) (lcomp (irng1 (un gLen (pk 1))) (gnm 2) (tnot (tv (call me (acons (binL gIx 0 (pk 2)) (acons (binL gIx 1 (pk 2)) anil))))) (rd 2) [2]) (mkLst anil))))) snx) (sseq (sif (tor (tv (un (gIsN false) (rd 1))) (tv (un (gIsi "str") (pk 1)))) (sret (vand (bin (gEq false) (rd 0) (pk 1)) (bin (gEq false) (un (gIsi "str") (pk 0)) (un (gIsi "str") (pk 1))))) snx) (sret (vand (un (gIsi "int") (pk 0)) (vand (bin (gEq false) (un (gIsi "bool") (pk 0)) (un (gIsi "bool") (pk 1))) (bin (gEq false) (rd 0) (pk 1)))))))
def alikeF : Nat → List D → RF
  | 0 => fun _ => .bad
  | n + 1 => runP 3 2 (alikeB (alikeF n))
/-- plain data to a depth, of rows that are not too long -/
def okl : Nat → D → Bool
  | _, .non => true
  | _, .bl _ => true
  | _, .int _ => true
  | _, .str _ => true
  | k + 1, .tup xs => decide (xs.length ≤ LIM) && xs.all (okl k)
  | k + 1, .lst xs => decide (xs.length ≤ LIM) && xs.all (okl k)
  | _, _ => false
theorem okl_tup {k : Nat} {xs : List D} : okl (k + 1) (.tup xs) = (decide (xs.length ≤ LIM) && xs.all (okl k)) := by rw [okl]
theorem okl_lst {k : Nat} {xs : List D} : okl (k + 1) (.lst xs) = (decide (xs.length ≤ LIM) && xs.all (okl k)) := by rw [okl]
theorem okl_okd : ∀ (k : Nat) (d : D), okl k d = true → okd k d = true
  | k, .non, _ => by rw [okd]
  | k, .bl _, _ => by rw [okd]
  | k, .int _, _ => by rw [okd]
  | k, .str _, _ => by rw [okd]
  | k + 1, .tup xs, h => by
    rw [okl_tup, Bool.and_eq_true] at h
    rw [okd_tup, List.all_eq_true]
    exact fun x hx => okl_okd k x (List.all_eq_true.mp h.2 x hx)
  | k + 1, .lst xs, h => by
    rw [okl_lst, Bool.and_eq_true] at h
    rw [okd_lst, List.all_eq_true]
    exact fun x hx => okl_okd k x (List.all_eq_true.mp h.2 x hx)
  | 0, .tup xs, h => by simp [okl] at h
  | 0, .lst xs, h => by simp [okl] at h
  | k, .dct _ _, h => by cases k <;> simp [okl] at h
  | k, .ob _ _ _, h => by cases k <;> simp [okl] at h
  | k, .fn _, h => by cases k <;> simp [okl] at h
  | k, .scr _, h => by cases k <;> simp [okl] at h
theorem okd_mono : ∀ (j k : Nat) (d : D), j ≤ k → okd j d = true → okd k d = true
  | j, k, .non, _, _ => by rw [okd]
  | j, k, .bl _, _, _ => by rw [okd]
  | j, k, .int _, _, _ => by rw [okd]
  | j, k, .str _, _, _ => by rw [okd]
  | 0, k, .tup xs, _, h => by simp [okd] at h
  | 0, k, .lst xs, _, h => by simp [okd] at h
  | j + 1, 0, .tup xs, e, _ => absurd e (by omega)
  | j + 1, 0, .lst xs, e, _ => absurd e (by omega)
  | j + 1, k + 1, .tup xs, e, h => by
    rw [okd_tup, List.all_eq_true] at *
    exact fun x hx => okd_mono j k x (by omega) (h x hx)
  | j + 1, k + 1, .lst xs, e, h => by
    rw [okd_lst, List.all_eq_true] at *
    exact fun x hx => okd_mono j k x (by omega) (h x hx)
  | j, k, .dct _ _, _, h => by cases j <;> simp [okd] at h
  | j, k, .ob _ _ _, _, h => by cases j <;> simp [okd] at h
  | j, k, .fn _, _, h => by cases j <;> simp [okd] at h
  | j, k, .scr _, _, h => by cases j <;> simp [okd] at h
mutual
theorem eqb_refl : ∀ (k : Nat) (d : D), okd k d = true → d.eqb d = true
  | _, .non, _ => rfl
  | _, .bl b, _ => by show (b == b) = true; simp
  | _, .int b, _ => by show (b == b) = true; simp
  | _, .str b, _ => by show (b == b) = true; simp
  | k + 1, .tup xs, h => by rw [okd_tup] at h; exact eqbL_refl k xs h
  | k + 1, .lst xs, h => by rw [okd_lst] at h; exact eqbL_refl k xs h
  | 0, .tup xs, h => by simp [okd] at h
  | 0, .lst xs, h => by simp [okd] at h
  | k, .dct _ _, h => by cases k <;> simp [okd] at h
  | k, .ob _ _ _, h => by cases k <;> simp [okd] at h
  | k, .fn _, h => by cases k <;> simp [okd] at h
  | k, .scr _, h => by cases k <;> simp [okd] at h
theorem eqbL_refl : ∀ (k : Nat) (ds : List D), ds.all (okd k) = true → eqbL ds ds = true
  | _, [], _ => rfl
  | k, d :: ds, h => by
    rw [List.all_cons, Bool.and_eq_true] at h
    show (d.eqb d && eqbL ds ds) = true
    rw [eqb_refl k d h.1, eqbL_refl k ds h.2]; rfl
end
theorem gEq_self {neg : Bool} {d : D} (h : okd 20 d = true) : gEq neg d d = some (.bl (!neg)) := by
  unfold gEq
  rw [h, eqb_refl 20 d h]
  cases neg <;> rfl
theorem gEq_bl {neg a b : Bool} : gEq neg (.bl a) (.bl b) = some (.bl ((a == b) ^^ neg)) := rfl
theorem gEq_int {neg : Bool} {a b : Int} : gEq neg (.int a) (.int b) = some (.bl ((a == b) ^^ neg)) := rfl
theorem gEq_str {neg : Bool} {a b : Str} : gEq neg (.str a) (.str b) = some (.bl ((a == b) ^^ neg)) := rfl
theorem gEq_nn {neg : Bool} : gEq neg .non .non = some (.bl (true ^^ neg)) := rfl
theorem i2_non {T U : String} : gIsi2 T U .non = some (.bl (isa "NoneType" T || isa "NoneType" U)) := rfl
theorem i2_bl {T U : String} {b : Bool} : gIsi2 T U (.bl b) = some (.bl (isa "bool" T || isa "bool" U)) := rfl
theorem i2_int {T U : String} {b : Int} : gIsi2 T U (.int b) = some (.bl (isa "int" T || isa "int" U)) := rfl
theorem i2_str {T U : String} {b : Str} : gIsi2 T U (.str b) = some (.bl (isa "str" T || isa "str" U)) := rfl
theorem i2_tup {T U : String} {b : List D} : gIsi2 T U (.tup b) = some (.bl (isa "tuple" T || isa "tuple" U)) := rfl
theorem i2_lst {T U : String} {b : List D} : gIsi2 T U (.lst b) = some (.bl (isa "list" T || isa "list" U)) := rfl
theorem i1_non {T : String} : gIsi T .non = some (.bl (isa "NoneType" T)) := rfl
theorem i1_bl {T : String} {b : Bool} : gIsi T (.bl b) = some (.bl (isa "bool" T)) := rfl
theorem i1_int {T : String} {b : Int} : gIsi T (.int b) = some (.bl (isa "int" T)) := rfl
theorem i1_str {T : String} {b : Str} : gIsi T (.str b) = some (.bl (isa "str" T)) := rfl
theorem i1_tup {T : String} {b : List D} : gIsi T (.tup b) = some (.bl (isa "tuple" T)) := rfl
theorem i1_lst {T : String} {b : List D} : gIsi T (.lst b) = some (.bl (isa "list" T)) := rfl
theorem isa_NoneType_int : isa "NoneType" "int" = false := by decide
theorem isa_NoneType_bool : isa "NoneType" "bool" = false := by decide
theorem isa_NoneType_str : isa "NoneType" "str" = false := by decide
theorem isa_NoneType_tuple : isa "NoneType" "tuple" = false := by decide
theorem isa_NoneType_list : isa "NoneType" "list" = false := by decide
theorem isa_bool_int : isa "bool" "int" = true := by decide
theorem isa_bool_bool : isa "bool" "bool" = true := by decide
theorem isa_bool_str : isa "bool" "str" = false := by decide
theorem isa_bool_tuple : isa "bool" "tuple" = false := by decide
theorem isa_bool_list : isa "bool" "list" = false := by decide
theorem isa_int_int : isa "int" "int" = true := by decide
theorem isa_int_bool : isa "int" "bool" = false := by decide
theorem isa_int_str : isa "int" "str" = false := by decide
theorem isa_int_tuple : isa "int" "tuple" = false := by decide
theorem isa_int_list : isa "int" "list" = false := by decide
theorem isa_str_int : isa "str" "int" = false := by decide
theorem isa_str_bool : isa "str" "bool" = false := by decide
theorem isa_str_str : isa "str" "str" = true := by decide
theorem isa_str_tuple : isa "str" "tuple" = false := by decide
theorem isa_str_list : isa "str" "list" = false := by decide
theorem isa_tuple_int : isa "tuple" "int" = false := by decide
theorem isa_tuple_bool : isa "tuple" "bool" = false := by decide
theorem isa_tuple_str : isa "tuple" "str" = false := by decide
theorem isa_tuple_tuple : isa "tuple" "tuple" = true := by decide
theorem isa_tuple_list : isa "tuple" "list" = false := by decide
theorem isa_list_int : isa "list" "int" = false := by decide
theorem isa_list_bool : isa "list" "bool" = false := by decide
theorem isa_list_str : isa "list" "str" = false := by decide
theorem isa_list_tuple : isa "list" "tuple" = false := by decide
theorem isa_list_list : isa "list" "list" = true := by decide
theorem isN_non {neg : Bool} : gIsN neg .non = some (.bl (true ^^ neg)) := rfl
theorem isN_bl {neg : Bool} {b : Bool} : gIsN neg (.bl b) = some (.bl (false ^^ neg)) := rfl
theorem isN_int {neg : Bool} {b : Int} : gIsN neg (.int b) = some (.bl (false ^^ neg)) := rfl
theorem isN_str {neg : Bool} {b : Str} : gIsN neg (.str b) = some (.bl (false ^^ neg)) := rfl
theorem isN_tup {neg : Bool} {b : List D} : gIsN neg (.tup b) = some (.bl (false ^^ neg)) := rfl
theorem isN_lst {neg : Bool} {b : List D} : gIsN neg (.lst b) = some (.bl (false ^^ neg)) := rfl
theorem runP2 {n : Nat} {f : List Sl → RS} {a b : D} : runP n 2 f [a, b] = (match f ([a, b].map .val ++ List.replicate (n - 2) .un) with
  | .nx _ => .ok .non .non
  | .rt d _ => .ok d .non
  | .exn x _ => .exn x .non
  | _ => .bad) := rfl
theorem runP1 {n : Nat} {f : List Sl → RS} {a : D} : runP n 1 f [a] = (match f ([a].map .val ++ List.replicate (n - 1) .un) with
  | .nx _ => .ok .non .non
  | .rt d _ => .ok d .non
  | .exn x _ => .exn x .non
  | _ => .bad) := rfl
theorem runP3 {n : Nat} {f : List Sl → RS} {a b c : D} : runP n 3 f [a, b, c] = (match f ([a, b, c].map .val ++ List.replicate (n - 3) .un) with
  | .nx _ => .ok .non .non
  | .rt d _ => .ok d .non
  | .exn x _ => .exn x .non
  | _ => .bad) := rfl
theorem atI_nat {α : Type} {xs : List α} {i : Nat} {x : α} (h : xs[i]? = some x) : atI xs (0 + (i : Int)) = some x := by
  have hl := (List.getElem?_eq_some_iff.mp h).1
  unfold atI
  have e : ixN xs.length (0 + (i : Int)) = some i := by unfold ixN; rw [if_pos (by omega), if_pos (by omega)]; congr 1; omega
  rw [e]; exact h
theorem alike_rows {n : Nat} {xs : List D} (ih : ∀ x ∈ xs, alikeF n [x, x] = .ok (.bl true) .non) (hl : xs.length ≤ LIM) (w : List D → D) (hw : w = .tup ∨ w = .lst) :
    lcomp (irng1 (un gLen (pk 1))) (gnm 2) (tnot (tv (call (alikeF n) (acons (binL gIx 0 (pk 2)) (acons (binL gIx 1 (pk 2)) anil))))) (rd 2) [2] [.val (w xs), .val (w xs), .un] = .ok (.lst []) [.val (w xs), .val (w xs), .un] := by
  have hg : gLen (w xs) = some (.int xs.length) := by rcases hw with rfl | rfl <;> rfl
  have hi : irng1 (un gLen (pk 1)) [.val (w xs), .val (w xs), .un] = .ok ((List.range xs.length).map fun (i : Nat) => D.int (0 + i)) [.val (w xs), .val (w xs), .un] := by
    have hs : small (xs.length : Int) = true := small_of (by omega) (by have : xs.length ≤ 1000000 := hl; omega)
    simp only [bind_ok, bind_exn, bind_bad, s_ok, s_exn, s_bad, rd_ap, pk_ap, cst_ap, lift_some, lift_none, bin_ap, has_ap, binL_ap, un_ap, anil_ap, acons_ap, mkTup_ap, mkLst_ap, asB_bl, tv_ap, tnot_ap, tand_ap, tor_ap, vand_ap, vor_ap, vnot_ap, vif_ap, vchain_ap, sasg_ap, sown_ap, sif_ap, sret_ap, sexp_ap, snx_ap, sseq_ap, spar_ap, stg_ap, gnm_ap, gnil_ap, gcons_ap, gtp_ap, call_ap, doF_ok, doF_exn, callB_ap, apk_ap, doFB_ok, isOwn_ap, callI_ap, doI_ap, putOwn_ap, setD_ap, sset_ap, isLst_ap, mutl_ap, mutm_ap, sraise_ap, slcL_ap, slc_ap, pno_ap, psome_ap, unN_ap, iseq_ap, irng1_ap, irng2_ap, lrng_ap, gAdd_int, gInt_ap, at0, at1, at2, at3, gIx_lst, gIx_tup, gIx_scr, gLen_lst, gLen_tup, gLen_scr, gToInt_int, List.getElem?_cons_zero, List.getElem?_cons_succ, List.set_cons_zero, List.set_cons_succ, List.length_cons, List.length_nil, ite_true, ite_false, if_true, if_false, Bool.true_and, Bool.and_true, Bool.false_and, Bool.and_false, decide_true, decide_false, Option.map_some, Option.map_none, Bool.not_true, Bool.not_false, reduceIte, Nat.reduceAdd, Nat.reduceLeDiff, Bool.false_eq_true, Bool.true_eq_false, Bool.false_or, Bool.true_or, Bool.or_false, Bool.or_true, hg, hs, rngL_map]
    rw [show ((xs.length : Int) - 0).toNat = xs.length by omega]
  refine (lcomp_pure (φ := fun (i : Nat) => D.int (0 + i)) (p := fun _ => false) (f := fun _ => D.non) (List.range xs.length) hi rfl (by rw [List.length_range]; exact hl) (fun i hi => ?_) (fun _ _ h => by cases h)).trans ?_
  · rw [List.mem_range] at hi
    have hx : xs[i]? = some xs[i] := List.getElem?_eq_getElem hi
    have hix : gIx (w xs) (.int (0 + (i : Int))) = some xs[i] := by rcases hw with rfl | rfl <;> exact atI_nat hx
    have hm := ih xs[i] (List.getElem_mem hi)
    simp only [bind_ok, bind_exn, bind_bad, s_ok, s_exn, s_bad, rd_ap, pk_ap, cst_ap, lift_some, lift_none, bin_ap, has_ap, binL_ap, un_ap, anil_ap, acons_ap, mkTup_ap, mkLst_ap, asB_bl, tv_ap, tnot_ap, tand_ap, tor_ap, vand_ap, vor_ap, vnot_ap, vif_ap, vchain_ap, sasg_ap, sown_ap, sif_ap, sret_ap, sexp_ap, snx_ap, sseq_ap, spar_ap, stg_ap, gnm_ap, gnil_ap, gcons_ap, gtp_ap, call_ap, doF_ok, doF_exn, callB_ap, apk_ap, doFB_ok, isOwn_ap, callI_ap, doI_ap, putOwn_ap, setD_ap, sset_ap, isLst_ap, mutl_ap, mutm_ap, sraise_ap, slcL_ap, slc_ap, pno_ap, psome_ap, unN_ap, iseq_ap, irng1_ap, irng2_ap, lrng_ap, gAdd_int, gInt_ap, at0, at1, at2, at3, gIx_lst, gIx_tup, gIx_scr, gLen_lst, gLen_tup, gLen_scr, gToInt_int, List.getElem?_cons_zero, List.getElem?_cons_succ, List.set_cons_zero, List.set_cons_succ, List.length_cons, List.length_nil, ite_true, ite_false, if_true, if_false, Bool.true_and, Bool.and_true, Bool.false_and, Bool.and_false, decide_true, decide_false, Option.map_some, Option.map_none, Bool.not_true, Bool.not_false, reduceIte, Nat.reduceAdd, Nat.reduceLeDiff, Bool.false_eq_true, Bool.true_eq_false, Bool.false_or, Bool.true_or, Bool.or_false, Bool.or_true, hix, hm]
  · rw [List.filter_eq_nil_iff.mpr (fun _ _ h => by cases h)]; rfl
theorem alike_refl : ∀ (k n : Nat) (d : D), okl k d = true → k < n → k ≤ 20 → alikeF n [d, d] = .ok (.bl true) .non
  | k, 0, d, _, h, _ => absurd h (Nat.not_lt_zero _)
  | k, n + 1, .non, _, _, _ => by
    rw [alikeF, runP2]; unfold alikeB
    simp only [bind_ok, bind_exn, bind_bad, s_ok, s_exn, s_bad, rd_ap, pk_ap, cst_ap, lift_some, lift_none, bin_ap, has_ap, binL_ap, un_ap, anil_ap, acons_ap, mkTup_ap, mkLst_ap, asB_bl, tv_ap, tnot_ap, tand_ap, tor_ap, vand_ap, vor_ap, vnot_ap, vif_ap, vchain_ap, sasg_ap, sown_ap, sif_ap, sret_ap, sexp_ap, snx_ap, sseq_ap, spar_ap, stg_ap, gnm_ap, gnil_ap, gcons_ap, gtp_ap, call_ap, doF_ok, doF_exn, callB_ap, apk_ap, doFB_ok, isOwn_ap, callI_ap, doI_ap, putOwn_ap, setD_ap, sset_ap, isLst_ap, mutl_ap, mutm_ap, sraise_ap, slcL_ap, slc_ap, pno_ap, psome_ap, unN_ap, iseq_ap, irng1_ap, irng2_ap, lrng_ap, gAdd_int, gInt_ap, at0, at1, at2, at3, gIx_lst, gIx_tup, gIx_scr, gLen_lst, gLen_tup, gLen_scr, gToInt_int, List.getElem?_cons_zero, List.getElem?_cons_succ, List.set_cons_zero, List.set_cons_succ, List.length_cons, List.length_nil, ite_true, ite_false, if_true, if_false, Bool.true_and, Bool.and_true, Bool.false_and, Bool.and_false, decide_true, decide_false, Option.map_some, Option.map_none, Bool.not_true, Bool.not_false, reduceIte, Nat.reduceAdd, Nat.reduceLeDiff, Bool.false_eq_true, Bool.true_eq_false, Bool.false_or, Bool.true_or, Bool.or_false, Bool.or_true, List.map_cons, List.map_nil, List.cons_append, List.nil_append, i2_non, i1_non, isN_non, gEq_nn, gEq_bl, isa_NoneType_tuple, isa_NoneType_list, isa_NoneType_str, Bool.xor_false, Bool.or_self, beq_self_eq_true]
  | k, n + 1, .bl b, _, _, _ => by
    rw [alikeF, runP2]; unfold alikeB
    simp only [bind_ok, bind_exn, bind_bad, s_ok, s_exn, s_bad, rd_ap, pk_ap, cst_ap, lift_some, lift_none, bin_ap, has_ap, binL_ap, un_ap, anil_ap, acons_ap, mkTup_ap, mkLst_ap, asB_bl, tv_ap, tnot_ap, tand_ap, tor_ap, vand_ap, vor_ap, vnot_ap, vif_ap, vchain_ap, sasg_ap, sown_ap, sif_ap, sret_ap, sexp_ap, snx_ap, sseq_ap, spar_ap, stg_ap, gnm_ap, gnil_ap, gcons_ap, gtp_ap, call_ap, doF_ok, doF_exn, callB_ap, apk_ap, doFB_ok, isOwn_ap, callI_ap, doI_ap, putOwn_ap, setD_ap, sset_ap, isLst_ap, mutl_ap, mutm_ap, sraise_ap, slcL_ap, slc_ap, pno_ap, psome_ap, unN_ap, iseq_ap, irng1_ap, irng2_ap, lrng_ap, gAdd_int, gInt_ap, at0, at1, at2, at3, gIx_lst, gIx_tup, gIx_scr, gLen_lst, gLen_tup, gLen_scr, gToInt_int, List.getElem?_cons_zero, List.getElem?_cons_succ, List.set_cons_zero, List.set_cons_succ, List.length_cons, List.length_nil, ite_true, ite_false, if_true, if_false, Bool.true_and, Bool.and_true, Bool.false_and, Bool.and_false, decide_true, decide_false, Option.map_some, Option.map_none, Bool.not_true, Bool.not_false, reduceIte, Nat.reduceAdd, Nat.reduceLeDiff, Bool.false_eq_true, Bool.true_eq_false, Bool.false_or, Bool.true_or, Bool.or_false, Bool.or_true, List.map_cons, List.map_nil, List.cons_append, List.nil_append, i2_bl, i1_bl, isN_bl, gEq_bl, isa_bool_tuple, isa_bool_list, isa_bool_str, isa_bool_int, isa_bool_bool, Bool.xor_false, Bool.or_self, beq_self_eq_true]
  | k, n + 1, .int b, _, _, _ => by
    rw [alikeF, runP2]; unfold alikeB
    simp only [bind_ok, bind_exn, bind_bad, s_ok, s_exn, s_bad, rd_ap, pk_ap, cst_ap, lift_some, lift_none, bin_ap, has_ap, binL_ap, un_ap, anil_ap, acons_ap, mkTup_ap, mkLst_ap, asB_bl, tv_ap, tnot_ap, tand_ap, tor_ap, vand_ap, vor_ap, vnot_ap, vif_ap, vchain_ap, sasg_ap, sown_ap, sif_ap, sret_ap, sexp_ap, snx_ap, sseq_ap, spar_ap, stg_ap, gnm_ap, gnil_ap, gcons_ap, gtp_ap, call_ap, doF_ok, doF_exn, callB_ap, apk_ap, doFB_ok, isOwn_ap, callI_ap, doI_ap, putOwn_ap, setD_ap, sset_ap, isLst_ap, mutl_ap, mutm_ap, sraise_ap, slcL_ap, slc_ap, pno_ap, psome_ap, unN_ap, iseq_ap, irng1_ap, irng2_ap, lrng_ap, gAdd_int, gInt_ap, at0, at1, at2, at3, gIx_lst, gIx_tup, gIx_scr, gLen_lst, gLen_tup, gLen_scr, gToInt_int, List.getElem?_cons_zero, List.getElem?_cons_succ, List.set_cons_zero, List.set_cons_succ, List.length_cons, List.length_nil, ite_true, ite_false, if_true, if_false, Bool.true_and, Bool.and_true, Bool.false_and, Bool.and_false, decide_true, decide_false, Option.map_some, Option.map_none, Bool.not_true, Bool.not_false, reduceIte, Nat.reduceAdd, Nat.reduceLeDiff, Bool.false_eq_true, Bool.true_eq_false, Bool.false_or, Bool.true_or, Bool.or_false, Bool.or_true, List.map_cons, List.map_nil, List.cons_append, List.nil_append, i2_int, i1_int, isN_int, gEq_bl, gEq_int, isa_int_tuple, isa_int_list, isa_int_str, isa_int_int, isa_int_bool, Bool.xor_false, Bool.or_self, beq_self_eq_true]
  | k, n + 1, .str b, _, _, _ => by
    rw [alikeF, runP2]; unfold alikeB
    simp only [bind_ok, bind_exn, bind_bad, s_ok, s_exn, s_bad, rd_ap, pk_ap, cst_ap, lift_some, lift_none, bin_ap, has_ap, binL_ap, un_ap, anil_ap, acons_ap, mkTup_ap, mkLst_ap, asB_bl, tv_ap, tnot_ap, tand_ap, tor_ap, vand_ap, vor_ap, vnot_ap, vif_ap, vchain_ap, sasg_ap, sown_ap, sif_ap, sret_ap, sexp_ap, snx_ap, sseq_ap, spar_ap, stg_ap, gnm_ap, gnil_ap, gcons_ap, gtp_ap, call_ap, doF_ok, doF_exn, callB_ap, apk_ap, doFB_ok, isOwn_ap, callI_ap, doI_ap, putOwn_ap, setD_ap, sset_ap, isLst_ap, mutl_ap, mutm_ap, sraise_ap, slcL_ap, slc_ap, pno_ap, psome_ap, unN_ap, iseq_ap, irng1_ap, irng2_ap, lrng_ap, gAdd_int, gInt_ap, at0, at1, at2, at3, gIx_lst, gIx_tup, gIx_scr, gLen_lst, gLen_tup, gLen_scr, gToInt_int, List.getElem?_cons_zero, List.getElem?_cons_succ, List.set_cons_zero, List.set_cons_succ, List.length_cons, List.length_nil, ite_true, ite_false, if_true, if_false, Bool.true_and, Bool.and_true, Bool.false_and, Bool.and_false, decide_true, decide_false, Option.map_some, Option.map_none, Bool.not_true, Bool.not_false, reduceIte, Nat.reduceAdd, Nat.reduceLeDiff, Bool.false_eq_true, Bool.true_eq_false, Bool.false_or, Bool.true_or, Bool.or_false, Bool.or_true, List.map_cons, List.map_nil, List.cons_append, List.nil_append, i2_str, i1_str, isN_str, gEq_bl, gEq_str, isa_str_tuple, isa_str_list, isa_str_str, Bool.xor_false, Bool.or_self, beq_self_eq_true]
  | k + 1, n + 1, .tup xs, h, hn, hk => by
    rw [okl_tup, Bool.and_eq_true] at h
    have hr := alike_rows (n := n) (xs := xs) (fun x hx => alike_refl k n x (List.all_eq_true.mp h.2 x hx) (by omega) (by omega)) (of_decide_eq_true h.1) .tup (.inl rfl)
    have he : gEq false (.lst []) (.lst []) = some (.bl true) := rfl
    rw [alikeF, runP2]; unfold alikeB
    simp only [bind_ok, bind_exn, bind_bad, s_ok, s_exn, s_bad, rd_ap, pk_ap, cst_ap, lift_some, lift_none, bin_ap, has_ap, binL_ap, un_ap, anil_ap, acons_ap, mkTup_ap, mkLst_ap, asB_bl, tv_ap, tnot_ap, tand_ap, tor_ap, vand_ap, vor_ap, vnot_ap, vif_ap, vchain_ap, sasg_ap, sown_ap, sif_ap, sret_ap, sexp_ap, snx_ap, sseq_ap, spar_ap, stg_ap, gnm_ap, gnil_ap, gcons_ap, gtp_ap, call_ap, doF_ok, doF_exn, callB_ap, apk_ap, doFB_ok, isOwn_ap, callI_ap, doI_ap, putOwn_ap, setD_ap, sset_ap, isLst_ap, mutl_ap, mutm_ap, sraise_ap, slcL_ap, slc_ap, pno_ap, psome_ap, unN_ap, iseq_ap, irng1_ap, irng2_ap, lrng_ap, gAdd_int, gInt_ap, at0, at1, at2, at3, gIx_lst, gIx_tup, gIx_scr, gLen_lst, gLen_tup, gLen_scr, gToInt_int, List.getElem?_cons_zero, List.getElem?_cons_succ, List.set_cons_zero, List.set_cons_succ, List.length_cons, List.length_nil, ite_true, ite_false, if_true, if_false, Bool.true_and, Bool.and_true, Bool.false_and, Bool.and_false, decide_true, decide_false, Option.map_some, Option.map_none, Bool.not_true, Bool.not_false, reduceIte, Nat.reduceAdd, Nat.reduceLeDiff, Bool.false_eq_true, Bool.true_eq_false, Bool.false_or, Bool.true_or, Bool.or_false, Bool.or_true, List.map_cons, List.map_nil, List.cons_append, List.nil_append, i2_tup, i1_tup, gEq_bl, gEq_int, isa_tuple_tuple, isa_tuple_list, Bool.xor_true, Bool.xor_false, Bool.or_self, beq_self_eq_true, List.replicate, Nat.reduceSub, hr, he, Nat.zero_le]
  | k + 1, n + 1, .lst xs, h, hn, hk => by
    rw [okl_lst, Bool.and_eq_true] at h
    have hr := alike_rows (n := n) (xs := xs) (fun x hx => alike_refl k n x (List.all_eq_true.mp h.2 x hx) (by omega) (by omega)) (of_decide_eq_true h.1) .lst (.inr rfl)
    have he : gEq false (.lst []) (.lst []) = some (.bl true) := rfl
    rw [alikeF, runP2]; unfold alikeB
    simp only [bind_ok, bind_exn, bind_bad, s_ok, s_exn, s_bad, rd_ap, pk_ap, cst_ap, lift_some, lift_none, bin_ap, has_ap, binL_ap, un_ap, anil_ap, acons_ap, mkTup_ap, mkLst_ap, asB_bl, tv_ap, tnot_ap, tand_ap, tor_ap, vand_ap, vor_ap, vnot_ap, vif_ap, vchain_ap, sasg_ap, sown_ap, sif_ap, sret_ap, sexp_ap, snx_ap, sseq_ap, spar_ap, stg_ap, gnm_ap, gnil_ap, gcons_ap, gtp_ap, call_ap, doF_ok, doF_exn, callB_ap, apk_ap, doFB_ok, isOwn_ap, callI_ap, doI_ap, putOwn_ap, setD_ap, sset_ap, isLst_ap, mutl_ap, mutm_ap, sraise_ap, slcL_ap, slc_ap, pno_ap, psome_ap, unN_ap, iseq_ap, irng1_ap, irng2_ap, lrng_ap, gAdd_int, gInt_ap, at0, at1, at2, at3, gIx_lst, gIx_tup, gIx_scr, gLen_lst, gLen_tup, gLen_scr, gToInt_int, List.getElem?_cons_zero, List.getElem?_cons_succ, List.set_cons_zero, List.set_cons_succ, List.length_cons, List.length_nil, ite_true, ite_false, if_true, if_false, Bool.true_and, Bool.and_true, Bool.false_and, Bool.and_false, decide_true, decide_false, Option.map_some, Option.map_none, Bool.not_true, Bool.not_false, reduceIte, Nat.reduceAdd, Nat.reduceLeDiff, Bool.false_eq_true, Bool.true_eq_false, Bool.false_or, Bool.true_or, Bool.or_false, Bool.or_true, List.map_cons, List.map_nil, List.cons_append, List.nil_append, i2_lst, i1_lst, gEq_bl, gEq_int, isa_list_tuple, isa_list_list, Bool.xor_true, Bool.xor_false, Bool.or_self, beq_self_eq_true, List.replicate, Nat.reduceSub, hr, he, Nat.zero_le]
  | 0, n + 1, .tup xs, h, _, _ => by simp [okl] at h
  | 0, n + 1, .lst xs, h, _, _ => by simp [okl] at h
  | k, n + 1, .dct _ _, h, _, _ => by cases k <;> simp [okl] at h
  | k, n + 1, .ob _ _ _, h, _, _ => by cases k <;> simp [okl] at h
  | k, n + 1, .fn _, h, _, _ => by cases k <;> simp [okl] at h
  | k, n + 1, .scr _, h, _, _ => by cases k <;> simp [okl] at h
end DL

set_option Elab.async false
set_option linter.all false
set_option maxRecDepth 100000
set_option maxHeartbeats 8000000
set_option pp.maxSteps 150
namespace KC
open PySem L2 DL
noncomputable section
def b__law_taken : List Sl → RS :=
  (sseq (skl [2] (sif (tv (bin gGt (binL gIx 0 (cst (.int 3))) (cst (.int 0)))) (sseq (sasg 2 (bin gMod (un gToInt (binL gIx 0 (cst (.int 3)))) (pk 1))) (sseq (skl [1] (sset 0 (bin gDiv (binL gIx 0 (cst (.int 3))) (pk 1)) (cst (.int 3)))) (sret (rd 2)))) snx)) (sseq (sset 0 (bin gAdd (binL gIx 0 (cst (.int 1))) (cst (.int 1))) (cst (.int 1))) (sseq (sif (tv (bin gGt (binL gIx 0 (cst (.int 1))) (un gLen (binL gIx 0 (cst (.int 0)))))) (sseq (sset 0 (bin gMod (un gToInt (bin gAdd (bin gMulI (binL gIx 0 (cst (.int 2))) (cst (.int 48271))) (cst (.int 11)))) (cst (.int 2147483647))) (cst (.int 2))) (sret (bin gMod (un gToInt (bin gDiv (binL gIx 0 (cst (.int 2))) (cst (.int 7)))) (pk 1)))) snx) (sseq (sasg 3 (bin gIx (binL gIx 0 (cst (.int 0))) (bin gSub (binL gIx 0 (cst (.int 1))) (cst (.int 1))))) (sseq (sset 0 (bin gMod (un gToInt (bin gAdd (bin gAdd (bin gMulI (binL gIx 0 (cst (.int 2))) (cst (.int 48271))) (pk 3)) (cst (.int 11)))) (cst (.int 2147483647))) (cst (.int 2))) (sseq (sif (tv (bin gGe (rd 3) (bin gPow (cst (.int 10)) (cst (.int 18))))) (sset 0 (bin gDiv (rd 3) (pk 1)) (cst (.int 3))) snx) (sret (bin gMod (un gToInt (pk 3)) (pk 1)))))))))
def R__law_taken : List D → RF := runI 4 2 b__law_taken
def b__law_pick : List Sl → RS :=
  (sret (binL gIx 1 (callI 0 R__law_taken (acons (un gLen (pk 1)) anil))))
def R__law_pick : List D → RF := runI 2 2 b__law_pick
def b__law_alike (me : List D → RF) : List Sl → RS :=
  (sseq (sif (tv (un (gIsi2 "tuple" "list") (pk 1))) (sseq (sif (tor (tnot (tv (un (gIsi2 "tuple" "list") (pk 0)))) (tv (bin (gEq true) (un (gIsi "list") (pk 0)) (un (gIsi "list") (pk 1))))) (sret (cst (.bl false))) snx) (sseq (sif (tv (bin (gEq true) (un gLen (pk 0)) (un gLen (pk 1)))) (sret (cst (.bl false))) snx) (sret (bin (gEq false) (lcomp (irng1 (un gLen (pk 1))) (gnm 2) (tnot (tv (call me (acons (binL gIx 0 (pk 2)) (acons (binL gIx 1 (pk 2)) anil))))) (rd 2) [2]) (mkLst anil))))) snx) (sseq (sif (tor (tv (un (gIsN false) (rd 1))) (tv (un (gIsi "str") (pk 1)))) (sret (vand (bin (gEq false) (rd 0) (pk 1)) (bin (gEq false) (un (gIsi "str") (pk 0)) (un (gIsi "str") (pk 1))))) snx) (sret (vand (un (gIsi "int") (pk 0)) (vand (bin (gEq false) (un (gIsi "bool") (pk 0)) (un (gIsi "bool") (pk 1))) (bin (gEq false) (rd 0) (pk 1)))))))
def R__law_alike : Nat → List D → RF
  | 0 => fun _ => .bad
  | n + 1 => runP 3 2 (b__law_alike (R__law_alike n))
def b_is_whole : List Sl → RS :=
  (sret (vand (un (gIsi "int") (pk 0)) (vnot (un (gIsi "bool") (pk 0)))))
def R_is_whole : List D → RF := runP 1 1 b_is_whole
def b_is_row : List Sl → RS :=
  (sret (un (gIsi2 "list" "tuple") (pk 0)))
def R_is_row : List D → RF := runP 1 1 b_is_row
def b_reduced : List Sl → RS :=
  (sseq (spar 2 3 (acons (un gAbs (pk 0)) (acons (rd 1) anil))) (sseq (skl [3] (swhile (tv (bin gGt (rd 3) (cst (.int 0)))) (spar 2 3 (acons (rd 3) (acons (bin gMod (rd 2) (pk 3)) anil))))) (sret (vif (tv (bin gGt (rd 2) (cst (.int 0)))) (mkTup (acons (bin gDiv (rd 0) (pk 2)) (acons (bin gDiv (rd 1) (pk 2)) anil))) (mkTup (acons (cst (.int 0)) (acons (cst (.int 1)) anil)))))))
def R_reduced : List D → RF := runP 4 2 b_reduced
def b_plus : List Sl → RS :=
  (sret (call R_reduced (acons (bin gAdd (bin gMulI (binL gIx 0 (cst (.int 0))) (binL gIx 1 (cst (.int 1)))) (bin gMulI (binL gIx 1 (cst (.int 0))) (binL gIx 0 (cst (.int 1))))) (acons (bin gMulI (binL gIx 0 (cst (.int 1))) (binL gIx 1 (cst (.int 1)))) anil))))
def R_plus : List D → RF := runP 2 2 b_plus
def b_minus : List Sl → RS :=
  (sret (call R_reduced (acons (bin gSub (bin gMulI (binL gIx 0 (cst (.int 0))) (binL gIx 1 (cst (.int 1)))) (bin gMulI (binL gIx 1 (cst (.int 0))) (binL gIx 0 (cst (.int 1))))) (acons (bin gMulI (binL gIx 0 (cst (.int 1))) (binL gIx 1 (cst (.int 1)))) anil))))
def R_minus : List D → RF := runP 2 2 b_minus
def b_times : List Sl → RS :=
  (sret (call R_reduced (acons (bin gMulI (binL gIx 0 (cst (.int 0))) (binL gIx 1 (cst (.int 0)))) (acons (bin gMulI (binL gIx 0 (cst (.int 1))) (binL gIx 1 (cst (.int 1)))) anil))))
def R_times : List D → RF := runP 2 2 b_times
def b_is_less : List Sl → RS :=
  (sret (bin gLt (bin gMulI (binL gIx 0 (cst (.int 0))) (binL gIx 1 (cst (.int 1)))) (bin gMulI (binL gIx 1 (cst (.int 0))) (binL gIx 0 (cst (.int 1))))))
def R_is_less : List D → RF := runP 2 2 b_is_less
def b__law_truth : List Sl → RS :=
  (sret (vand (un (gIsi "bool") (pk 0)) (bin (gEq false) (rd 0) (pk 1))))
def R__law_truth : List D → RF := runP 2 2 b__law_truth
def b_is_name : List Sl → RS :=
  (sseq (sif (tor (tnot (tv (un (gIsi "str") (pk 0)))) (tor (tnot (tv (vchain gLe gLe (cst (.int 1)) (un gLen (pk 0)) (cst (.int 12))))) (tv (bin (gIn true) (binL gIx 0 (cst (.int 0))) (cst (.str "abcdefghijklmnopqrstuvwxyz")))))) (sret (cst (.bl false))) snx) (sret (un gAll (lcomp (iseq (rd 0)) (gnm 1) tyes (vor (bin (gIn false) (rd 1) (cst (.str "abcdefghijklmnopqrstuvwxyz"))) (bin (gIn false) (rd 1) (cst (.str "0123456789")))) [1]))))
def R_is_name : List D → RF := runP 2 1 b_is_name
def b__law_name : List Sl → RS :=
  (sseq (sasg 1 (cst (.str "abcdefghijklmnopqrstuvwxyz0123456789"))) (sseq (sasg 2 (callI 0 R__law_pick (acons (mkLst (acons (cst (.int 1)) (acons (cst (.int 1)) (acons (cst (.int 2)) (acons (cst (.int 3)) (acons (cst (.int 5)) (acons (cst (.int 12)) anil))))))) anil))) (sseq (sasg 3 (binL gIx 1 (callI 0 R__law_taken (acons (cst (.int 26)) anil)))) (sseq (skl [1, 2, 4] (sfor (irng1 (bin gSub (rd 2) (cst (.int 1)))) (gnm 4) (skl [4] (sasg 3 (bin gAdd (rd 3) (binL gIx 1 (callI 0 R__law_taken (acons (cst (.int 36)) anil)))))))) (sret (rd 3))))))
def R__law_name : List D → RF := runI 5 1 b__law_name
def b__law_shuffled : List Sl → RS :=
  (sseq (sasg 2 (unN gSorted (lcomp (irng1 (un gLen (pk 1))) (gnm 3) tyes (mkTup (acons (callI 0 R__law_taken (acons (cst (.int 1000)) anil)) (acons (rd 3) anil))) [3]))) (sret (lcomp (iseq (rd 2)) (gnm 4) tyes (binL gIx 1 (binL gIx 4 (cst (.int 1)))) [4])))
def R__law_shuffled : List D → RF := runI 5 2 b__law_shuffled
def b_is_number : List Sl → RS :=
  (sret (vand (call R_is_whole (acons (rd 0) anil)) (vchain gLe gLe (rd 1) (rd 0) (pk 2))))
def R_is_number : List D → RF := runP 3 3 b_is_number
def b_want_number : List Sl → RS :=
  (sseq (skl [1, 2] (sif (tnot (tv (call R_is_number (acons (rd 0) (acons (rd 1) (acons (rd 2) anil)))))) (sraise "BadNumber" ["value"] (acons (rd 0) anil)) snx)) (sret (rd 0)))
def R_want_number : List D → RF := runP 3 3 b_want_number
def b__law_mixed : List Sl → RS :=
  (sseq (sif (tv (bin (gEq false) (callI 0 R__law_taken (acons (cst (.int 2)) anil)) (cst (.int 0)))) (sret (unN gList (pk 1))) snx) (sret (un gTuple (pk 1))))
def R__law_mixed : List D → RF := runI 2 2 b__law_mixed
def b__law_names : List Sl → RS :=
  (sseq (sown 2 (mkLst anil)) (sseq (skl [1, 3, 4, 5] (sfor (irng1 (rd 1)) (gnm 3) (skl [3, 4, 5] (sseq (sasg 4 (callI 0 R__law_name anil)) (sseq (skl [4] (sasg 5 (bin gAdd (mkLst (acons (rd 4) anil)) (lcomp (irng1 (cst (.int 100))) (gnm 6) tyes (bin gAdd (slcL 4 pno (psome (cst (.int 9)))) (un gStr (pk 6))) [6])))) (skl [5] (sexp (mutl 2 gAppend (acons (bin gIx (lcomp (iseq (rd 5)) (gnm 7) (tv (bin (gIn true) (rd 7) (pk 2))) (rd 7) [7]) (cst (.int 0))) anil))))))))) (sret (rd 2))))
def R__law_names : List D → RF := runI 8 2 b__law_names
def b__law_pairs : List Sl → RS :=
  (sseq (sasg 2 (mkLst anil)) (sseq (skl [0, 1, 3] (sfor (irng1 (rd 0)) (gnm 3) (skl [3] (skl [3] (sasg 2 (bin gAdd (rd 2) (lcomp (irng1 (rd 1)) (gnm 4) tyes (mkTup (acons (rd 3) (acons (rd 4) anil))) [4]))))))) (sret (rd 2))))
def R__law_pairs : List D → RF := runP 5 2 b__law_pairs
def b__law_strange : List Sl → RS :=
  (sret (bin gIx (lcomp (iseq (lcomp (irng1 (cst (.int 400))) (gnm 2) tyes (bin gAdd (cst (.str "q")) (un gStr (pk 2))) [2])) (gnm 1) (tv (bin (gIn true) (rd 1) (pk 0))) (rd 1) [1]) (cst (.int 0))))
def R__law_strange : List D → RF := runP 3 1 b__law_strange
def b__law_whole : List Sl → RS :=
  (sret (vand (un (gIsi "int") (pk 0)) (vnot (un (gIsi "bool") (pk 0)))))
def R__law_whole : List D → RF := runP 1 1 b__law_whole
def b__law_refused_row : List Sl → RS :=
  (sret (vand (bin (gEq false) (rd 0) (pk 1)) (bin (gEq false) (call R__law_whole (acons (binL gIx 0 (cst (.int 1))) anil)) (call R__law_whole (acons (binL gIx 1 (cst (.int 1))) anil)))))
def R__law_refused_row : List D → RF := runP 2 2 b__law_refused_row
def b__law_some : List Sl → RS :=
  (sret (lcomp (iseq (rd 1)) (gnm 2) (tv (bin (gEq false) (callI 0 R__law_taken (acons (cst (.int 2)) anil)) (cst (.int 1)))) (rd 2) [2]))
def R__law_some : List D → RF := runI 3 2 b__law_some
def b_frozen (me : List D → RF) : List Sl → RS :=
  (sseq (sif (tv (un (gIsi2 "list" "tuple") (pk 0))) (sret (un gTuple (lcomp (iseq (rd 0)) (gnm 1) tyes (call me (acons (rd 1) anil)) [1]))) snx) (sret (rd 0)))
def R_frozen : Nat → List D → RF
  | 0 => fun _ => .bad
  | n + 1 => runP 2 1 (b_frozen (R_frozen n))
def b_want_row (tb : Str → Option (List D → RF)) : List Sl → RS :=
  (sseq (sif (tnot (tv (call R_is_row (acons (rd 0) anil)))) (sraise "BadItem" ["index"] (acons (cst .non) anil)) snx) (sseq (skl [1, 3, 4] (sfor (ienum (rd 0)) (gtp 2 (gcons (gnm 3) (gcons (gnm 4) gnil))) (skl [3, 4] (skl [3, 4] (sif (tnot (tv (callV 1 tb (acons (rd 4) anil)))) (sraise "BadItem" ["index"] (acons (rd 3) anil)) snx))))) (sseq (skl [2] (sif (tv (bin gGt (un gLen (pk 0)) (pk 2))) (sraise "TooMany" ["limit"] (acons (rd 2) anil)) snx)) (sret (call (R_frozen 24) (acons (rd 0) anil))))))
def R_want_row (tb : Str → Option (List D → RF)) : List D → RF := runP 5 3 (b_want_row tb)
def b__law_subsets : List Sl → RS :=
  (sseq (sasg 1 (mkLst (acons (mkLst anil) anil))) (sseq (skl [0, 2] (sfor (irng1 (rd 0)) (gnm 2) (skl [2] (skl [2] (sasg 1 (bin gAdd (rd 1) (lcomp (iseq (rd 1)) (gnm 3) tyes (bin gAdd (rd 3) (mkLst (acons (rd 2) anil))) [3]))))))) (sret (rd 1))))
def R__law_subsets : List D → RF := runP 4 1 b__law_subsets
def b__law_sized : List Sl → RS :=
  (sret (lcomp (iseq (unN gSorted (lcomp (iseq (call R__law_subsets (acons (rd 0) anil))) (gnm 3) tyes (mkTup (acons (un gLen (pk 3)) (acons (rd 3) anil))) [3]))) (gtp 2 (gcons (gnm 1) (gcons (gnm 2) gnil))) tyes (rd 2) [1, 2]))
def R__law_sized : List D → RF := runP 4 1 b__law_sized
def b_subsets : List Sl → RS :=
  (sseq (smix [(1, true), (2, false)] (acons (mkLst (acons (mkTup anil) anil)) (acons (mkLst (acons (mkTup anil) anil)) anil))) (sseq (skl [0, 2, 3, 4, 5] (swhile (tv (bin gGt (un gLen (pk 2)) (cst (.int 0)))) (skl [3, 4, 5] (sseq (sown 3 (mkLst anil)) (sseq (skl [2, 4, 5] (sfor (iseq (rd 2)) (gnm 4) (skl [4, 5] (sseq (sasg 5 (vif (tv (bin gGt (un gLen (pk 4)) (cst (.int 0)))) (bin gAdd (methP isSq gIndex (rd 0) (acons (binL gIx 4 (un gNeg (cst (.int 1)))) anil)) (cst (.int 1))) (cst (.int 0)))) (skl [4, 5] (sexp (mutl 3 gExtend (acons (lcomp (iseq (slcL 0 (psome (rd 5)) pno)) (gnm 6) tyes (bin gAdd (rd 4) (mkTup (acons (rd 6) anil))) [6]) anil)))))))) (sseq (sexp (mutl 1 gExtend (acons (rd 3) anil))) (skl [3] (sasg 2 (rd 3))))))))) (sret (rd 1))))
def R_subsets : List D → RF := runP 7 1 b_subsets
def b__law_low3 : List Sl → RS :=
  (sseq (spar 2 3 (acons (rd 0) (acons (rd 1) anil))) (sseq (skl [2] (swhile (tv (bin (gEq true) (bin gMod (rd 2) (pk 3)) (cst (.int 0)))) (spar 2 3 (acons (rd 3) (acons (bin gMod (rd 2) (pk 3)) anil))))) (sret (mkTup (acons (bin gDiv (rd 0) (pk 3)) (acons (bin gDiv (rd 1) (pk 3)) anil))))))
def R__law_low3 : List D → RF := runP 4 2 b__law_low3
def b__law_sum : List Sl → RS :=
  (sseq (stg (mkTup (acons (cst (.int 0)) (acons (cst (.int 1)) anil))) (gtp 2 (gcons (gnm 1) (gcons (gnm 2) gnil)))) (sseq (skl [0, 3, 4] (sfor (iseq (rd 0)) (gtp 2 (gcons (gnm 3) (gcons (gnm 4) gnil))) (skl [3, 4] (skl [3, 4] (spar 1 2 (acons (bin gAdd (bin gMulI (rd 1) (pk 4)) (bin gMulI (rd 3) (pk 2))) (acons (bin gMulI (rd 2) (pk 4)) anil))))))) (sret (call R__law_low3 (acons (rd 1) (acons (rd 2) anil))))))
def R__law_sum : List D → RF := runP 5 1 b__law_sum
def b_want_names : List Sl → RS :=
  (sseq (skl [1] (sif (tor (tnot (tv (call R_is_row (acons (rd 0) anil)))) (tv (bin gLt (un gLen (pk 0)) (pk 1)))) (sraise "BadItem" ["index"] (acons (cst .non) anil)) snx)) (sseq (skl [3, 4] (sfor (ienum (rd 0)) (gtp 2 (gcons (gnm 3) (gcons (gnm 4) gnil))) (skl [3, 4] (skl [3, 4] (sif (tor (tnot (tv (call R_is_name (acons (rd 4) anil)))) (tv (bin (gIn false) (rd 4) (slcL 0 pno (psome (rd 3)))))) (sraise "BadItem" ["index"] (acons (rd 3) anil)) snx))))) (sseq (skl [2] (sif (tv (bin gGt (un gLen (pk 0)) (pk 2))) (sraise "TooMany" ["limit"] (acons (rd 2) anil)) snx)) (sret (un gTuple (pk 0))))))
def R_want_names : List D → RF := runP 5 3 b_want_names
end
end KC

set_option Elab.async false
set_option linter.all false
set_option maxRecDepth 100000
set_option maxHeartbeats 4000000
/-! word by word readings of the later words -/
namespace DL
open PySem
theorem nc_lit {n : Nat} : (Nat.cast (no_index (OfNat.ofNat n)) : Int) = OfNat.ofNat n := rfl
section
variable {r : List Sl} {i j : Nat} {fa fb fo : List Sl → RE D} {fs : List Sl → RE (List D)} {sa sb : List Sl → RS} {g : D → D → Option D}
theorem skl_ap {vs : List Nat} : skl vs sa r = match sa r with
  | .nx r1 => .nx (wipeR r1 vs)
  | .ct r1 => .ct (wipeR r1 vs)
  | x => x := rfl
theorem wipeR_nil : wipeR r [] = r := rfl
theorem wipeR_cons {v : Nat} {vs : List Nat} : wipeR r (v :: vs) = (wipeR r vs).set v .un := rfl
theorem smix_ap {is : List (Nat × Bool)} : smix is fs r = (fs r).s fun ds r1 => match putsR is ds r1 with
  | some r2 => .nx r2
  | none => .bad := rfl
theorem putsR_nil : putsR [] [] r = some r := rfl
theorem putsR_cons {b : Bool} {is : List (Nat × Bool)} {d : D} {ds : List D} : putsR ((i, b) :: is) (d :: ds) r = putsR is ds (r.set i (if b = true then .own d else .val d)) := rfl
theorem methP_ap {p : D → Bool} {u : D → List D → Option D} : methP p u fo fs r = (fo r).bind fun o r1 => if p o = true then (fs r1).bind fun ds r2 => liftO (u o ds) r2 else .bad := rfl
theorem isSq_lst {xs : List D} : isSq (.lst xs) = true := rfl
theorem isSq_tup {xs : List D} : isSq (.tup xs) = true := rfl
theorem ienum_ap : ienum fa r = (fa r).bind fun x r1 => match gSeq x with
  | some ds => .ok (numb ds) r1
  | none => .bad := rfl
theorem callM_ap {c m : Str} {F : List D → RF} : callM c m F fo fs r = (fo r).bind fun o r1 => match o with
  | .ob c' ns ds => if (decide (c' = c) && !decide (m ∈ ns)) = true then (fs r1).bind fun es r2 => doF (F (.ob c' ns ds :: es)) r2 else .bad
  | _ => .bad := rfl
def mcall (c m : Str) (F : List D → RF) (o : D) (fs : List Sl → RE (List D)) (r1 : List Sl) : RE D := match o with
  | .ob c' ns ds => if (decide (c' = c) && !decide (m ∈ ns)) = true then (fs r1).bind fun es r2 => doF (F (.ob c' ns ds :: es)) r2 else .bad
  | _ => .bad
theorem callM_ap' {c m : Str} {F : List D → RF} : callM c m F fo fs r = (fo r).bind fun o r1 => mcall c m F o fs r1 := rfl
theorem mcall_ob {c m : Str} {F : List D → RF} {ns : List Str} {ds : List D} (h : decide (m ∈ ns) = false) : mcall c m F (.ob c ns ds) fs r = (fs r).bind fun es r2 => doF (F (.ob c ns ds :: es)) r2 := by
  unfold mcall
  dsimp only
  rw [h, decide_eq_true rfl]; rfl
theorem mkOb_ap {c : Str} {F : List D → RF} {dd : List D} : mkOb c F dd fs r = (fs r).bind fun ds r1 => match F (.ob c [] [] :: (ds ++ dd)) with
  | .ok .non io => .ok io r1
  | .exn x _ => .exn x r1
  | _ => .bad := rfl
theorem sfld_ap {kn : Str → Bool} {f : Str} : sfld i kn f fa r = (fa r).s fun d r1 => match putOwn i r1 (setFld kn f d) with
  | some r2 => .nx r2
  | none => .bad := rfl
theorem saug_ap : saug i g fa r = if has i r then (fa r).s fun y r1 => (pk i r1).s fun x r2 => (liftO (g x y) r2).s fun z r3 => .nx (r3.set i (.val z)) else .bad := rfl
theorem callV_ap {tb : Str → Option (List D → RF)} : callV i tb fs r = match r[i]? with
  | some (.val (.fn c)) => (match tb c with
    | some F => (fs r).bind fun ds r1 => doF (F ds) r1
    | none => .bad)
  | _ => .bad := rfl
theorem stryN_ap {l : List DHnd} : stryN l sb r = match sb r with
  | .exn x r1 => byH l x r1
  | o => o := rfl
theorem byH_nil {x : Xn} : byH [] x r = .exn x r := rfl
theorem byH_cons {cat : Str → Option Bool} {l : List DHnd} {x : Xn} : byH ((i, cat, sa) :: l) x r = match cat x.c with
  | some true => if noXc r = true then dropAt i (sa (r.set i (.xc x))) else .bad
  | some false => byH l x r
  | none => .bad := rfl
theorem gStr_str {z : Str} : gStr (.str z) = some (.str z) := rfl
theorem gAugAdd_int {a b : Int} : gAugAdd (.int a) (.int b) = some (.int (a + b)) := rfl
theorem gNeg_int' {a : Int} : gNeg (.int a) = some (.int (-a)) := rfl
theorem gSeq_lst {xs : List D} : gSeq (.lst xs) = some xs := rfl
theorem gSeq_tup {xs : List D} : gSeq (.tup xs) = some xs := rfl
theorem gTuple_lst {xs : List D} : gTuple (.lst xs) = some (.tup xs) := rfl
theorem gTuple_tup {xs : List D} : gTuple (.tup xs) = some (.tup xs) := rfl
theorem gList_lst {xs : List D} : gList (.lst xs) = some xs := rfl
theorem gList_tup {xs : List D} : gList (.tup xs) = some xs := rfl
theorem gLen_str {z : Str} : gLen (.str z) = if z.length ≤ LIM then some (.int (z.length : Nat)) else none := rfl
theorem doFB_exn {x : Xn} {io : D} : doFB (.exn x io) r = if immL x.ds = true then .exn x r else .bad := rfl
theorem gSl_lst {lo hi : Option Int} {xs : List D} : gSl lo hi (.lst xs) = some (.lst (cut xs lo hi)) := rfl
theorem gSl_tup {lo hi : Option Int} {xs : List D} : gSl lo hi (.tup xs) = some (.tup (cut xs lo hi)) := rfl
theorem gAppend_lst {xs : List D} {d : D} : gAppend (.lst xs) [d] = if xs.length < LIM then some (.non, .lst (xs ++ [d])) else none := rfl
theorem gExtend_lst {xs ys : List D} : gExtend (.lst xs) [.lst ys] = if xs.length + ys.length ≤ LIM then some (.non, .lst (xs ++ ys)) else none := rfl
theorem gAdd_lst {xs ys : List D} : gAdd (.lst xs) (.lst ys) = if xs.length + ys.length ≤ LIM then some (.lst (xs ++ ys)) else none := rfl
theorem gAdd_str {a b : Str} : gAdd (.str a) (.str b) = if a.length + b.length ≤ LIM then some (.str (a ++ b)) else none := rfl
theorem eqO_ob {c : Str} {F : List D → RF} {neg : Bool} {ns ns' : List Str} {ds ds' : List D} : gEqO c F neg (.ob c ns ds) (.ob c ns' ds') = match F [.ob c ns ds, .ob c ns' ds'] with
  | .ok (.bl b) _ => some (.bl (b ^^ neg))
  | _ => none := by
  unfold gEqO
  rw [if_pos (by simp [isObC])]
  all_goals rfl
theorem eqO_bas {c : Str} {F : List D → RF} {neg : Bool} {ns : List Str} {ds : List D} {y : D} (h : (tyD y).isSome = true) : gEqO c F neg (.ob c ns ds) y = match F [.ob c ns ds, y] with
  | .ok (.bl b) _ => some (.bl (b ^^ neg))
  | _ => none := by
  unfold gEqO
  rw [if_pos (by simp [isObC, h])]
  all_goals rfl
theorem isO_bas {tab : Str → Option Bool} {d : D} (h : (tyD d).isSome = true) : gIsO tab d = some (.bl false) := by
  cases d <;> first | (cases h; done) | (unfold gIsO; dsimp only; rw [if_pos h])
theorem isO_ob {tab : Str → Option Bool} {c : Str} {ns : List Str} {ds : List D} : gIsO tab (.ob c ns ds) = (tab c).map .bl := rfl
theorem look_hd {f : Str} {v : D} {l : List (Str × D)} : ((f, v) :: l).lookup f = some v := by simp [List.lookup]
theorem look_tl {f g : Str} {v : D} {l : List (Str × D)} (h : (f == g) = false) : ((g, v) :: l).lookup f = l.lookup f := by simp [List.lookup, h]
theorem fld_ob {kn : Str → Bool} {f c : Str} {ns : List Str} {ds : List D} (h : kn c = true) : gFld kn f (.ob c ns ds) = (ns.zip ds).lookup f := by
  show (if kn c = true then _ else _) = _
  rw [if_pos h]
theorem set_ob {kn : Str → Bool} {f c : Str} {v : D} {ns : List Str} {ds : List D} (h : (kn c && decide (ns.length < 900)) = true) : setFld kn f v (.ob c ns ds) = some (.ob c (putN f v ns ds).1 (putN f v ns ds).2) := by
  show (if _ then _ else _) = _
  rw [if_pos h]
theorem putN_nil {f : Str} {v : D} : putN f v [] [] = ([f], [v]) := rfl
theorem putN_ne {f n : Str} {v d : D} {ns : List Str} {ds : List D} (h : n ≠ f) : putN f v (n :: ns) (d :: ds) = (n :: (putN f v ns ds).1, d :: (putN f v ns ds).2) := by
  show (if n = f then _ else _) = _
  rw [if_neg h]
theorem putN_eq {f : Str} {v d : D} {ns : List Str} {ds : List D} : putN f v (f :: ns) (d :: ds) = (f :: ns, v :: ds) := by
  show (if f = f then _ else _) = _
  rw [if_pos rfl]
end
/-! ### runs -/
def outP : RS → RF
  | .nx _ => .ok .non .non
  | .rt d _ => .ok d .non
  | .exn x _ => .exn x .non
  | _ => .bad
def outI : RS → RF
  | .nx r => ioOf r fun io => .ok .non io
  | .rt d r => ioOf r fun io => .ok d io
  | .exn x r => ioOf r fun io => .exn x io
  | _ => .bad
theorem runP_ap {n : Nat} {f : List Sl → RS} {ds : List D} : runP n ds.length f ds = outP (f (ds.map .val ++ List.replicate (n - ds.length) .un)) := by
  unfold runP
  rw [if_pos rfl]
  cases f (ds.map .val ++ List.replicate (n - ds.length) .un) <;> rfl
theorem runP_1 {n : Nat} {f : List Sl → RS} {a : D} : runP n 1 f [a] = outP (f (.val a :: List.replicate (n - 1) .un)) := runP_ap (ds := [a])
theorem runP_2 {n : Nat} {f : List Sl → RS} {a b : D} : runP n 2 f [a, b] = outP (f (.val a :: .val b :: List.replicate (n - 2) .un)) := runP_ap (ds := [a, b])
theorem runP_3 {n : Nat} {f : List Sl → RS} {a b c : D} : runP n 3 f [a, b, c] = outP (f (.val a :: .val b :: .val c :: List.replicate (n - 3) .un)) := runP_ap (ds := [a, b, c])
theorem runP_4 {n : Nat} {f : List Sl → RS} {a b c d : D} : runP n 4 f [a, b, c, d] = outP (f (.val a :: .val b :: .val c :: .val d :: List.replicate (n - 4) .un)) := runP_ap (ds := [a, b, c, d])
theorem runP_5 {n : Nat} {f : List Sl → RS} {a b c d e : D} : runP n 5 f [a, b, c, d, e] = outP (f (.val a :: .val b :: .val c :: .val d :: .val e :: List.replicate (n - 5) .un)) := runP_ap (ds := [a, b, c, d, e])
theorem runI_ap {n : Nat} {f : List Sl → RS} {o : D} {ds : List D} : runI n (ds.length + 1) f (o :: ds) = outI (f (.io o :: ds.map .val ++ List.replicate (n - (ds.length + 1)) .un)) := by
  unfold runI
  rw [if_pos (show (o :: ds).length = ds.length + 1 from rfl)]
  show (match f (.io o :: ds.map .val ++ List.replicate (n - (ds.length + 1)) .un) with
    | .nx r => ioOf r fun io => .ok .non io
    | .rt d r => ioOf r fun io => .ok d io
    | .exn x r => ioOf r fun io => .exn x io
    | _ => .bad) = _
  cases f (.io o :: ds.map .val ++ List.replicate (n - (ds.length + 1)) .un) <;> rfl
theorem runI_1 {n : Nat} {f : List Sl → RS} {a : D} : runI n 1 f [a] = outI (f (.io a :: List.replicate (n - 1) .un)) := runI_ap (o := a) (ds := [])
theorem runI_2 {n : Nat} {f : List Sl → RS} {a b : D} : runI n 2 f [a, b] = outI (f (.io a :: .val b :: List.replicate (n - 2) .un)) := runI_ap (o := a) (ds := [b])
theorem runI_3 {n : Nat} {f : List Sl → RS} {a b c : D} : runI n 3 f [a, b, c] = outI (f (.io a :: .val b :: .val c :: List.replicate (n - 3) .un)) := runI_ap (o := a) (ds := [b, c])
theorem runI_4 {n : Nat} {f : List Sl → RS} {a b c d : D} : runI n 4 f [a, b, c, d] = outI (f (.io a :: .val b :: .val c :: .val d :: List.replicate (n - 4) .un)) := runI_ap (o := a) (ds := [b, c, d])
theorem runI_5 {n : Nat} {f : List Sl → RS} {a b c d e : D} : runI n 5 f [a, b, c, d, e] = outI (f (.io a :: .val b :: .val c :: .val d :: .val e :: List.replicate (n - 5) .un)) := runI_ap (o := a) (ds := [b, c, d, e])
theorem outP_nx {r : List Sl} : outP (.nx r) = .ok .non .non := rfl
theorem outP_rt {d : D} {r : List Sl} : outP (.rt d r) = .ok d .non := rfl
theorem outP_exn {x : Xn} {r : List Sl} : outP (.exn x r) = .exn x .non := rfl
theorem outI_nx {d : D} {r : List Sl} : outI (.nx (.io d :: r)) = .ok .non d := rfl
theorem outI_rt {d e : D} {r : List Sl} : outI (.rt e (.io d :: r)) = .ok e d := rfl
theorem outI_exn {x : Xn} {d : D} {r : List Sl} : outI (.exn x (.io d :: r)) = .exn x d := rfl
theorem rep_0 {n : Nat} (h : n = 0 := by rfl) : List.replicate n Sl.un = [] := by rw [h]; rfl
/-! ### caught exceptions -/
theorem noXc_nil : noXc [] = true := rfl
theorem noXc_un {r : List Sl} : noXc (.un :: r) = noXc r := rfl
theorem noXc_val {r : List Sl} {d : D} : noXc (.val d :: r) = noXc r := rfl
theorem noXc_own {r : List Sl} {d : D} : noXc (.own d :: r) = noXc r := rfl
theorem noXc_io {r : List Sl} {d : D} : noXc (.io d :: r) = noXc r := rfl
theorem dropAt_nx {i : Nat} {r : List Sl} : dropAt i (.nx r) = if noXc (r.set i .un) = true then .nx (r.set i .un) else .bad := rfl
theorem dropAt_bk {i : Nat} {r : List Sl} : dropAt i (.bk r) = if noXc (r.set i .un) = true then .bk (r.set i .un) else .bad := rfl
theorem dropAt_ct {i : Nat} {r : List Sl} : dropAt i (.ct r) = if noXc (r.set i .un) = true then .ct (r.set i .un) else .bad := rfl
theorem dropAt_rt {i : Nat} {r : List Sl} {d : D} : dropAt i (.rt d r) = if noXc (r.set i .un) = true then .rt d (r.set i .un) else .bad := rfl
theorem keepAt_nx {r : List Sl} : keepAt (.nx r) = if noXc r = true then .nx r else .bad := rfl
theorem keepAt_bk {r : List Sl} : keepAt (.bk r) = if noXc r = true then .bk r else .bad := rfl
theorem keepAt_ct {r : List Sl} : keepAt (.ct r) = if noXc r = true then .ct r else .bad := rfl
theorem keepAt_rt {r : List Sl} {d : D} : keepAt (.rt d r) = if noXc r = true then .rt d r else .bad := rfl
theorem stry0_ap {cat : Str → Option Bool} {sa sb : List Sl → RS} {r : List Sl} : stry0 cat sa sb r = match sa r with
  | .exn x r1 => (match cat x.c with
    | some true => if noXc r1 = true then keepAt (sb r1) else .bad
    | some false => .exn x r1
    | none => .bad)
  | o => o := rfl
/-! ### a law, statement by statement -/
theorem go_nx {a b : List Sl → RS} {r r' : List Sl} (h : a r = .nx r') (k : ∃ q, b r' = .rt (.bl true) q) : ∃ q, sseq a b r = .rt (.bl true) q := by
  obtain ⟨q, e⟩ := k
  exact ⟨q, (sseq_nx h).trans e⟩
theorem law_of {n : Nat} {f : List Sl → RS} {ns : List Int} (h : ∃ q, f (.val (.scr ns) :: List.replicate (n - 1) .un) = .rt (.bl true) q) : ∃ io, runP n 1 f [.scr ns] = .ok (.bl true) io := by
  obtain ⟨q, e⟩ := h
  exact ⟨.non, by rw [runP_1, e]; rfl⟩
/-! ### loops -/
/-- a loop whose turns keep a state -/
theorem forL_fold {α σ : Type} {g : D → List Sl → RS} {b : List Sl → RS} (φ : α → D) (R : σ → List Sl) (f : σ → α → σ) (I : σ → Prop) : ∀ (xs : List α) (s : σ), I s → (∀ x ∈ xs, ∀ s, I s → (∃ r1, g (φ x) (R s) = .nx r1 ∧ (b r1 = .nx (R (f s x)) ∨ b r1 = .ct (R (f s x)))) ∧ I (f s x)) →
    forL (xs.map φ) g b (R s) = .nx (R (xs.foldl f s)) ∧ I (xs.foldl f s)
  | [], s, hI, _ => ⟨rfl, hI⟩
  | x :: xs, s, hI, h => by
    obtain ⟨⟨r1, h1, h2⟩, h3⟩ := h x List.mem_cons_self s hI
    have ih := forL_fold φ R f I xs (f s x) h3 fun y hy => h y (List.mem_cons_of_mem _ hy)
    refine ⟨?_, ih.2⟩
    rw [List.map_cons, forL_cons, h1, List.foldl_cons]
    rcases h2 with h2 | h2 <;> simp only [h2] <;> exact ih.1
/-- a loop that ends in a return at the first item that p tells -/
theorem forL_find {α : Type} {g : D → List Sl → RS} {b : List Sl → RS} (φ : α → D) (R : List Sl) (p : α → Bool) (out : α → RS) : ∀ (xs : List α), (∀ x ∈ xs, ∃ r1, g (φ x) R = .nx r1 ∧ (p x = false → (b r1 = .nx R ∨ b r1 = .ct R)) ∧ (p x = true → b r1 = out x ∧ ((∃ d r, out x = .rt d r) ∨ ∃ e r, out x = .exn e r))) →
    forL (xs.map φ) g b R = match xs.find? p with
      | some x => out x
      | none => .nx R
  | [], _ => rfl
  | x :: xs, h => by
    obtain ⟨r1, h1, h2, h3⟩ := h x List.mem_cons_self
    have ih := forL_find φ R p out xs fun y hy => h y (List.mem_cons_of_mem _ hy)
    rw [List.map_cons, forL_cons, h1, List.find?_cons]
    cases hp : p x with
    | true =>
      obtain ⟨e, h4⟩ := h3 hp
      simp only [e]
      rcases h4 with ⟨d, r, h4⟩ | ⟨d, r, h4⟩ <;> rw [h4]
    | false =>
      rcases h2 hp with e | e <;> simp only [e] <;> exact ih
theorem numb_map {α : Type} (φ : α → D) (xs : List α) : numb (xs.map φ) = (xs.mapIdx fun i x => (i, x)).map fun p => .tup [.int ((p.1 : Nat) : Int), φ p.2] := by
  unfold numb
  apply List.ext_getElem?
  intro i
  simp only [List.getElem?_mapIdx, List.getElem?_map, Option.map_map]
  rfl
end DL

set_option Elab.async false
set_option linter.all false
set_option maxRecDepth 100000
set_option maxHeartbeats 4000000
/-! turns of loops and comprehensions -/
namespace DL
open PySem
/-- a turn of a for loop: nx goes on -/
def fturn (g : D → List Sl → RS) (b : List Sl → RS) (d : D) (r : List Sl) : RS := match g d r with
  | .nx r1 => (match b r1 with
    | .nx r2 => .nx r2
    | .ct r2 => .nx r2
    | o => o)
  | _ => .bad
def isGo : RS → Bool
  | .nx _ => true
  | _ => false
/-- what a loop makes of a turn that ends it -/
def fend : RS → RS
  | .bk r => .nx r
  | o => o
section
variable {g : D → List Sl → RS} {b : List Sl → RS}
theorem forL_step {d : D} {ds : List D} {r : List Sl} : forL (d :: ds) g b r = match fturn g b d r with
  | .nx r2 => forL ds g b r2
  | .bk r2 => .nx r2
  | o => o := by
  unfold fturn
  rw [forL_cons]
  cases g d r with
  | nx r1 => dsimp only; cases b r1 <;> rfl
  | _ => rfl
theorem forL_inv {σ : Type} (R : σ → List Sl) (I : Nat → σ → Prop) : ∀ (ds : List D) (n : Nat) (s : σ), I n s → (∀ i d s, ds[i]? = some d → I (n + i) s → ∃ s', fturn g b d (R s) = .nx (R s') ∧ I (n + i + 1) s') → ∃ s', forL ds g b (R s) = .nx (R s') ∧ I (n + ds.length) s'
  | [], n, s, hI, _ => ⟨s, rfl, hI⟩
  | d :: ds, n, s, hI, h => by
    obtain ⟨s', e, hs⟩ := h 0 d s rfl hI
    obtain ⟨s2, e2, hs2⟩ := forL_inv R I ds (n + 1) s' hs fun i d' t hd ht => by
      have := h (i + 1) d' t hd (by rw [show n + (i + 1) = n + 1 + i by omega]; exact ht)
      rw [show n + (i + 1) = n + 1 + i by omega] at this
      exact this
    refine ⟨s2, ?_, by rw [List.length_cons, show n + (ds.length + 1) = n + 1 + ds.length by omega]; exact hs2⟩
    rw [forL_step, e]; exact e2
theorem forL_map {α σ : Type} (φ : α → D) (R : σ → List Sl) (f : σ → α → σ) (I : σ → Prop) : ∀ (xs : List α) (s : σ), I s → (∀ x ∈ xs, ∀ s, I s → fturn g b (φ x) (R s) = .nx (R (f s x)) ∧ I (f s x)) →
    forL (xs.map φ) g b (R s) = .nx (R (xs.foldl f s))
  | [], s, hI, _ => rfl
  | x :: xs, s, hI, h => by
    obtain ⟨h1, h2⟩ := h x List.mem_cons_self s hI
    rw [List.map_cons, forL_step, h1, List.foldl_cons]
    exact forL_map φ R f I xs (f s x) h2 fun y hy => h y (List.mem_cons_of_mem _ hy)
/-- the same from turn to turn, until p tells of an item: then it ends so -/
theorem forL_first {α : Type} (φ : α → D) (r : List Sl) (p : α → Bool) (out : α → RS) : ∀ (xs : List α), (∀ x ∈ xs, p x = true → isGo (out x) = false) → (∀ x ∈ xs, fturn g b (φ x) r = if p x = true then out x else .nx r) →
    forL (xs.map φ) g b r = match xs.find? p with
      | some x => fend (out x)
      | none => .nx r
  | [], _, _ => rfl
  | x :: xs, ho, h => by
    have h1 := h x List.mem_cons_self
    rw [List.map_cons, forL_step, h1, List.find?_cons]
    cases hp : p x with
    | true =>
      have := ho x List.mem_cons_self hp
      rw [if_pos rfl]
      cases e : out x <;> simp_all [isGo, fend]
    | false =>
      rw [if_neg (by decide)]
      exact forL_first φ r p out xs (fun y hy => ho y (List.mem_cons_of_mem _ hy)) fun y hy => h y (List.mem_cons_of_mem _ hy)
/-- .. with the item's place -/
theorem forL_firstI (r : List Sl) (p : Nat → D → Bool) (out : Nat → D → RS) : ∀ (xs : List D) (n : Nat), (∀ i x, xs[i]? = some x → p (n + i) x = true → isGo (out (n + i) x) = false) → (∀ i x, xs[i]? = some x → fturn g b x r = if p (n + i) x = true then out (n + i) x else .nx r) →
    (∀ i x, xs[i]? = some x → p (n + i) x = false) ∧ forL xs g b r = .nx r ∨ ∃ i x, xs[i]? = some x ∧ p (n + i) x = true ∧ (∀ j y, j < i → xs[j]? = some y → p (n + j) y = false) ∧ forL xs g b r = fend (out (n + i) x)
  | [], n, _, _ => .inl ⟨fun i x e => by simp at e, rfl⟩
  | x :: xs, n, ho, h => by
    have h1 := h 0 x rfl
    rw [forL_step, h1]
    cases hp : p (n + 0) x with
    | true =>
      have := ho 0 x rfl hp
      refine .inr ⟨0, x, rfl, hp, fun j y hj => absurd hj (Nat.not_lt_zero _), ?_⟩
      rw [if_pos rfl]
      cases e : out (n + 0) x <;> simp_all [isGo, fend]
    | false =>
      rw [if_neg (by decide)]
      rcases forL_firstI r p out xs (n + 1) (fun i y e => by have := ho (i + 1) y e; rwa [show n + (i + 1) = n + 1 + i by omega] at this) (fun i y e => by have := h (i + 1) y e; rwa [show n + (i + 1) = n + 1 + i by omega] at this) with ⟨h2, h3⟩ | ⟨i, y, h2, h3, h4, h5⟩
      · refine .inl ⟨fun i y e => ?_, h3⟩
        cases i with
        | zero => cases e; exact hp
        | succ i => have := h2 i y e; rwa [show n + 1 + i = n + (i + 1) by omega] at this
      · refine .inr ⟨i + 1, y, h2, by rwa [show n + 1 + i = n + (i + 1) by omega] at h3, fun j z hj e => ?_, by rw [show n + (i + 1) = n + 1 + i by omega]; exact h5⟩
        cases j with
        | zero => cases e; exact hp
        | succ j => have := h4 j z (by omega) e; rwa [show n + 1 + j = n + (j + 1) by omega] at this
end

/-! ### comprehensions -/
def lturn (g : D → List Sl → RS) (t : List Sl → RE Bool) (e : List Sl → RE D) (vs : List Nat) (d : D) (r : List Sl) : RE (Option D) := match g d r with
  | .nx r1 => (t r1).bind fun b r2 => if b = true then (e r2).bind fun y r3 => .ok (some y) (wipeR r3 vs) else .ok none (wipeR r2 vs)
  | _ => .bad
section
variable {fi : List Sl → RE (List D)} {g : D → List Sl → RS} {t : List Sl → RE Bool} {e : List Sl → RE D} {vs : List Nat} {r : List Sl}
theorem lcL_step {d : D} {ds acc : List D} : lcL g t e vs (d :: ds) acc r = match lturn g t e vs d r with
  | .ok (some y) r2 => if acc.length < LIM then lcL g t e vs ds (acc ++ [y]) r2 else .bad
  | .ok none r2 => lcL g t e vs ds acc r2
  | .exn x r2 => .exn x r2
  | .bad => .bad := by
  conv => lhs; unfold lcL
  unfold lturn
  cases g d r with
  | nx r1 =>
    dsimp only
    cases t r1 with
    | ok b r2 =>
      cases b with
      | true =>
        show (e r2).bind _ = _
        dsimp only [RE.bind]
        cases e r2 <;> rfl
      | false => rfl
    | exn x r2 => rfl
    | bad => rfl
  | _ => rfl
theorem lcL_inv {σ : Type} (R : σ → List Sl) (I : Nat → σ → List D → Prop) : ∀ (ds acc : List D) (n : Nat) (s : σ), I n s acc → acc.length + ds.length ≤ LIM → (∀ i d s acc, ds[i]? = some d → I (n + i) s acc → ∃ o s', lturn g t e vs d (R s) = .ok o (R s') ∧ I (n + i + 1) s' (acc ++ o.toList)) →
    ∃ ys s', lcL g t e vs ds acc (R s) = .ok ys (R s') ∧ I (n + ds.length) s' ys
  | [], acc, n, s, hI, _, _ => ⟨acc, s, rfl, hI⟩
  | d :: ds, acc, n, s, hI, hl, h => by
    obtain ⟨o, s', e1, hs⟩ := h 0 d s acc rfl hI
    rw [List.length_cons] at hl ⊢
    rw [lcL_step, e1]
    have rest : ∀ acc', acc'.length ≤ acc.length + 1 → I (n + 1) s' acc' → ∃ ys s'', lcL g t e vs ds acc' (R s') = .ok ys (R s'') ∧ I (n + (ds.length + 1)) s'' ys := fun acc' hl' hI' => by
      have := lcL_inv R I ds acc' (n + 1) s' hI' (by omega) fun i d' t' a' hd ht => by
        have := h (i + 1) d' t' a' hd (by rw [show n + (i + 1) = n + 1 + i by omega]; exact ht)
        rwa [show n + (i + 1) = n + 1 + i by omega] at this
      rwa [show n + (ds.length + 1) = n + 1 + ds.length by omega]
    cases o with
    | some y =>
      dsimp only
      rw [if_pos (by omega)]
      exact rest _ (by rw [List.length_append]; exact Nat.le_refl _) hs
    | none => exact rest acc (by omega) (by simpa using hs)
theorem lcomp_inv {σ : Type} (R : σ → List Sl) (I : Nat → σ → List D → Prop) {ds : List D} {r1 : List Sl} (s : σ) (hi : fi r = .ok ds r1) (hno : noOwn r1 vs = true) (hw : wipeR r1 vs = R s) (h0 : I 0 s []) (hl : ds.length ≤ LIM) (h : ∀ i d s acc, ds[i]? = some d → I i s acc → ∃ o s', lturn g t e vs d (R s) = .ok o (R s') ∧ I (i + 1) s' (acc ++ o.toList)) :
    ∃ ys s', lcomp fi g t e vs r = .ok (.lst ys) (back r1 (R s') vs) ∧ I ds.length s' ys := by
  obtain ⟨ys, s', e1, hs⟩ := lcL_inv (g := g) (t := t) (e := e) (vs := vs) R I ds [] 0 s h0 (by simpa using hl) fun i d s acc hd hI => by
    rw [Nat.zero_add] at hI ⊢
    exact h i d s acc hd hI
  rw [Nat.zero_add] at hs
  refine ⟨ys, s', ?_, hs⟩
  rw [lcomp_ap, hi]
  show (if noOwn r1 vs = true then _ else _) = _
  rw [if_pos hno, hw, e1]
theorem back_wipe : ∀ {vs : List Nat}, noOwn r vs = true → back r (wipeR r vs) vs = r := by
  intro vs hno
  have key : ∀ ws : List Nat, (∀ w ∈ ws, w ∈ vs) → ∀ i, (back r (wipeR r vs) ws)[i]? = if i ∈ ws then r[i]? else (wipeR r vs)[i]? := by
    intro ws
    induction ws with
    | nil => intro _ i; simp [back]
    | cons w ws ih =>
      intro hsub i
      show ((back r (wipeR r vs) ws).set w (r.getD w .un))[i]? = _
      have hw := hsub w List.mem_cons_self
      have hlt : w < r.length := by
        have := List.all_eq_true.mp hno w hw
        cases q : r[w]? with
        | none => rw [q] at this; cases this
        | some s => exact (List.getElem?_eq_some_iff.mp q).1
      rw [List.getElem?_set, ih (fun x hx => hsub x (List.mem_cons_of_mem _ hx))]
      have wl : ∀ us : List Nat, (wipeR r us).length = r.length := fun us => by
        induction us with
        | nil => rfl
        | cons u us ih => show ((wipeR r us).set u .un).length = _; rw [List.length_set, ih]
      have hbl : w < (back r (wipeR r vs) ws).length := by rw [back_len, wl]; exact hlt
      by_cases e : w = i
      · subst e
        rw [if_pos rfl, if_pos hbl, if_pos List.mem_cons_self, List.getD_eq_getElem?_getD, List.getElem?_eq_getElem hlt]
        rfl
      · rw [if_neg e]
        by_cases hi : i ∈ ws
        · rw [if_pos hi, if_pos (List.mem_cons_of_mem _ hi)]
        · rw [if_neg hi, if_neg (fun h => by rcases List.mem_cons.mp h with z | z
                                             · exact e z.symm
                                             · exact hi z)]
  apply List.ext_getElem?
  intro i
  rw [key vs (fun _ h => h) i]
  by_cases hi : i ∈ vs
  · rw [if_pos hi]
  · rw [if_neg hi]
    have : ∀ us : List Nat, i ∉ us → (wipeR r us)[i]? = r[i]? := fun us => by
      induction us with
      | nil => intro _; rfl
      | cons u us ih =>
        intro hn
        show ((wipeR r us).set u .un)[i]? = _
        rw [List.getElem?_set, if_neg (fun z => hn (by rw [z]; exact List.mem_cons_self)), ih (fun z => hn (List.mem_cons_of_mem _ z))]
    exact this vs hi
/-- a comprehension that leaves all else as it is -/
theorem lcomp_map1 {α : Type} (φ : α → D) (xs : List α) (p : α → Bool) (f : α → D) {r1 : List Sl} (hi : fi r = .ok (xs.map φ) r1) (hno : noOwn r1 vs = true) (hl : xs.length ≤ LIM)
    (h : ∀ x ∈ xs, lturn g t e vs (φ x) (wipeR r1 vs) = .ok (if p x = true then some (f x) else none) (wipeR r1 vs)) : lcomp fi g t e vs r = .ok (.lst ((xs.filter p).map f)) r1 := by
  obtain ⟨ys, s', e1, hs⟩ := lcomp_inv (e := e) (R := fun _ : Unit => wipeR r1 vs) (I := fun i _ acc => acc = ((xs.take i).filter p).map f) () hi hno rfl rfl (by rw [List.length_map]; exact hl) fun i d s acc hd hI => by
    rw [List.getElem?_map, Option.map_eq_some_iff] at hd
    obtain ⟨x, hx, rfl⟩ := hd
    refine ⟨_, (), h x (List.mem_of_getElem? hx), ?_⟩
    rw [hI, List.take_add_one, hx, List.filter_append, List.map_append]
    congr 1
    cases hp : p x <;> simp [hp]
  rw [e1, hs, List.length_map, List.take_length, back_wipe hno]
end

section
variable {fi : List Sl → RE (List D)} {g : D → List Sl → RS} {t : List Sl → RE Bool} {e : List Sl → RE D} {vs : List Nat} {r : List Sl}
theorem lcomp_map {α : Type} (φ : α → D) (xs : List α) (p : α → Bool) (f : α → D) (hi : fi r = .ok (xs.map φ) r) (hno : noOwn r vs = true) (hl : xs.length ≤ LIM)
    (h : ∀ x ∈ xs, lturn g t e vs (φ x) (wipeR r vs) = .ok (if p x = true then some (f x) else none) (wipeR r vs)) : lcomp fi g t e vs r = .ok (.lst ((xs.filter p).map f)) r := lcomp_map1 φ xs p f hi hno hl h
/-- .. without a test -/
theorem lcomp_all {α : Type} (φ : α → D) (xs : List α) (f : α → D) (hi : fi r = .ok (xs.map φ) r) (hno : noOwn r vs = true) (hl : xs.length ≤ LIM)
    (h : ∀ x ∈ xs, lturn g t e vs (φ x) (wipeR r vs) = .ok (some (f x)) (wipeR r vs)) : lcomp fi g t e vs r = .ok (.lst (xs.map f)) r := by
  have := lcomp_map1 (g := g) (t := t) (e := e) (vs := vs) φ xs (fun _ => true) f hi hno hl fun x hx => by rw [if_pos rfl]; exact h x hx
  rw [List.filter_eq_self.mpr fun _ _ => rfl] at this
  exact this
end
/-! ### while -/
/-- a turn of a while loop: ct goes on, nx is the end -/
def wturn (c : List Sl → RE Bool) (b : List Sl → RS) (r : List Sl) : RS := (c r).s fun k r1 => if k = true then (match b r1 with
  | .nx r2 => .ct r2
  | .ct r2 => .ct r2
  | .bk r2 => .nx r2
  | o => o) else .nx r1
section
variable {c : List Sl → RE Bool} {b : List Sl → RS}
theorem whileN_step {n : Nat} {r : List Sl} : whileN (n + 1) c b r = match wturn c b r with
  | .ct r2 => whileN n c b r2
  | o => o := by
  unfold wturn
  rw [whileN]
  cases c r with
  | ok k r1 =>
    dsimp only [RE.s]
    by_cases hk : k = true
    · rw [if_pos hk, if_pos hk]
      cases b r1 <;> rfl
    · rw [if_neg hk, if_neg hk]
  | exn x r1 => rfl
  | bad => rfl
theorem swhile_step {r : List Sl} : swhile c b r = match wturn c b r with
  | .ct r2 => swhile c b r2
  | o => o := by
  by_cases hx : ∃ n, whileN n c b r ≠ .bad
  · obtain ⟨n, hn⟩ := hx
    cases n with
    | zero => exact absurd rfl hn
    | succ n =>
      rw [swhile_eq hn, whileN_step]
      rw [whileN_step] at hn
      cases e : wturn c b r with
      | ct r2 => rw [e] at hn; exact (swhile_eq hn).symm
      | _ => rfl
  · have e0 : swhile c b r = .bad := by unfold swhile; rw [dif_neg hx]
    rw [e0]
    cases e : wturn c b r with
    | ct r2 =>
      dsimp only
      by_cases hy : ∃ n, whileN n c b r2 ≠ .bad
      · obtain ⟨n, hn⟩ := hy
        exact absurd ⟨n + 1, by rw [whileN_step, e]; exact hn⟩ hx
      · unfold swhile; rw [dif_neg hy]
    | bad => rfl
    | _ => exact absurd ⟨1, by rw [whileN_step, e]; intro z; cases z⟩ hx
theorem swhile_inv {σ : Type} (R : σ → List Sl) (I : σ → Prop) (m : σ → Nat) (Q : RS → Prop) (h : ∀ s, I s → (∃ s', wturn c b (R s) = .ct (R s') ∧ I s' ∧ m s' < m s) ∨ ((∀ r2, wturn c b (R s) ≠ .ct r2) ∧ Q (wturn c b (R s)))) : ∀ (n : Nat) (s : σ), m s < n → I s → Q (swhile c b (R s))
  | 0, s, hm, _ => absurd hm (Nat.not_lt_zero _)
  | n + 1, s, hm, hI => by
    rw [swhile_step]
    rcases h s hI with ⟨s', e, hI', hm'⟩ | ⟨hn, hq⟩
    · rw [e]; exact swhile_inv R I m Q h n s' (by omega) hI'
    · cases e : wturn c b (R s) with
      | ct r2 => exact absurd e (hn r2)
      | _ => rw [e] at hq; exact hq
end
end DL

set_option Elab.async false
set_option linter.all false
set_option maxRecDepth 100000
set_option maxHeartbeats 4000000
set_option pp.maxSteps 2000
/-! the readings of what many laws share -/
namespace KC
open PySem DL
open L2 (atI ixN)
local macro_rules
  | `(tactic| dsimp?! only [$xs,*]) => do
    let ys : Lean.Syntax.TSepArray `Lean.Parser.Tactic.simpLemma "," := ⟨xs.elemsAndSeps⟩
    `(tactic| simp only [bind_ok, bind_exn, bind_bad, s_ok, s_exn, s_bad, rd_ap, pk_ap, cst_ap, lift_some, lift_none, bin_ap, has_ap, binL_ap, un_ap, anil_ap, acons_ap, mkTup_ap, mkLst_ap, asB_bl, tv_ap, tnot_ap, tand_ap, tor_ap, vand_ap, vor_ap, vnot_ap, vif_ap, vchain_ap, sasg_ap, sown_ap, sif_ap, sret_ap, sexp_ap, snx_ap, sseq_ap, spar_ap, stg_ap, gnm_ap, gnil_ap, gcons_ap, gtp_ap, call_ap, doF_ok, doF_exn, callB_ap, apk_ap, doFB_ok, isOwn_ap, callI_ap, doI_ap, putOwn_ap, setD_ap, sset_ap, isLst_ap, mutl_ap, mutm_ap, sraise_ap, slcL_ap, slc_ap, pno_ap, psome_ap, unN_ap, iseq_ap, irng1_ap, irng2_ap, lrng_ap, gAdd_int, gInt_ap, at0, at1, at2, at3, gIx_lst, gIx_tup, gIx_scr, gLen_lst, gLen_tup, gLen_scr, gToInt_int, List.getElem?_cons_zero, List.getElem?_cons_succ, List.set_cons_zero, List.set_cons_succ, List.length_cons, List.length_nil, ite_true, ite_false, if_true, if_false, Bool.true_and, Bool.and_true, Bool.false_and, Bool.and_false, decide_true, decide_false, Option.map_some, Option.map_none, Bool.not_true, Bool.not_false, reduceIte, Nat.reduceAdd, Nat.reduceLeDiff, Bool.false_eq_true, Bool.true_eq_false, Bool.false_or, Bool.true_or, Bool.or_false, Bool.or_true, noXc_nil, noXc_un, noXc_val, noXc_own, noXc_io, dropAt_nx, dropAt_bk, dropAt_ct, dropAt_rt, keepAt_nx, keepAt_bk, keepAt_ct, keepAt_rt, stry_ap, stry0_ap, xfld_ap, LIM, nc_lit, Int.reduceAdd, Int.reduceSub, Int.reduceNeg, Int.reduceLT, Int.reduceLE, Int.reduceBEq, Nat.reduceLT, sfor_ap, skl_ap, wipeR_nil, wipeR_cons, smix_ap, putsR_nil, putsR_cons, methP_ap, isSq_lst, isSq_tup, ienum_ap, callM_ap', mkOb_ap, sfld_ap, saug_ap, callV_ap, stryN_ap, byH_nil, byH_cons, gStr_str, gAugAdd_int, gNeg_int', gSeq_lst, gSeq_tup, gTuple_lst, gTuple_tup, gList_lst, gList_tup, gSl_lst, gSl_tup, gAdd_lst, gAppend_lst, gExtend_lst, runP_1, runP_2, runP_3, runP_4, runP_5, runI_1, runI_2, runI_3, runI_4, runI_5, outP_nx, outP_rt, outP_exn, outI_nx, outI_rt, outI_exn, List.reduceReplicate, Nat.reduceSub, List.map_cons, List.map_nil, List.cons_append, List.nil_append, i2_non, i2_bl, i2_int, i2_str, i2_tup, i2_lst, i1_non, i1_bl, i1_int, i1_str, i1_tup, i1_lst, isa_NoneType_int, isa_NoneType_bool, isa_NoneType_str, isa_NoneType_tuple, isa_NoneType_list, isa_bool_int, isa_bool_bool, isa_bool_str, isa_bool_tuple, isa_bool_list, isa_int_int, isa_int_bool, isa_int_str, isa_int_tuple, isa_int_list, isa_str_int, isa_str_bool, isa_str_str, isa_str_tuple, isa_str_list, isa_tuple_int, isa_tuple_bool, isa_tuple_str, isa_tuple_tuple, isa_tuple_list, isa_list_int, isa_list_bool, isa_list_str, isa_list_tuple, isa_list_list, isN_non, isN_bl, isN_int, isN_str, isN_tup, isN_lst, gEq_bl, gEq_int, gEq_str, gEq_nn, Bool.xor_false, Bool.xor_true, Bool.false_xor, Bool.true_xor, Bool.or_self, Bool.and_self, beq_self_eq_true, Nat.zero_le, Bool.not_not, $ys,*])
  | `(tactic| dsimp?! only [$xs,*] $l:location) => do
    let ys : Lean.Syntax.TSepArray `Lean.Parser.Tactic.simpLemma "," := ⟨xs.elemsAndSeps⟩
    `(tactic| simp only [bind_ok, bind_exn, bind_bad, s_ok, s_exn, s_bad, rd_ap, pk_ap, cst_ap, lift_some, lift_none, bin_ap, has_ap, binL_ap, un_ap, anil_ap, acons_ap, mkTup_ap, mkLst_ap, asB_bl, tv_ap, tnot_ap, tand_ap, tor_ap, vand_ap, vor_ap, vnot_ap, vif_ap, vchain_ap, sasg_ap, sown_ap, sif_ap, sret_ap, sexp_ap, snx_ap, sseq_ap, spar_ap, stg_ap, gnm_ap, gnil_ap, gcons_ap, gtp_ap, call_ap, doF_ok, doF_exn, callB_ap, apk_ap, doFB_ok, isOwn_ap, callI_ap, doI_ap, putOwn_ap, setD_ap, sset_ap, isLst_ap, mutl_ap, mutm_ap, sraise_ap, slcL_ap, slc_ap, pno_ap, psome_ap, unN_ap, iseq_ap, irng1_ap, irng2_ap, lrng_ap, gAdd_int, gInt_ap, at0, at1, at2, at3, gIx_lst, gIx_tup, gIx_scr, gLen_lst, gLen_tup, gLen_scr, gToInt_int, List.getElem?_cons_zero, List.getElem?_cons_succ, List.set_cons_zero, List.set_cons_succ, List.length_cons, List.length_nil, ite_true, ite_false, if_true, if_false, Bool.true_and, Bool.and_true, Bool.false_and, Bool.and_false, decide_true, decide_false, Option.map_some, Option.map_none, Bool.not_true, Bool.not_false, reduceIte, Nat.reduceAdd, Nat.reduceLeDiff, Bool.false_eq_true, Bool.true_eq_false, Bool.false_or, Bool.true_or, Bool.or_false, Bool.or_true, noXc_nil, noXc_un, noXc_val, noXc_own, noXc_io, dropAt_nx, dropAt_bk, dropAt_ct, dropAt_rt, keepAt_nx, keepAt_bk, keepAt_ct, keepAt_rt, stry_ap, stry0_ap, xfld_ap, LIM, nc_lit, Int.reduceAdd, Int.reduceSub, Int.reduceNeg, Int.reduceLT, Int.reduceLE, Int.reduceBEq, Nat.reduceLT, sfor_ap, skl_ap, wipeR_nil, wipeR_cons, smix_ap, putsR_nil, putsR_cons, methP_ap, isSq_lst, isSq_tup, ienum_ap, callM_ap', mkOb_ap, sfld_ap, saug_ap, callV_ap, stryN_ap, byH_nil, byH_cons, gStr_str, gAugAdd_int, gNeg_int', gSeq_lst, gSeq_tup, gTuple_lst, gTuple_tup, gList_lst, gList_tup, gSl_lst, gSl_tup, gAdd_lst, gAppend_lst, gExtend_lst, runP_1, runP_2, runP_3, runP_4, runP_5, runI_1, runI_2, runI_3, runI_4, runI_5, outP_nx, outP_rt, outP_exn, outI_nx, outI_rt, outI_exn, List.reduceReplicate, Nat.reduceSub, List.map_cons, List.map_nil, List.cons_append, List.nil_append, i2_non, i2_bl, i2_int, i2_str, i2_tup, i2_lst, i1_non, i1_bl, i1_int, i1_str, i1_tup, i1_lst, isa_NoneType_int, isa_NoneType_bool, isa_NoneType_str, isa_NoneType_tuple, isa_NoneType_list, isa_bool_int, isa_bool_bool, isa_bool_str, isa_bool_tuple, isa_bool_list, isa_int_int, isa_int_bool, isa_int_str, isa_int_tuple, isa_int_list, isa_str_int, isa_str_bool, isa_str_str, isa_str_tuple, isa_str_list, isa_tuple_int, isa_tuple_bool, isa_tuple_str, isa_tuple_tuple, isa_tuple_list, isa_list_int, isa_list_bool, isa_list_str, isa_list_tuple, isa_list_list, isN_non, isN_bl, isN_int, isN_str, isN_tup, isN_lst, gEq_bl, gEq_int, gEq_str, gEq_nn, Bool.xor_false, Bool.xor_true, Bool.false_xor, Bool.true_xor, Bool.or_self, Bool.and_self, beq_self_eq_true, Nat.zero_le, Bool.not_not, $ys,*] $l:location)

/-! ### draws -/
def Row (d : D) : Prop := ∃ ns p s t, d = rowD ns p s t ∧ OkR p s t
theorem row_start (ns : List Int) {k : Int} (h0 : 0 ≤ k) (h1 : k < 2147483647) : Row (.lst [.scr ns, .int 0, .int k, .int 0]) := ⟨ns, 0, k, 0, rfl, by unfold OkR; omega⟩
theorem taken {r : D} {m : Int} (h : Row r) (hm : 0 < m) (hb : bt 8000 m) : ∃ x r', R__law_taken [r, .int m] = .ok (.int x) r' ∧ Row r' ∧ 0 ≤ x ∧ x < m := by
  obtain ⟨ns, p, s, t, rfl, hp, hs, hs', ht⟩ := h
  have i3 : ∀ l : Nat, 4 ≤ l → ixN l 3 = some 3 := fun l hl => by unfold ixN; rw [if_pos (by decide), if_pos (by omega)]; rfl
  have i2 : ∀ l : Nat, 4 ≤ l → ixN l 2 = some 2 := fun l hl => by unfold ixN; rw [if_pos (by decide), if_pos (by omega)]; rfl
  have i1 : ∀ l : Nat, 4 ≤ l → ixN l 1 = some 1 := fun l hl => by unfold ixN; rw [if_pos (by decide), if_pos (by omega)]; rfl
  have bs : bt 40 s := by unfold bt; omega
  have bc : bt 40 (48271 : Int) := by unfold bt; decide
  have md : (0 : Int) < 2147483647 := by decide
  have gm : gMulI (.int s) (.int 48271) = some (.int (s * 48271)) := gMulI_ok bs bc (by decide)
  have gd : ∀ a : Int, gDiv (.int a) (.int m) = some (.int (a / m)) := fun a => gDiv_ok hm hb (by decide)
  have gd7 : ∀ a : Int, gDiv (.int a) (.int 7) = some (.int (a / 7)) := fun a => gDiv_ok (k := 4) (by decide) (by unfold bt; decide) (by decide)
  have gmm : ∀ a : Int, gMod (.int a) (.int m) = some (.int (a % m)) := fun a => gMod_ok hm
  have gmd : ∀ a : Int, gMod (.int a) (.int 2147483647) = some (.int (a % 2147483647)) := fun a => gMod_ok md
  have m0 : ∀ a : Int, 0 ≤ a % m ∧ a % m < m := fun a => ⟨Int.emod_nonneg _ (by omega), Int.emod_lt_of_pos _ hm⟩
  have n0 : ∀ a : Int, 0 ≤ a % 2147483647 ∧ a % 2147483647 < 2147483647 := fun a => ⟨Int.emod_nonneg _ (by decide), Int.emod_lt_of_pos _ md⟩
  have mk : ∀ (x p' s' t' : Int), R__law_taken [rowD ns p s t, .int m] = .ok (.int x) (rowD ns p' s' t') → OkR p' s' t' → 0 ≤ x ∧ x < m → ∃ x r', R__law_taken [rowD ns p s t, .int m] = .ok (.int x) r' ∧ Row r' ∧ 0 ≤ x ∧ x < m := fun x p' s' t' h1 h2 h3 => ⟨x, _, h1, ⟨ns, p', s', t', rfl, h2⟩, h3⟩
  by_cases h3 : 0 < t
  · refine mk (t % m) p s (t / m) ?_ ⟨hp, hs, hs', Int.ediv_nonneg ht (by omega)⟩ (m0 t)
    unfold R__law_taken b__law_taken rowD
    dsimp?! only [h3, gmm, gd, i3, Nat.le_refl]
  · by_cases h4 : (ns.length : Int) < p + 1
    · refine mk (((s * 48271 + 11) % 2147483647 / 7) % m) (p + 1) ((s * 48271 + 11) % 2147483647) t ?_ ⟨by omega, (n0 _).1, (n0 _).2, ht⟩ (m0 _)
      unfold R__law_taken b__law_taken rowD
      dsimp?! only [h3, h4, gmm, gd, gd7, gmd, gm, i3, i2, i1, Nat.le_refl]
    · obtain ⟨c, hc, _⟩ := atN (l := ns) (i := p + 1 - 1) (by omega) (by omega)
      have gp : gPow (.int 10) (.int 18) = some (.int ((10 : Int) ^ (18 : Int).toNat)) := rfl
      by_cases h5 : (10 : Int) ^ (18 : Int).toNat ≤ c
      · refine mk (c % m) (p + 1) ((s * 48271 + c + 11) % 2147483647) (c / m) ?_ ⟨by omega, (n0 _).1, (n0 _).2, Int.ediv_nonneg (Int.le_trans (by decide) h5) (by omega)⟩ (m0 _)
        unfold R__law_taken b__law_taken rowD
        dsimp?! only [h3, h4, gmm, gd, gmd, gm, i3, i2, i1, Nat.le_refl, hc, gp, h5]
      · refine mk (c % m) (p + 1) ((s * 48271 + c + 11) % 2147483647) t ?_ ⟨by omega, (n0 _).1, (n0 _).2, ht⟩ (m0 _)
        unfold R__law_taken b__law_taken rowD
        dsimp?! only [h3, h4, gmm, gd, gmd, gm, i3, i2, i1, Nat.le_refl, hc, gp, h5]
theorem Row.lst {r : D} (h : Row r) : ∃ xs, r = .lst xs := by obtain ⟨ns, p, s, t, rfl, _⟩ := h; exact ⟨_, rfl⟩
theorem btn {k : Nat} {n : Nat} (h : n < 2 ^ k) : bt k (n : Int) := by unfold bt; omega
theorem bt_lim {n : Nat} (h : n ≤ LIM) : bt 8000 (n : Int) := by
  have : (1000000 : Nat) < 2 ^ 20 := by decide
  exact (btn (k := 20) (Nat.lt_of_le_of_lt h this)).le (by decide)
theorem atI_in {α : Type} {xs : List α} {x : Int} (h0 : 0 ≤ x) (h1 : x < (xs.length : Int)) : ∃ k ∈ xs, atI xs x = some k := by
  obtain ⟨a, h, h2⟩ := atN h0 h1
  exact ⟨a, List.mem_of_getElem? h2, h⟩
theorem pick {r : D} {ks : List D} (h : Row r) (h1 : ks ≠ []) (h2 : ks.length ≤ LIM) : ∃ k ∈ ks, ∃ r', R__law_pick [r, .lst ks] = .ok k r' ∧ Row r' := by
  have hp : 0 < ks.length := List.length_pos_iff.mpr h1
  obtain ⟨x, r', e, hr, x0, x1⟩ := taken (m := (ks.length : Nat)) h (by omega) (bt_lim h2)
  obtain ⟨k, hk, ek⟩ := atI_in x0 x1
  refine ⟨k, hk, r', ?_, hr⟩
  unfold R__law_pick b__law_pick
  dsimp?! only [e, ek]
theorem mixed {r : D} {v : D} {xs : List D} (h : Row r) (hv : v = .lst xs ∨ v = .tup xs) : ∃ w r', R__law_mixed [r, v] = .ok w r' ∧ Row r' ∧ (w = .lst xs ∨ w = .tup xs) := by
  obtain ⟨x, r', e, hr, x0, x1⟩ := taken (m := 2) h (by decide) (by unfold bt; decide)
  by_cases hx : x = 0
  · subst hx
    refine ⟨.lst xs, r', ?_, hr, .inl rfl⟩
    unfold R__law_mixed b__law_mixed
    rcases hv with rfl | rfl <;> dsimp?! only [e]
  · have hx' : (x == 0) = false := by simpa using hx
    refine ⟨.tup xs, r', ?_, hr, .inr rfl⟩
    unfold R__law_mixed b__law_mixed
    rcases hv with rfl | rfl <;> dsimp?! only [e, hx']
/-! ### alike -/
theorem alike_eq : ∀ n, R__law_alike n = alikeF n
  | 0 => rfl
  | n + 1 => by
    show runP 3 2 (b__law_alike (R__law_alike n)) = runP 3 2 (alikeB (alikeF n))
    rw [alike_eq n]
    rfl
theorem alike_self {k : Nat} {d : D} (h : okl k d = true) (hk : k ≤ 20) : R__law_alike 24 [d, d] = .ok (.bl true) .non := by
  rw [alike_eq]
  exact alike_refl k 24 d h (by omega) hk
/-! ### kinds of values -/
def bas (d : D) : Bool := (tyD d).isSome
def isWhole : D → Bool
  | .int _ => true
  | _ => false
def isRow : D → Bool
  | .lst _ => true
  | .tup _ => true
  | _ => false
def isNum (d : D) (a b : Int) : Bool := match d with
  | .int i => decide (a ≤ i) && decide (i ≤ b)
  | _ => false
theorem bas_non : bas .non = true := rfl
theorem bas_bl {b : Bool} : bas (.bl b) = true := rfl
theorem bas_int {b : Int} : bas (.int b) = true := rfl
theorem bas_str {b : Str} : bas (.str b) = true := rfl
theorem bas_lst {b : List D} : bas (.lst b) = true := rfl
theorem bas_tup {b : List D} : bas (.tup b) = true := rfl
theorem i1_dct {T : String} {a b : List D} : gIsi T (.dct a b) = some (.bl (isa "dict" T)) := rfl
theorem i1_scr {T : String} {b : List Int} : gIsi T (.scr b) = some (.bl (isa "list" T)) := rfl
theorem isa_dict_int : isa "dict" "int" = false := by decide
theorem isa_dict_str : isa "dict" "str" = false := by decide
theorem isa_dict_tuple : isa "dict" "tuple" = false := by decide
theorem isa_dict_list : isa "dict" "list" = false := by decide
theorem r_is_whole {d : D} (h : bas d = true) : R_is_whole [d] = .ok (.bl (isWhole d)) .non := by
  unfold R_is_whole b_is_whole
  cases d with
  | ob c ns ds => cases h
  | fn c => cases h
  | _ => dsimp?! only [i1_dct, i1_scr, isa_dict_int]; rfl
theorem r_is_number {d : D} {a b : Int} (h : bas d = true) : R_is_number [d, .int a, .int b] = .ok (.bl (isNum d a b)) .non := by
  unfold R_is_number b_is_number
  have e := r_is_whole h
  cases d with
  | ob c ns ds => cases h
  | fn c => cases h
  | int i =>
    by_cases q : a ≤ i
    · dsimp?! only [e, isWhole, q, isNum, vchain_ap]
    · dsimp?! only [e, isWhole, q, isNum, vchain_ap]
  | _ => dsimp?! only [e, isWhole]; rfl
theorem r_is_row {d : D} (h : bas d = true) (hs : ∀ l, d ≠ .scr l) (hd : ∀ a b, d ≠ .dct a b) : R_is_row [d] = .ok (.bl (isRow d)) .non := by
  unfold R_is_row b_is_row
  cases d with
  | ob c ns ds => cases h
  | fn c => cases h
  | scr l => exact absurd rfl (hs l)
  | dct a b => exact absurd rfl (hd a b)
  | _ => dsimp?! only []; rfl
theorem law_whole {d : D} (h : bas d = true) : R__law_whole [d] = .ok (.bl (isWhole d)) .non := by
  unfold R__law_whole b__law_whole
  cases d with
  | ob c ns ds => cases h
  | fn c => cases h
  | _ => dsimp?! only [i1_dct, i1_scr, isa_dict_int]; rfl
theorem law_truth {b : Bool} : R__law_truth [.bl b, .bl b] = .ok (.bl true) .non := by
  unfold R__law_truth b__law_truth
  dsimp?! only []
theorem refused_row {a b : D} (h : okd 20 (.tup [a, b]) = true) (hb : bas b = true) : R__law_refused_row [.tup [a, b], .tup [a, b]] = .ok (.bl true) .non := by
  unfold R__law_refused_row b__law_refused_row
  have e := gEq_self (neg := false) h
  have w := law_whole hb
  dsimp?! only [e, w]
end KC

set_option Elab.async false
set_option linter.all false
set_option maxRecDepth 100000
set_option maxHeartbeats 4000000
set_option pp.maxSteps 2000
/-! names -/
namespace KC
open PySem DL
open L2 (atI ixN)
local macro_rules
  | `(tactic| dsimp?! only [$xs,*]) => do
    let ys : Lean.Syntax.TSepArray `Lean.Parser.Tactic.simpLemma "," := ⟨xs.elemsAndSeps⟩
    `(tactic| simp only [bind_ok, bind_exn, bind_bad, s_ok, s_exn, s_bad, rd_ap, pk_ap, cst_ap, lift_some, lift_none, bin_ap, has_ap, binL_ap, un_ap, anil_ap, acons_ap, mkTup_ap, mkLst_ap, asB_bl, tv_ap, tnot_ap, tand_ap, tor_ap, vand_ap, vor_ap, vnot_ap, vif_ap, vchain_ap, sasg_ap, sown_ap, sif_ap, sret_ap, sexp_ap, snx_ap, sseq_ap, spar_ap, stg_ap, gnm_ap, gnil_ap, gcons_ap, gtp_ap, call_ap, doF_ok, doF_exn, callB_ap, apk_ap, doFB_ok, isOwn_ap, callI_ap, doI_ap, putOwn_ap, setD_ap, sset_ap, isLst_ap, mutl_ap, mutm_ap, sraise_ap, slcL_ap, slc_ap, pno_ap, psome_ap, unN_ap, iseq_ap, irng1_ap, irng2_ap, lrng_ap, gAdd_int, gInt_ap, at0, at1, at2, at3, gIx_lst, gIx_tup, gIx_scr, gLen_lst, gLen_tup, gLen_scr, gToInt_int, List.getElem?_cons_zero, List.getElem?_cons_succ, List.set_cons_zero, List.set_cons_succ, List.length_cons, List.length_nil, ite_true, ite_false, if_true, if_false, Bool.true_and, Bool.and_true, Bool.false_and, Bool.and_false, decide_true, decide_false, Option.map_some, Option.map_none, Bool.not_true, Bool.not_false, reduceIte, Nat.reduceAdd, Nat.reduceLeDiff, Bool.false_eq_true, Bool.true_eq_false, Bool.false_or, Bool.true_or, Bool.or_false, Bool.or_true, noXc_nil, noXc_un, noXc_val, noXc_own, noXc_io, dropAt_nx, dropAt_bk, dropAt_ct, dropAt_rt, keepAt_nx, keepAt_bk, keepAt_ct, keepAt_rt, stry_ap, stry0_ap, xfld_ap, LIM, nc_lit, Int.reduceAdd, Int.reduceSub, Int.reduceNeg, Int.reduceLT, Int.reduceLE, Int.reduceBEq, Nat.reduceLT, sfor_ap, skl_ap, wipeR_nil, wipeR_cons, smix_ap, putsR_nil, putsR_cons, methP_ap, isSq_lst, isSq_tup, ienum_ap, callM_ap', mkOb_ap, sfld_ap, saug_ap, callV_ap, stryN_ap, byH_nil, byH_cons, gStr_str, gAugAdd_int, gNeg_int', gSeq_lst, gSeq_tup, gTuple_lst, gTuple_tup, gList_lst, gList_tup, gSl_lst, gSl_tup, gAdd_lst, gAppend_lst, gExtend_lst, runP_1, runP_2, runP_3, runP_4, runP_5, runI_1, runI_2, runI_3, runI_4, runI_5, outP_nx, outP_rt, outP_exn, outI_nx, outI_rt, outI_exn, List.reduceReplicate, Nat.reduceSub, List.map_cons, List.map_nil, List.cons_append, List.nil_append, i2_non, i2_bl, i2_int, i2_str, i2_tup, i2_lst, i1_non, i1_bl, i1_int, i1_str, i1_tup, i1_lst, isa_NoneType_int, isa_NoneType_bool, isa_NoneType_str, isa_NoneType_tuple, isa_NoneType_list, isa_bool_int, isa_bool_bool, isa_bool_str, isa_bool_tuple, isa_bool_list, isa_int_int, isa_int_bool, isa_int_str, isa_int_tuple, isa_int_list, isa_str_int, isa_str_bool, isa_str_str, isa_str_tuple, isa_str_list, isa_tuple_int, isa_tuple_bool, isa_tuple_str, isa_tuple_tuple, isa_tuple_list, isa_list_int, isa_list_bool, isa_list_str, isa_list_tuple, isa_list_list, isN_non, isN_bl, isN_int, isN_str, isN_tup, isN_lst, gEq_bl, gEq_int, gEq_str, gEq_nn, Bool.xor_false, Bool.xor_true, Bool.false_xor, Bool.true_xor, Bool.or_self, Bool.and_self, beq_self_eq_true, Nat.zero_le, Bool.not_not, $ys,*])
  | `(tactic| dsimp?! only [$xs,*] $l:location) => do
    let ys : Lean.Syntax.TSepArray `Lean.Parser.Tactic.simpLemma "," := ⟨xs.elemsAndSeps⟩
    `(tactic| simp only [bind_ok, bind_exn, bind_bad, s_ok, s_exn, s_bad, rd_ap, pk_ap, cst_ap, lift_some, lift_none, bin_ap, has_ap, binL_ap, un_ap, anil_ap, acons_ap, mkTup_ap, mkLst_ap, asB_bl, tv_ap, tnot_ap, tand_ap, tor_ap, vand_ap, vor_ap, vnot_ap, vif_ap, vchain_ap, sasg_ap, sown_ap, sif_ap, sret_ap, sexp_ap, snx_ap, sseq_ap, spar_ap, stg_ap, gnm_ap, gnil_ap, gcons_ap, gtp_ap, call_ap, doF_ok, doF_exn, callB_ap, apk_ap, doFB_ok, isOwn_ap, callI_ap, doI_ap, putOwn_ap, setD_ap, sset_ap, isLst_ap, mutl_ap, mutm_ap, sraise_ap, slcL_ap, slc_ap, pno_ap, psome_ap, unN_ap, iseq_ap, irng1_ap, irng2_ap, lrng_ap, gAdd_int, gInt_ap, at0, at1, at2, at3, gIx_lst, gIx_tup, gIx_scr, gLen_lst, gLen_tup, gLen_scr, gToInt_int, List.getElem?_cons_zero, List.getElem?_cons_succ, List.set_cons_zero, List.set_cons_succ, List.length_cons, List.length_nil, ite_true, ite_false, if_true, if_false, Bool.true_and, Bool.and_true, Bool.false_and, Bool.and_false, decide_true, decide_false, Option.map_some, Option.map_none, Bool.not_true, Bool.not_false, reduceIte, Nat.reduceAdd, Nat.reduceLeDiff, Bool.false_eq_true, Bool.true_eq_false, Bool.false_or, Bool.true_or, Bool.or_false, Bool.or_true, noXc_nil, noXc_un, noXc_val, noXc_own, noXc_io, dropAt_nx, dropAt_bk, dropAt_ct, dropAt_rt, keepAt_nx, keepAt_bk, keepAt_ct, keepAt_rt, stry_ap, stry0_ap, xfld_ap, LIM, nc_lit, Int.reduceAdd, Int.reduceSub, Int.reduceNeg, Int.reduceLT, Int.reduceLE, Int.reduceBEq, Nat.reduceLT, sfor_ap, skl_ap, wipeR_nil, wipeR_cons, smix_ap, putsR_nil, putsR_cons, methP_ap, isSq_lst, isSq_tup, ienum_ap, callM_ap', mkOb_ap, sfld_ap, saug_ap, callV_ap, stryN_ap, byH_nil, byH_cons, gStr_str, gAugAdd_int, gNeg_int', gSeq_lst, gSeq_tup, gTuple_lst, gTuple_tup, gList_lst, gList_tup, gSl_lst, gSl_tup, gAdd_lst, gAppend_lst, gExtend_lst, runP_1, runP_2, runP_3, runP_4, runP_5, runI_1, runI_2, runI_3, runI_4, runI_5, outP_nx, outP_rt, outP_exn, outI_nx, outI_rt, outI_exn, List.reduceReplicate, Nat.reduceSub, List.map_cons, List.map_nil, List.cons_append, List.nil_append, i2_non, i2_bl, i2_int, i2_str, i2_tup, i2_lst, i1_non, i1_bl, i1_int, i1_str, i1_tup, i1_lst, isa_NoneType_int, isa_NoneType_bool, isa_NoneType_str, isa_NoneType_tuple, isa_NoneType_list, isa_bool_int, isa_bool_bool, isa_bool_str, isa_bool_tuple, isa_bool_list, isa_int_int, isa_int_bool, isa_int_str, isa_int_tuple, isa_int_list, isa_str_int, isa_str_bool, isa_str_str, isa_str_tuple, isa_str_list, isa_tuple_int, isa_tuple_bool, isa_tuple_str, isa_tuple_tuple, isa_tuple_list, isa_list_int, isa_list_bool, isa_list_str, isa_list_tuple, isa_list_list, isN_non, isN_bl, isN_int, isN_str, isN_tup, isN_lst, gEq_bl, gEq_int, gEq_str, gEq_nn, Bool.xor_false, Bool.xor_true, Bool.false_xor, Bool.true_xor, Bool.or_self, Bool.and_self, beq_self_eq_true, Nat.zero_le, Bool.not_not, $ys,*] $l:location)

def mkS (l : List Nat) : Str := ⟨l.toArray⟩
theorem mkS_eq (s : Str) : s = mkS s.cps.toList := by cases s; rfl
theorem mkS_len (l : List Nat) : (mkS l).length = l.length := by show l.toArray.size = _; simp
theorem mkS_app (l m : List Nat) : mkS l ++ mkS m = mkS (l ++ m) := by
  show Str.append (mkS l) (mkS m) = _
  unfold Str.append mkS
  simp
theorem mkS_inj {l m : List Nat} (h : mkS l = mkS m) : l = m := by
  have := congrArg (fun s : Str => s.cps.toList) h
  simpa [mkS] using this
theorem mkS_cps (l : List Nat) : (mkS l).cps.toList = l := by simp [mkS]
theorem ix_str {l : List Nat} {i : Int} (h : l.length ≤ LIM) : gIx (.str (mkS l)) (.int i) = (atI l i).map fun c => .str (mkS [c]) := by
  show (if (mkS l).length ≤ LIM then _ else _) = _
  rw [mkS_len, if_pos h, mkS_cps]
  rfl
theorem in_str {neg : Bool} {c : Nat} {z : Str} : gIn neg (.str (mkS [c])) (.str z) = some (.bl (decide (c ∈ z.cps.toList) ^^ neg)) := rfl
theorem seq_str {l : List Nat} : gSeq (.str (mkS l)) = some (l.map fun c => .str (mkS [c])) := by
  show some ((mkS l).cps.toList.map _) = _
  rw [mkS_cps]; rfl
def isLet (c : Nat) : Bool := decide (97 ≤ c) && decide (c ≤ 122)
def isFig (c : Nat) : Bool := decide (48 ≤ c) && decide (c ≤ 57)
def nmOk : List Nat → Bool
  | [] => false
  | c :: cs => decide (cs.length < 12) && isLet c && cs.all fun c => isLet c || isFig c
def nameOk (s : Str) : Bool := nmOk s.cps.toList
theorem let_cps : ("abcdefghijklmnopqrstuvwxyz" : Str).cps.toList = List.range' 97 26 := by decide +kernel
theorem fig_cps : ("0123456789" : Str).cps.toList = List.range' 48 10 := by decide +kernel
theorem all_cps : ("abcdefghijklmnopqrstuvwxyz0123456789" : Str) = mkS (List.range' 97 26 ++ List.range' 48 10) := by decide +kernel
theorem in_let {neg : Bool} {c : Nat} : gIn neg (.str (mkS [c])) (.str "abcdefghijklmnopqrstuvwxyz") = some (.bl (isLet c ^^ neg)) := by
  rw [in_str, let_cps]
  congr 3
  unfold isLet
  rw [Bool.eq_iff_iff]
  simp only [decide_eq_true_eq, List.mem_range'_1, Bool.and_eq_true]
  omega
theorem in_fig {neg : Bool} {c : Nat} : gIn neg (.str (mkS [c])) (.str "0123456789") = some (.bl (isFig c ^^ neg)) := by
  rw [in_str, fig_cps]
  congr 3
  unfold isFig
  rw [Bool.eq_iff_iff]
  simp only [decide_eq_true_eq, List.mem_range'_1, Bool.and_eq_true]
  omega
theorem toBls_map {α : Type} (f : α → Bool) : ∀ xs : List α, toBls (xs.map fun x => D.bl (f x)) = some (xs.map f)
  | [] => rfl
  | x :: xs => by
    show (toBls (xs.map fun x => D.bl (f x))).map (f x :: ·) = _
    rw [toBls_map f xs]; rfl
theorem gAll_map {α : Type} (f : α → Bool) (xs : List α) : gAll (.lst (xs.map fun x => D.bl (f x))) = some (.bl (xs.all f)) := by
  show (toBls _).map _ = _
  rw [toBls_map]
  simp [List.all_map]
theorem gAny_map {α : Type} (f : α → Bool) (xs : List α) : gAny (.lst (xs.map fun x => D.bl (f x))) = some (.bl (xs.any f)) := by
  show (toBls _).map _ = _
  rw [toBls_map]
  simp [List.any_map]
theorem toInts_map {α : Type} (f : α → Int) : ∀ xs : List α, toInts (xs.map fun x => D.int (f x)) = some (xs.map f)
  | [] => rfl
  | x :: xs => by
    show (toInts (xs.map fun x => D.int (f x))).map (f x :: ·) = _
    rw [toInts_map f xs]; rfl
theorem gSum_map {α : Type} (f : α → Int) (xs : List α) : gSum (.lst (xs.map fun x => D.int (f x))) = some (.int (xs.map f).sum) := by
  show (toInts _).map _ = _
  rw [toInts_map]; rfl
theorem filter_tt {α : Type} (xs : List α) : xs.filter (fun _ => true) = xs := List.filter_eq_self.mpr fun _ _ => rfl
theorem le_lim {n : Nat} (h : n ≤ 1000000) : n ≤ LIM := h
theorem r_is_name_str {l : List Nat} (h : l.length ≤ LIM) : R_is_name [.str (mkS l)] = .ok (.bl (nmOk l)) .non := by
  have gl : gLen (.str (mkS l)) = some (.int l.length) := by show (if (mkS l).length ≤ LIM then _ else _) = _; rw [mkS_len, if_pos h]
  have g0 := ix_str (i := 0) h
  unfold R_is_name b_is_name
  by_cases h0 : (1 : Int) ≤ (l.length : Int)
  · obtain ⟨c, cs, e⟩ : ∃ c cs, l = c :: cs := by cases l with
      | nil => simp at h0
      | cons c cs => exact ⟨c, cs, rfl⟩
    have a0 : atI l (0 : Int) = some c := by rw [e]; exact at0
    rw [a0, Option.map_some] at g0
    by_cases h1 : (l.length : Int) ≤ 12
    · have hl : cs.length < 12 := by rw [e, List.length_cons] at h1; omega
      cases hc : isLet c with
      | false =>
        dsimp?! only [gl, g0, h1, h0, in_let, hc]
        rw [e]; simp [nmOk, hc]
      | true =>
        dsimp?! only [gl, g0, h1, h0, in_let, hc]
        rw [lcomp_all (φ := fun c => .str (mkS [c])) (xs := l) (f := fun c => .bl (isLet c || isFig c))]
        · dsimp?! only [gAll_map]
          rw [e]; simp [nmOk, hc, hl]
        · dsimp?! only [seq_str]
        · rfl
        · exact h
        · intro x hx
          cases hx : isLet x <;> dsimp?! only [lturn, tyes, in_let, in_fig, hx]
    · dsimp?! only [gl, h1, h0]
      rw [e]
      have hl : ¬ cs.length < 12 := by rw [e, List.length_cons] at h1; omega
      simp [nmOk, hl]
  · have : l = [] := by cases l with
      | nil => rfl
      | cons c cs => rw [List.length_cons] at h0; omega
    dsimp?! only [gl, h0]
    rw [this]; rfl
theorem r_is_name {s : Str} (h : s.length ≤ LIM) : R_is_name [.str s] = .ok (.bl (nameOk s)) .non := by
  rw [mkS_eq s] at h ⊢
  rw [mkS_len] at h
  rw [r_is_name_str h]
  unfold nameOk
  rw [mkS_cps]
theorem r_is_name_no {d : D} (h : bas d = true) (hs : ∀ s, d ≠ .str s) : R_is_name [d] = .ok (.bl false) .non := by
  unfold R_is_name b_is_name
  cases d with
  | ob c ns ds => cases h
  | fn c => cases h
  | str s => exact absurd rfl (hs s)
  | _ => dsimp?! only [i1_dct, i1_scr, isa_dict_str]
theorem nameOk_len {s : Str} (h : nameOk s = true) : s.length ≤ 12 ∧ 1 ≤ s.length := by
  rw [mkS_eq s, mkS_len]
  unfold nameOk at h
  cases e : s.cps.toList with
  | nil => rw [e] at h; cases h
  | cons c cs =>
    rw [e] at h
    simp only [nmOk, Bool.and_eq_true, decide_eq_true_eq] at h
    rw [List.length_cons]; omega
end KC

set_option Elab.async false
set_option linter.all false
set_option maxRecDepth 100000
set_option maxHeartbeats 4000000
set_option pp.maxSteps 2000
/-! drawn names; rows -/
namespace KC
open PySem DL
open L2 (atI ixN)
local macro_rules
  | `(tactic| dsimp?! only [$xs,*]) => do
    let ys : Lean.Syntax.TSepArray `Lean.Parser.Tactic.simpLemma "," := ⟨xs.elemsAndSeps⟩
    `(tactic| simp only [bind_ok, bind_exn, bind_bad, s_ok, s_exn, s_bad, rd_ap, pk_ap, cst_ap, lift_some, lift_none, bin_ap, has_ap, binL_ap, un_ap, anil_ap, acons_ap, mkTup_ap, mkLst_ap, asB_bl, tv_ap, tnot_ap, tand_ap, tor_ap, vand_ap, vor_ap, vnot_ap, vif_ap, vchain_ap, sasg_ap, sown_ap, sif_ap, sret_ap, sexp_ap, snx_ap, sseq_ap, spar_ap, stg_ap, gnm_ap, gnil_ap, gcons_ap, gtp_ap, call_ap, doF_ok, doF_exn, callB_ap, apk_ap, doFB_ok, isOwn_ap, callI_ap, doI_ap, putOwn_ap, setD_ap, sset_ap, isLst_ap, mutl_ap, mutm_ap, sraise_ap, slcL_ap, slc_ap, pno_ap, psome_ap, unN_ap, iseq_ap, irng1_ap, irng2_ap, lrng_ap, gAdd_int, gInt_ap, at0, at1, at2, at3, gIx_lst, gIx_tup, gIx_scr, gLen_lst, gLen_tup, gLen_scr, gToInt_int, List.getElem?_cons_zero, List.getElem?_cons_succ, List.set_cons_zero, List.set_cons_succ, List.length_cons, List.length_nil, ite_true, ite_false, if_true, if_false, Bool.true_and, Bool.and_true, Bool.false_and, Bool.and_false, decide_true, decide_false, Option.map_some, Option.map_none, Bool.not_true, Bool.not_false, reduceIte, Nat.reduceAdd, Nat.reduceLeDiff, Bool.false_eq_true, Bool.true_eq_false, Bool.false_or, Bool.true_or, Bool.or_false, Bool.or_true, noXc_nil, noXc_un, noXc_val, noXc_own, noXc_io, dropAt_nx, dropAt_bk, dropAt_ct, dropAt_rt, keepAt_nx, keepAt_bk, keepAt_ct, keepAt_rt, stry_ap, stry0_ap, xfld_ap, LIM, nc_lit, Int.reduceAdd, Int.reduceSub, Int.reduceNeg, Int.reduceLT, Int.reduceLE, Int.reduceBEq, Nat.reduceLT, sfor_ap, skl_ap, wipeR_nil, wipeR_cons, smix_ap, putsR_nil, putsR_cons, methP_ap, isSq_lst, isSq_tup, ienum_ap, callM_ap', mkOb_ap, sfld_ap, saug_ap, callV_ap, stryN_ap, byH_nil, byH_cons, gStr_str, gAugAdd_int, gNeg_int', gSeq_lst, gSeq_tup, gTuple_lst, gTuple_tup, gList_lst, gList_tup, gSl_lst, gSl_tup, gAdd_lst, gAppend_lst, gExtend_lst, runP_1, runP_2, runP_3, runP_4, runP_5, runI_1, runI_2, runI_3, runI_4, runI_5, outP_nx, outP_rt, outP_exn, outI_nx, outI_rt, outI_exn, List.reduceReplicate, Nat.reduceSub, List.map_cons, List.map_nil, List.cons_append, List.nil_append, i2_non, i2_bl, i2_int, i2_str, i2_tup, i2_lst, i1_non, i1_bl, i1_int, i1_str, i1_tup, i1_lst, isa_NoneType_int, isa_NoneType_bool, isa_NoneType_str, isa_NoneType_tuple, isa_NoneType_list, isa_bool_int, isa_bool_bool, isa_bool_str, isa_bool_tuple, isa_bool_list, isa_int_int, isa_int_bool, isa_int_str, isa_int_tuple, isa_int_list, isa_str_int, isa_str_bool, isa_str_str, isa_str_tuple, isa_str_list, isa_tuple_int, isa_tuple_bool, isa_tuple_str, isa_tuple_tuple, isa_tuple_list, isa_list_int, isa_list_bool, isa_list_str, isa_list_tuple, isa_list_list, isN_non, isN_bl, isN_int, isN_str, isN_tup, isN_lst, gEq_bl, gEq_int, gEq_str, gEq_nn, Bool.xor_false, Bool.xor_true, Bool.false_xor, Bool.true_xor, Bool.or_self, Bool.and_self, beq_self_eq_true, Nat.zero_le, Bool.not_not, $ys,*])
  | `(tactic| dsimp?! only [$xs,*] $l:location) => do
    let ys : Lean.Syntax.TSepArray `Lean.Parser.Tactic.simpLemma "," := ⟨xs.elemsAndSeps⟩
    `(tactic| simp only [bind_ok, bind_exn, bind_bad, s_ok, s_exn, s_bad, rd_ap, pk_ap, cst_ap, lift_some, lift_none, bin_ap, has_ap, binL_ap, un_ap, anil_ap, acons_ap, mkTup_ap, mkLst_ap, asB_bl, tv_ap, tnot_ap, tand_ap, tor_ap, vand_ap, vor_ap, vnot_ap, vif_ap, vchain_ap, sasg_ap, sown_ap, sif_ap, sret_ap, sexp_ap, snx_ap, sseq_ap, spar_ap, stg_ap, gnm_ap, gnil_ap, gcons_ap, gtp_ap, call_ap, doF_ok, doF_exn, callB_ap, apk_ap, doFB_ok, isOwn_ap, callI_ap, doI_ap, putOwn_ap, setD_ap, sset_ap, isLst_ap, mutl_ap, mutm_ap, sraise_ap, slcL_ap, slc_ap, pno_ap, psome_ap, unN_ap, iseq_ap, irng1_ap, irng2_ap, lrng_ap, gAdd_int, gInt_ap, at0, at1, at2, at3, gIx_lst, gIx_tup, gIx_scr, gLen_lst, gLen_tup, gLen_scr, gToInt_int, List.getElem?_cons_zero, List.getElem?_cons_succ, List.set_cons_zero, List.set_cons_succ, List.length_cons, List.length_nil, ite_true, ite_false, if_true, if_false, Bool.true_and, Bool.and_true, Bool.false_and, Bool.and_false, decide_true, decide_false, Option.map_some, Option.map_none, Bool.not_true, Bool.not_false, reduceIte, Nat.reduceAdd, Nat.reduceLeDiff, Bool.false_eq_true, Bool.true_eq_false, Bool.false_or, Bool.true_or, Bool.or_false, Bool.or_true, noXc_nil, noXc_un, noXc_val, noXc_own, noXc_io, dropAt_nx, dropAt_bk, dropAt_ct, dropAt_rt, keepAt_nx, keepAt_bk, keepAt_ct, keepAt_rt, stry_ap, stry0_ap, xfld_ap, LIM, nc_lit, Int.reduceAdd, Int.reduceSub, Int.reduceNeg, Int.reduceLT, Int.reduceLE, Int.reduceBEq, Nat.reduceLT, sfor_ap, skl_ap, wipeR_nil, wipeR_cons, smix_ap, putsR_nil, putsR_cons, methP_ap, isSq_lst, isSq_tup, ienum_ap, callM_ap', mkOb_ap, sfld_ap, saug_ap, callV_ap, stryN_ap, byH_nil, byH_cons, gStr_str, gAugAdd_int, gNeg_int', gSeq_lst, gSeq_tup, gTuple_lst, gTuple_tup, gList_lst, gList_tup, gSl_lst, gSl_tup, gAdd_lst, gAppend_lst, gExtend_lst, runP_1, runP_2, runP_3, runP_4, runP_5, runI_1, runI_2, runI_3, runI_4, runI_5, outP_nx, outP_rt, outP_exn, outI_nx, outI_rt, outI_exn, List.reduceReplicate, Nat.reduceSub, List.map_cons, List.map_nil, List.cons_append, List.nil_append, i2_non, i2_bl, i2_int, i2_str, i2_tup, i2_lst, i1_non, i1_bl, i1_int, i1_str, i1_tup, i1_lst, isa_NoneType_int, isa_NoneType_bool, isa_NoneType_str, isa_NoneType_tuple, isa_NoneType_list, isa_bool_int, isa_bool_bool, isa_bool_str, isa_bool_tuple, isa_bool_list, isa_int_int, isa_int_bool, isa_int_str, isa_int_tuple, isa_int_list, isa_str_int, isa_str_bool, isa_str_str, isa_str_tuple, isa_str_list, isa_tuple_int, isa_tuple_bool, isa_tuple_str, isa_tuple_tuple, isa_tuple_list, isa_list_int, isa_list_bool, isa_list_str, isa_list_tuple, isa_list_list, isN_non, isN_bl, isN_int, isN_str, isN_tup, isN_lst, gEq_bl, gEq_int, gEq_str, gEq_nn, Bool.xor_false, Bool.xor_true, Bool.false_xor, Bool.true_xor, Bool.or_self, Bool.and_self, beq_self_eq_true, Nat.zero_le, Bool.not_not, $ys,*] $l:location)

theorem rng_get {n : Nat} {i : Nat} {d : D} (h : (rngL 0 (n : Int))[i]? = some d) : i < n ∧ d = .int (i : Nat) := by
  rw [rngL_map, List.getElem?_map, Option.map_eq_some_iff] at h
  obtain ⟨k, hk, rfl⟩ := h
  obtain ⟨h1, h2⟩ := List.getElem?_eq_some_iff.mp hk
  rw [List.length_range] at h1
  rw [List.getElem_range] at h2
  subst h2
  exact ⟨by omega, by rw [Int.zero_add]⟩
theorem rng_len (n : Nat) : (rngL 0 (n : Int)).length = n := by rw [rngL_map, List.length_map, List.length_range]; omega
theorem irng_nat {f : List Sl → RE D} {r : List Sl} {n : Nat} (h : f r = .ok (.int (n : Int)) r) (hn : n ≤ LIM) : irng1 f r = .ok (rngL 0 (n : Int)) r := by
  rw [irng1_ap, h]
  have : small (n : Int) = true := small_of (by omega) (by have : n ≤ 1000000 := hn; omega)
  show (if small (n : Int) = true then _ else _) = _
  rw [if_pos this]
theorem irng1_int {n : Nat} {r : List Sl} (hn : n ≤ LIM) : (if small (n : Int) = true then RE.ok (rngL 0 (n : Int)) r else .bad) = .ok (rngL 0 (n : Int)) r := if_pos (small_of (by omega) (by have : n ≤ 1000000 := hn; omega))
theorem sign_pick {r : D} (h : Row r) {m : Nat} (hm : m = 26 ∨ m = 36) : ∃ x r', R__law_taken [r, .int (m : Int)] = .ok (.int x) r' ∧ Row r' ∧ ∃ c, gIx (.str "abcdefghijklmnopqrstuvwxyz0123456789") (.int x) = some (.str (mkS [c])) ∧ (isLet c || isFig c) = true ∧ (m = 26 → isLet c = true) := by
  obtain ⟨x, r', e, hr, x0, x1⟩ := taken (m := (m : Int)) h (by omega) ((btn (k := 6) (by omega)).le (by decide))
  refine ⟨x, r', e, hr, ?_⟩
  have hl : (List.range' 97 26 ++ List.range' 48 10).length = 36 := rfl
  obtain ⟨c, hc, hc2⟩ := atN (l := List.range' 97 26 ++ List.range' 48 10) (i := x) x0 (by rw [hl]; omega)
  have hm' : c ∈ List.range' 97 26 ++ List.range' 48 10 := List.mem_of_getElem? hc2
  refine ⟨c, ?_, ?_, fun h26 => ?_⟩
  · rw [all_cps, ix_str (by rw [hl]; decide), hc]; rfl
  · rw [List.mem_append, List.mem_range'_1, List.mem_range'_1] at hm'
    simp only [isLet, isFig, Bool.or_eq_true, Bool.and_eq_true, decide_eq_true_eq]
    omega
  · rw [List.getElem?_append_left (by rw [List.length_range']; omega)] at hc2
    have := List.mem_of_getElem? hc2
    rw [List.mem_range'_1] at this
    simp only [isLet, Bool.and_eq_true, decide_eq_true_eq]
    omega
theorem nm_len {l : List Nat} (h : nmOk l = true) : l.length ≤ 12 ∧ 1 ≤ l.length := by
  cases l with
  | nil => cases h
  | cons c cs => simp only [nmOk, Bool.and_eq_true, decide_eq_true_eq] at h; rw [List.length_cons]; omega
theorem nm_snoc {l : List Nat} {c : Nat} (h : nmOk l = true) (hl : l.length < 12) (hc : (isLet c || isFig c) = true) : nmOk (l ++ [c]) = true := by
  cases l with
  | nil => cases h
  | cons a as =>
    simp only [nmOk, List.cons_append, Bool.and_eq_true, decide_eq_true_eq, List.length_append, List.length_cons, List.length_nil, List.all_append, List.all_cons, List.all_nil] at h hl ⊢
    exact ⟨⟨by omega, h.1.2⟩, h.2, hc, trivial⟩
theorem law_name {r : D} (h : Row r) : ∃ l r', R__law_name [r] = .ok (.str (mkS l)) r' ∧ Row r' ∧ nmOk l = true := by
  obtain ⟨k, hk, r1, e1, h1⟩ := pick (ks := [.int 1, .int 1, .int 2, .int 3, .int 5, .int 12]) h (by decide) (by decide)
  obtain ⟨n, rfl, hn1, hn2⟩ : ∃ n : Nat, k = .int ((n : Int) + 1) ∧ 0 ≤ n ∧ n ≤ 11 := by
    simp only [List.mem_cons, List.not_mem_nil, or_false] at hk
    rcases hk with rfl | rfl | rfl | rfl | rfl | rfl
    · exact ⟨0, rfl, by decide, by decide⟩
    · exact ⟨0, rfl, by decide, by decide⟩
    · exact ⟨1, rfl, by decide, by decide⟩
    · exact ⟨2, rfl, by decide, by decide⟩
    · exact ⟨4, rfl, by decide, by decide⟩
    · exact ⟨11, rfl, by decide, by decide⟩
  obtain ⟨x, r2, e2, h2, c, ec, hc, hc'⟩ := sign_pick h1 (m := 26) (.inl rfl)
  obtain ⟨s', e3, hs1, hs2, hs3⟩ := forL_inv (g := gnm 4) (b := skl [4] (sasg 3 (bin gAdd (rd 3) (binL gIx 1 (callI 0 R__law_taken (acons (cst (.int 36)) anil))))))
    (R := fun s : D × List Nat => [.io s.1, .val (.str "abcdefghijklmnopqrstuvwxyz0123456789"), .val (.int ((n : Int) + 1)), .val (.str (mkS s.2)), .un]) (I := fun i s => Row s.1 ∧ nmOk s.2 = true ∧ s.2.length = i + 1) (rngL 0 (n : Int)) 0 (r2, [c])
    ⟨h2, by simp [nmOk, hc' rfl], rfl⟩ fun i d s hd ⟨i1, i2, i3⟩ => by
      obtain ⟨hi, rfl⟩ := rng_get hd
      obtain ⟨y, r3, e4, h3, c2, ec2, hc2, _⟩ := sign_pick i1 (m := 36) (.inr rfl)
      refine ⟨(r3, s.2 ++ [c2]), ?_, h3, nm_snoc i2 (by omega) hc2, by simp; omega⟩
      have e4' : R__law_taken [s.1, .int 36] = .ok (.int y) r3 := e4
      have ga : gAdd (.str (mkS s.2)) (.str (mkS [c2])) = some (.str (mkS (s.2 ++ [c2]))) := by
        rw [gAdd_str, mkS_len, mkS_len, mkS_app, if_pos (by rw [List.length_singleton]; exact le_lim (by omega))]
      dsimp?! only [fturn, e4', ec2, ga]
  refine ⟨s'.2, s'.1, ?_, hs1, hs2⟩
  have e2' : R__law_taken [r1, .int 26] = .ok (.int x) r2 := e2
  dsimp only at e3
  have sub : (n : Int) + 1 - 1 = (n : Int) := by omega
  have l6 : (6 : Nat) ≤ LIM := by decide
  unfold R__law_name b__law_name
  dsimp?! only [e1, e2', ec, sub, irng1_int (show n ≤ LIM from le_lim (by omega)), e3, l6]
/-! ### lists without repetition -/
theorem nodup_len {α : Type} : ∀ (l m : List α), l.Nodup → (∀ x ∈ l, x ∈ m) → l.length ≤ m.length
  | [], m, _, _ => Nat.zero_le _
  | x :: l, m, hn, hs => by
    classical
    obtain ⟨a, b, rfl⟩ := List.append_of_mem (hs x List.mem_cons_self)
    rw [List.nodup_cons] at hn
    have := nodup_len l (a ++ b) hn.2 fun y hy => by
      have := hs y (List.mem_cons_of_mem _ hy)
      rw [List.mem_append, List.mem_cons] at this
      rw [List.mem_append]
      rcases this with h | rfl | h
      · exact .inl h
      · exact absurd hy hn.1
      · exact .inr h
    simp only [List.length_append, List.length_cons] at this ⊢
    omega
theorem fresh_one {α : Type} {l m : List α} (h : l.Nodup) (hl : m.length < l.length) : ∃ x ∈ l, x ∉ m :=
  Classical.byContradiction fun hn => by
    have := nodup_len l m h fun x hx => Classical.byContradiction fun hm => hn ⟨x, hx, hm⟩
    omega
/-- the digits of small numbers -/
def digs (n : Nat) : List Nat := if n < 10 then [48 + n] else if n < 100 then [48 + n / 10, 48 + n % 10] else [48 + n / 100, 48 + n / 10 % 10, 48 + n % 10]
theorem str_small : ∀ n : Fin 1000, (toString (n.val : Int) : Str) = mkS (digs n.val) := by decide +kernel
theorem gStr_small {n : Nat} (h : n < 1000) : gStr (.int (n : Int)) = some (.str (mkS (digs n))) := by
  have e := str_small ⟨n, h⟩
  show (if (n : Int).natAbs.log2 < 1000 then _ else _) = _
  rw [if_pos (by
    rcases Nat.eq_zero_or_pos n with rfl | hp
    · decide
    · have : (n : Int).natAbs = n := by omega
      rw [this]
      exact (Nat.log2_lt (by omega)).mpr (Nat.lt_of_lt_of_le h (by
        have : (2 : Nat) ^ 10 ≤ 2 ^ 1000 := Nat.pow_le_pow_right (by decide) (by decide)
        omega)))]
  rw [show (toString (n : Int) : Str) = mkS (digs n) from e]
theorem digs_inj {m n : Nat} (hm : m < 1000) (hn : n < 1000) (h : digs m = digs n) : m = n := by
  unfold digs at h
  split at h <;> split at h <;> (try split at h) <;> (try split at h) <;> simp at h <;> omega
theorem digs_ok {n c : Nat} (hn : n < 1000) (h : c ∈ digs n) : (isLet c || isFig c) = true := by
  have : isFig c = true := by
    simp only [isFig, Bool.and_eq_true, decide_eq_true_eq]
    unfold digs at h
    split at h
    · simp at h; omega
    · split at h <;> simp at h <;> omega
  rw [this, Bool.or_true]
theorem digs_len {n : Nat} : (digs n).length ≤ 3 ∧ (n < 100 → (digs n).length ≤ 2) := by
  unfold digs
  split
  · simp
  · split <;> simp <;> omega
theorem nm_app {l : List Nat} (h : nmOk l = true) : ∀ {m : List Nat}, (∀ c ∈ m, (isLet c || isFig c) = true) → l.length + m.length ≤ 12 → nmOk (l ++ m) = true
  | [], _, _ => by rw [List.append_nil]; exact h
  | c :: m, hm, hl => by
    rw [List.length_cons] at hl
    have := nm_app (nm_snoc h (by omega) (hm c List.mem_cons_self)) (m := m) (fun x hx => hm x (List.mem_cons_of_mem _ hx)) (by rw [List.length_append, List.length_singleton]; omega)
    rwa [List.append_assoc] at this
theorem nm_take {l : List Nat} {n : Nat} (h : nmOk l = true) (hn : 0 < n) : nmOk (l.take n) = true := by
  cases l with
  | nil => cases h
  | cons c cs =>
    cases n with
    | zero => cases hn
    | succ n =>
      simp only [nmOk, List.take_succ_cons, Bool.and_eq_true, decide_eq_true_eq, List.length_take] at h ⊢
      refine ⟨⟨by omega, h.1.2⟩, ?_⟩
      rw [List.all_eq_true] at h ⊢
      exact fun x hx => h.2 x (List.mem_of_mem_take hx)
end KC

set_option Elab.async false
set_option linter.all false
set_option maxRecDepth 100000
set_option maxHeartbeats 4000000
set_option pp.maxSteps 2000
/-! rows of names; rows that are wanted -/
namespace KC
open PySem DL
open L2 (atI ixN)
local macro_rules
  | `(tactic| dsimp?! only [$xs,*]) => do
    let ys : Lean.Syntax.TSepArray `Lean.Parser.Tactic.simpLemma "," := ⟨xs.elemsAndSeps⟩
    `(tactic| simp only [bind_ok, bind_exn, bind_bad, s_ok, s_exn, s_bad, rd_ap, pk_ap, cst_ap, lift_some, lift_none, bin_ap, has_ap, binL_ap, un_ap, anil_ap, acons_ap, mkTup_ap, mkLst_ap, asB_bl, tv_ap, tnot_ap, tand_ap, tor_ap, vand_ap, vor_ap, vnot_ap, vif_ap, vchain_ap, sasg_ap, sown_ap, sif_ap, sret_ap, sexp_ap, snx_ap, sseq_ap, spar_ap, stg_ap, gnm_ap, gnil_ap, gcons_ap, gtp_ap, call_ap, doF_ok, doF_exn, callB_ap, apk_ap, doFB_ok, isOwn_ap, callI_ap, doI_ap, putOwn_ap, setD_ap, sset_ap, isLst_ap, mutl_ap, mutm_ap, sraise_ap, slcL_ap, slc_ap, pno_ap, psome_ap, unN_ap, iseq_ap, irng1_ap, irng2_ap, lrng_ap, gAdd_int, gInt_ap, at0, at1, at2, at3, gIx_lst, gIx_tup, gIx_scr, gLen_lst, gLen_tup, gLen_scr, gToInt_int, List.getElem?_cons_zero, List.getElem?_cons_succ, List.set_cons_zero, List.set_cons_succ, List.length_cons, List.length_nil, ite_true, ite_false, if_true, if_false, Bool.true_and, Bool.and_true, Bool.false_and, Bool.and_false, decide_true, decide_false, Option.map_some, Option.map_none, Bool.not_true, Bool.not_false, reduceIte, Nat.reduceAdd, Nat.reduceLeDiff, Bool.false_eq_true, Bool.true_eq_false, Bool.false_or, Bool.true_or, Bool.or_false, Bool.or_true, noXc_nil, noXc_un, noXc_val, noXc_own, noXc_io, dropAt_nx, dropAt_bk, dropAt_ct, dropAt_rt, keepAt_nx, keepAt_bk, keepAt_ct, keepAt_rt, stry_ap, stry0_ap, xfld_ap, LIM, nc_lit, Int.reduceAdd, Int.reduceSub, Int.reduceNeg, Int.reduceLT, Int.reduceLE, Int.reduceBEq, Nat.reduceLT, sfor_ap, skl_ap, wipeR_nil, wipeR_cons, smix_ap, putsR_nil, putsR_cons, methP_ap, isSq_lst, isSq_tup, ienum_ap, callM_ap', mkOb_ap, sfld_ap, saug_ap, callV_ap, stryN_ap, byH_nil, byH_cons, gStr_str, gAugAdd_int, gNeg_int', gSeq_lst, gSeq_tup, gTuple_lst, gTuple_tup, gList_lst, gList_tup, gSl_lst, gSl_tup, gAdd_lst, gAppend_lst, gExtend_lst, runP_1, runP_2, runP_3, runP_4, runP_5, runI_1, runI_2, runI_3, runI_4, runI_5, outP_nx, outP_rt, outP_exn, outI_nx, outI_rt, outI_exn, List.reduceReplicate, Nat.reduceSub, List.map_cons, List.map_nil, List.cons_append, List.nil_append, i2_non, i2_bl, i2_int, i2_str, i2_tup, i2_lst, i1_non, i1_bl, i1_int, i1_str, i1_tup, i1_lst, isa_NoneType_int, isa_NoneType_bool, isa_NoneType_str, isa_NoneType_tuple, isa_NoneType_list, isa_bool_int, isa_bool_bool, isa_bool_str, isa_bool_tuple, isa_bool_list, isa_int_int, isa_int_bool, isa_int_str, isa_int_tuple, isa_int_list, isa_str_int, isa_str_bool, isa_str_str, isa_str_tuple, isa_str_list, isa_tuple_int, isa_tuple_bool, isa_tuple_str, isa_tuple_tuple, isa_tuple_list, isa_list_int, isa_list_bool, isa_list_str, isa_list_tuple, isa_list_list, isN_non, isN_bl, isN_int, isN_str, isN_tup, isN_lst, gEq_bl, gEq_int, gEq_str, gEq_nn, Bool.xor_false, Bool.xor_true, Bool.false_xor, Bool.true_xor, Bool.or_self, Bool.and_self, beq_self_eq_true, Nat.zero_le, Bool.not_not, $ys,*])
  | `(tactic| dsimp?! only [$xs,*] $l:location) => do
    let ys : Lean.Syntax.TSepArray `Lean.Parser.Tactic.simpLemma "," := ⟨xs.elemsAndSeps⟩
    `(tactic| simp only [bind_ok, bind_exn, bind_bad, s_ok, s_exn, s_bad, rd_ap, pk_ap, cst_ap, lift_some, lift_none, bin_ap, has_ap, binL_ap, un_ap, anil_ap, acons_ap, mkTup_ap, mkLst_ap, asB_bl, tv_ap, tnot_ap, tand_ap, tor_ap, vand_ap, vor_ap, vnot_ap, vif_ap, vchain_ap, sasg_ap, sown_ap, sif_ap, sret_ap, sexp_ap, snx_ap, sseq_ap, spar_ap, stg_ap, gnm_ap, gnil_ap, gcons_ap, gtp_ap, call_ap, doF_ok, doF_exn, callB_ap, apk_ap, doFB_ok, isOwn_ap, callI_ap, doI_ap, putOwn_ap, setD_ap, sset_ap, isLst_ap, mutl_ap, mutm_ap, sraise_ap, slcL_ap, slc_ap, pno_ap, psome_ap, unN_ap, iseq_ap, irng1_ap, irng2_ap, lrng_ap, gAdd_int, gInt_ap, at0, at1, at2, at3, gIx_lst, gIx_tup, gIx_scr, gLen_lst, gLen_tup, gLen_scr, gToInt_int, List.getElem?_cons_zero, List.getElem?_cons_succ, List.set_cons_zero, List.set_cons_succ, List.length_cons, List.length_nil, ite_true, ite_false, if_true, if_false, Bool.true_and, Bool.and_true, Bool.false_and, Bool.and_false, decide_true, decide_false, Option.map_some, Option.map_none, Bool.not_true, Bool.not_false, reduceIte, Nat.reduceAdd, Nat.reduceLeDiff, Bool.false_eq_true, Bool.true_eq_false, Bool.false_or, Bool.true_or, Bool.or_false, Bool.or_true, noXc_nil, noXc_un, noXc_val, noXc_own, noXc_io, dropAt_nx, dropAt_bk, dropAt_ct, dropAt_rt, keepAt_nx, keepAt_bk, keepAt_ct, keepAt_rt, stry_ap, stry0_ap, xfld_ap, LIM, nc_lit, Int.reduceAdd, Int.reduceSub, Int.reduceNeg, Int.reduceLT, Int.reduceLE, Int.reduceBEq, Nat.reduceLT, sfor_ap, skl_ap, wipeR_nil, wipeR_cons, smix_ap, putsR_nil, putsR_cons, methP_ap, isSq_lst, isSq_tup, ienum_ap, callM_ap', mkOb_ap, sfld_ap, saug_ap, callV_ap, stryN_ap, byH_nil, byH_cons, gStr_str, gAugAdd_int, gNeg_int', gSeq_lst, gSeq_tup, gTuple_lst, gTuple_tup, gList_lst, gList_tup, gSl_lst, gSl_tup, gAdd_lst, gAppend_lst, gExtend_lst, runP_1, runP_2, runP_3, runP_4, runP_5, runI_1, runI_2, runI_3, runI_4, runI_5, outP_nx, outP_rt, outP_exn, outI_nx, outI_rt, outI_exn, List.reduceReplicate, Nat.reduceSub, List.map_cons, List.map_nil, List.cons_append, List.nil_append, i2_non, i2_bl, i2_int, i2_str, i2_tup, i2_lst, i1_non, i1_bl, i1_int, i1_str, i1_tup, i1_lst, isa_NoneType_int, isa_NoneType_bool, isa_NoneType_str, isa_NoneType_tuple, isa_NoneType_list, isa_bool_int, isa_bool_bool, isa_bool_str, isa_bool_tuple, isa_bool_list, isa_int_int, isa_int_bool, isa_int_str, isa_int_tuple, isa_int_list, isa_str_int, isa_str_bool, isa_str_str, isa_str_tuple, isa_str_list, isa_tuple_int, isa_tuple_bool, isa_tuple_str, isa_tuple_tuple, isa_tuple_list, isa_list_int, isa_list_bool, isa_list_str, isa_list_tuple, isa_list_list, isN_non, isN_bl, isN_int, isN_str, isN_tup, isN_lst, gEq_bl, gEq_int, gEq_str, gEq_nn, Bool.xor_false, Bool.xor_true, Bool.false_xor, Bool.true_xor, Bool.or_self, Bool.and_self, beq_self_eq_true, Nat.zero_le, Bool.not_not, $ys,*] $l:location)

theorem six_nat (n d k : Nat) : HT.sIx n d (some (k : Int)) = min k n := HT.sIx_nat n d k
theorem cut_hi {α : Type} {xs : List α} {n : Nat} : cut xs none (some (n : Int)) = xs.take n := by
  unfold cut
  rw [HT.sIx_none, six_nat, List.drop_zero, Nat.sub_zero]
  rcases Nat.le_total n xs.length with h | h
  · rw [Nat.min_eq_left h]
  · rw [Nat.min_eq_right h, List.take_length, List.take_of_length_le h]
theorem cut_lo {α : Type} {xs : List α} {n : Nat} : cut xs (some (n : Int)) none = xs.drop n := by
  unfold cut
  rw [HT.sIx_none, six_nat]
  rcases Nat.le_total n xs.length with h | h
  · rw [Nat.min_eq_left h, List.take_of_length_le (by rw [List.length_drop]; exact Nat.le_refl _)]
  · rw [Nat.min_eq_right h, List.drop_length, List.drop_of_length_le h, List.take_nil]
theorem cut_lh {α : Type} {xs : List α} {m n : Nat} : cut xs (some (m : Int)) (some (n : Int)) = (xs.drop m).take (n - m) := by
  unfold cut
  rw [six_nat, six_nat]
  rcases Nat.le_total m xs.length with h | h
  · rw [Nat.min_eq_left h]
    rcases Nat.le_total n xs.length with h2 | h2
    · rw [Nat.min_eq_left h2]
    · rw [Nat.min_eq_right h2, List.take_of_length_le (l := xs.drop m) (i := n - m) (by rw [List.length_drop]; omega), List.take_of_length_le (by rw [List.length_drop]; exact Nat.le_refl _)]
  · rw [Nat.min_eq_right h, List.drop_length, List.drop_of_length_le h, List.take_nil, List.take_nil]
theorem rngL_nat (n : Nat) : rngL 0 (n : Int) = (List.range n).map fun (i : Nat) => D.int (i : Int) := by
  rw [rngL_map, show ((n : Int) - 0).toNat = n by omega]
  exact List.map_congr_left fun i _ => by rw [Int.zero_add]
theorem rngL_nn (m n : Nat) : rngL (m : Int) (n : Int) = (List.range' m (n - m)).map fun (i : Nat) => D.int (i : Int) := by
  rw [rngL_map, show ((n : Int) - (m : Int)).toNat = n - m by omega, List.range'_eq_map_range, List.map_map]
  exact List.map_congr_left fun i _ => by show D.int ((m : Int) + (i : Int)) = D.int ((m + i : Nat) : Int); congr 1
theorem okd_str {k : Nat} {s : Str} : okd k (.str s) = true := by cases k <;> rfl
theorem okd_int {k : Nat} {s : Int} : okd k (.int s) = true := by cases k <;> rfl
theorem okd_bl {k : Nat} {s : Bool} : okd k (.bl s) = true := by cases k <;> rfl
theorem okd_non {k : Nat} : okd k .non = true := by cases k <;> rfl
theorem eqb_str {a b : Str} : D.eqb (.str a) (.str b) = (a == b) := by unfold D.eqb; rfl
theorem eqb_int {a b : Int} : D.eqb (.int a) (.int b) = (a == b) := by unfold D.eqb; rfl
theorem gIn_lst {neg : Bool} {x : D} {ys : List D} (hx : okd 20 x = true) (hy : ys.all (okd 20) = true) : gIn neg x (.lst ys) = some (.bl (ys.any (fun y => y.eqb x) ^^ neg)) := by
  show (if (okd 20 x && ys.all (okd 20)) = true then _ else _) = _
  rw [hx, hy]; rfl
theorem gIn_tup {neg : Bool} {x : D} {ys : List D} (hx : okd 20 x = true) (hy : ys.all (okd 20) = true) : gIn neg x (.tup ys) = some (.bl (ys.any (fun y => y.eqb x) ^^ neg)) := by
  show (if (okd 20 x && ys.all (okd 20)) = true then _ else _) = _
  rw [hx, hy]; rfl
theorem any_str {x : Str} (xs : List Str) : (xs.map D.str).any (fun y => y.eqb (.str x)) = decide (x ∈ xs) := by
  rw [Bool.eq_iff_iff, List.any_eq_true, decide_eq_true_eq]
  constructor
  · rintro ⟨d, hd, e⟩
    obtain ⟨s, hs, rfl⟩ := List.mem_map.mp hd
    rw [eqb_str] at e
    rw [← eq_of_beq e]; exact hs
  · intro h
    exact ⟨.str x, List.mem_map.mpr ⟨x, h, rfl⟩, by rw [eqb_str]; exact beq_self_eq_true _⟩
theorem any_int {x : Int} (xs : List Int) : (xs.map D.int).any (fun y => y.eqb (.int x)) = decide (x ∈ xs) := by
  rw [Bool.eq_iff_iff, List.any_eq_true, decide_eq_true_eq]
  constructor
  · rintro ⟨d, hd, e⟩
    obtain ⟨s, hs, rfl⟩ := List.mem_map.mp hd
    rw [eqb_int] at e
    rw [← eq_of_beq e]; exact hs
  · intro h
    exact ⟨.int x, List.mem_map.mpr ⟨x, h, rfl⟩, by rw [eqb_int]; exact beq_self_eq_true _⟩
theorem all_okd_str (xs : List Str) : (xs.map D.str).all (okd 20) = true := by
  rw [List.all_eq_true]
  intro d hd
  obtain ⟨s, _, rfl⟩ := List.mem_map.mp hd
  exact okd_str
theorem all_okd_int (xs : List Int) : (xs.map D.int).all (okd 20) = true := by
  rw [List.all_eq_true]
  intro d hd
  obtain ⟨s, _, rfl⟩ := List.mem_map.mp hd
  exact okd_int
theorem in_strs {neg : Bool} {x : Str} (xs : List Str) : gIn neg (.str x) (.lst (xs.map D.str)) = some (.bl (decide (x ∈ xs) ^^ neg)) := by
  rw [gIn_lst okd_str (all_okd_str xs), any_str]
theorem in_strsT {neg : Bool} {x : Str} (xs : List Str) : gIn neg (.str x) (.tup (xs.map D.str)) = some (.bl (decide (x ∈ xs) ^^ neg)) := by
  rw [gIn_tup okd_str (all_okd_str xs), any_str]
theorem in_ints {neg : Bool} {x : Int} (xs : List Int) : gIn neg (.int x) (.lst (xs.map D.int)) = some (.bl (decide (x ∈ xs) ^^ neg)) := by
  rw [gIn_lst okd_int (all_okd_int xs), any_int]
theorem in_intsT {neg : Bool} {x : Int} (xs : List Int) : gIn neg (.int x) (.tup (xs.map D.int)) = some (.bl (decide (x ∈ xs) ^^ neg)) := by
  rw [gIn_tup okd_int (all_okd_int xs), any_int]
theorem seq_strs (xs : List Str) : gSeq (.lst (xs.map D.str)) = some (xs.map D.str) := rfl
/-- the drawn names -/
def Names (xs : List Str) : Prop := xs.Nodup ∧ ∀ x ∈ xs, nameOk x = true
theorem nameOk_mkS {l : List Nat} : nameOk (mkS l) = nmOk l := by unfold nameOk; rw [mkS_cps]
theorem spare_nodup (l : List Nat) {n : Nat} (hn : n ≤ 1000) : ((List.range n).map fun i => mkS (l ++ digs i)).Nodup := by
  rw [List.nodup_iff_pairwise_ne, List.pairwise_map]
  refine List.Pairwise.imp_of_mem (fun {a b} ha hb hab e => hab ?_) List.nodup_range
  rw [List.mem_range] at ha hb
  exact digs_inj (by omega) (by omega) (List.append_cancel_left (mkS_inj e))
theorem take_spare {l : List Nat} (h : nmOk l = true) {i : Nat} (hi : i < 100) : nmOk (l.take 9 ++ digs i) = true :=
  nm_app (nm_take h (by decide)) (fun c hc => digs_ok (by omega) hc) (by have := (digs_len (n := i)).2 hi; rw [List.length_take]; omega)
theorem law_names {r : D} (h : Row r) {n : Nat} (hn : n ≤ 50) : ∃ xs r', R__law_names [r, .int (n : Int)] = .ok (.lst (xs.map D.str)) r' ∧ Row r' ∧ Names xs ∧ xs.length = n := by
  obtain ⟨s', e3, hs1, hs2, hs3, hs4⟩ := forL_inv (g := gnm 3) (b := skl [3, 4, 5] (sseq (sasg 4 (callI 0 R__law_name anil)) (sseq (skl [4] (sasg 5 (bin gAdd (mkLst (acons (rd 4) anil)) (lcomp (irng1 (cst (.int 100))) (gnm 6) tyes (bin gAdd (slcL 4 pno (psome (cst (.int 9)))) (un gStr (pk 6))) [6])))) (skl [5] (sexp (mutl 2 gAppend (acons (bin gIx (lcomp (iseq (rd 5)) (gnm 7) (tv (bin (gIn true) (rd 7) (pk 2))) (rd 7) [7]) (cst (.int 0))) anil)))))))
    (R := fun s : D × List Str => [.io s.1, .val (.int (n : Int)), .own (.lst (s.2.map D.str)), .un, .un, .un, .un, .un]) (I := fun i s => Row s.1 ∧ s.2.Nodup ∧ (∀ x ∈ s.2, nameOk x = true) ∧ s.2.length = i) (rngL 0 (n : Int)) 0 (r, [])
    ⟨h, List.nodup_nil, (fun x hx => by cases hx), rfl⟩ fun i d s hd ⟨i1, i2, i3, i4⟩ => by
      obtain ⟨hi, rfl⟩ := rng_get hd
      obtain ⟨l, r1, e1, h1, hl⟩ := law_name i1
      have ll := nm_len hl
      have hf := fresh_one (l := (List.range 100).map fun i => mkS (l.take 9 ++ digs i)) (m := s.2) (spare_nodup _ (by decide)) (by rw [List.length_map, List.length_range]; omega)
      have hne : (mkS l :: (List.range 100).map fun i => mkS (l.take 9 ++ digs i)).filter (fun x => !decide (x ∈ s.2)) ≠ [] := by
        obtain ⟨x, hx, hx2⟩ := hf
        intro z
        have : x ∈ (mkS l :: (List.range 100).map fun i => mkS (l.take 9 ++ digs i)).filter (fun x => !decide (x ∈ s.2)) := List.mem_filter.mpr ⟨List.mem_cons_of_mem _ hx, by simpa using hx2⟩
        rw [z] at this; cases this
      obtain ⟨y, ys, ey⟩ := List.exists_cons_of_ne_nil hne
      have hy : y ∈ (mkS l :: (List.range 100).map fun i => mkS (l.take 9 ++ digs i)).filter (fun x => !decide (x ∈ s.2)) := by rw [ey]; exact List.mem_cons_self
      obtain ⟨hy1, hy2⟩ := List.mem_filter.mp hy
      have hy2' : y ∉ s.2 := by simpa using hy2
      have hyo : nameOk y = true := by
        rcases List.mem_cons.mp hy1 with rfl | hz
        · rw [nameOk_mkS]; exact hl
        · obtain ⟨i, hi, rfl⟩ := List.mem_map.mp hz
          rw [nameOk_mkS]; exact take_spare hl (List.mem_range.mp hi)
      refine ⟨(r1, s.2 ++ [y]), ?_, h1, ?_, ?_, ?_⟩
      · have z9 : gSl none (some 9) (.str (mkS l)) = some (.str (mkS (l.take 9))) := by
          show (if (mkS l).length ≤ LIM then _ else _) = _
          rw [mkS_len, if_pos (le_lim (by omega)), mkS_cps, show (9 : Int) = ((9 : Nat) : Int) from rfl, cut_hi]; rfl
        have c1 := lcomp_all (fi := irng1 (cst (.int 100))) (g := gnm 6) (t := tyes) (e := bin gAdd (slcL 4 pno (psome (cst (.int 9)))) (un gStr (pk 6))) (vs := [6]) (r := [.io r1, .val (.int (n : Int)), .own (.lst (s.2.map D.str)), .val (.int (i : Int)), .val (.str (mkS l)), .un, .un, .un]) (fun i : Nat => D.int (i : Int)) (List.range 100) (fun i => .str (mkS (l.take 9 ++ digs i)))
          (by rw [← rngL_nat]; exact irng_nat (n := 100) rfl (by decide)) rfl (by decide) fun i hi => by
            rw [List.mem_range] at hi
            have gs := gStr_small (n := i) (by omega)
            have ga : gAdd (.str (mkS (l.take 9))) (.str (mkS (digs i))) = some (.str (mkS (l.take 9 ++ digs i))) := by
              rw [gAdd_str, mkS_len, mkS_len, mkS_app, if_pos (by have := (digs_len (n := i)).2 hi; rw [List.length_take]; exact le_lim (by omega))]
            dsimp?! only [lturn, tyes, z9, gs, ga]
        have c2 := lcomp_map (fi := iseq (rd 5)) (g := gnm 7) (t := tv (bin (gIn true) (rd 7) (pk 2))) (e := rd 7) (vs := [7]) (r := [.io r1, .val (.int (n : Int)), .own (.lst (s.2.map D.str)), .val (.int (i : Int)), .un, .val (.lst ((mkS l :: (List.range 100).map fun i => mkS (l.take 9 ++ digs i)).map D.str)), .un, .un]) D.str (mkS l :: (List.range 100).map fun i => mkS (l.take 9 ++ digs i)) (fun x => !decide (x ∈ s.2)) D.str
          (by dsimp?! only []) rfl (by simp only [List.length_cons, List.length_map, List.length_range]; decide) fun x hx => by
            cases hx : decide (x ∈ s.2) <;> dsimp?! only [lturn, in_strs, hx]
        rw [ey] at c2
        simp only [List.map_cons, List.map_map] at c2
        have e1' : R__law_name (s.1 :: []) = .ok (.str (mkS l)) r1 := e1
        have zs : (s.2.map D.str).length < LIM := by rw [List.length_map, i4]; exact Nat.lt_of_lt_of_le (m := 50) (by omega) (by decide)
        have z1 : (1 : Nat) ≤ LIM := by decide
        have z2 : (0 + 1 + ((List.range 100).map fun i => D.str (mkS (l.take 9 ++ digs i))).length ≤ LIM) := by rw [List.length_map, List.length_range]; decide
        dsimp?! only [fturn, e1', c1, z1, z2, Function.comp_def]
        simp only [Function.comp_def] at c2
        dsimp?! only [c2, zs, List.map_append]
      · rw [List.nodup_append]
        exact ⟨i2, by simp, fun a ha b hb => by rw [List.mem_singleton] at hb; subst hb; exact fun e => hy2' (e ▸ ha)⟩
      · intro x hx
        rcases List.mem_append.mp hx with hx | hx
        · exact i3 x hx
        · rw [List.mem_singleton] at hx; subst hx; exact hyo
      · rw [List.length_append, i4, List.length_singleton]
  rw [rng_len, Nat.zero_add] at hs4
  refine ⟨s'.2, s'.1, ?_, hs1, ⟨hs2, hs3⟩, hs4⟩
  dsimp only at e3
  have z0 : (0 : Nat) ≤ LIM := by decide
  unfold R__law_names b__law_names
  simp only [List.map_nil] at e3
  dsimp?! only [irng1_int (show n ≤ LIM from le_lim (by omega)), z0, e3]
end KC

set_option Elab.async false
set_option linter.all false
set_option maxRecDepth 100000
set_option maxHeartbeats 4000000
set_option pp.maxSteps 2000
namespace KC
open PySem DL
open L2 (atI ixN)
local macro_rules
  | `(tactic| dsimp?! only [$xs,*]) => do
    let ys : Lean.Syntax.TSepArray `Lean.Parser.Tactic.simpLemma "," := ⟨xs.elemsAndSeps⟩
    `(tactic| simp only [bind_ok, bind_exn, bind_bad, s_ok, s_exn, s_bad, rd_ap, pk_ap, cst_ap, lift_some, lift_none, bin_ap, has_ap, binL_ap, un_ap, anil_ap, acons_ap, mkTup_ap, mkLst_ap, asB_bl, tv_ap, tnot_ap, tand_ap, tor_ap, vand_ap, vor_ap, vnot_ap, vif_ap, vchain_ap, sasg_ap, sown_ap, sif_ap, sret_ap, sexp_ap, snx_ap, sseq_ap, spar_ap, stg_ap, gnm_ap, gnil_ap, gcons_ap, gtp_ap, call_ap, doF_ok, doF_exn, callB_ap, apk_ap, doFB_ok, isOwn_ap, callI_ap, doI_ap, putOwn_ap, setD_ap, sset_ap, isLst_ap, mutl_ap, mutm_ap, sraise_ap, slcL_ap, slc_ap, pno_ap, psome_ap, unN_ap, iseq_ap, irng1_ap, irng2_ap, lrng_ap, gAdd_int, gInt_ap, at0, at1, at2, at3, gIx_lst, gIx_tup, gIx_scr, gLen_lst, gLen_tup, gLen_scr, gToInt_int, List.getElem?_cons_zero, List.getElem?_cons_succ, List.set_cons_zero, List.set_cons_succ, List.length_cons, List.length_nil, ite_true, ite_false, if_true, if_false, Bool.true_and, Bool.and_true, Bool.false_and, Bool.and_false, decide_true, decide_false, Option.map_some, Option.map_none, Bool.not_true, Bool.not_false, reduceIte, Nat.reduceAdd, Nat.reduceLeDiff, Bool.false_eq_true, Bool.true_eq_false, Bool.false_or, Bool.true_or, Bool.or_false, Bool.or_true, noXc_nil, noXc_un, noXc_val, noXc_own, noXc_io, dropAt_nx, dropAt_bk, dropAt_ct, dropAt_rt, keepAt_nx, keepAt_bk, keepAt_ct, keepAt_rt, stry_ap, stry0_ap, xfld_ap, LIM, nc_lit, Int.reduceAdd, Int.reduceSub, Int.reduceNeg, Int.reduceLT, Int.reduceLE, Int.reduceBEq, Nat.reduceLT, sfor_ap, skl_ap, wipeR_nil, wipeR_cons, smix_ap, putsR_nil, putsR_cons, methP_ap, isSq_lst, isSq_tup, ienum_ap, callM_ap', mkOb_ap, sfld_ap, saug_ap, callV_ap, stryN_ap, byH_nil, byH_cons, gStr_str, gAugAdd_int, gNeg_int', gSeq_lst, gSeq_tup, gTuple_lst, gTuple_tup, gList_lst, gList_tup, gSl_lst, gSl_tup, gAdd_lst, gAppend_lst, gExtend_lst, runP_1, runP_2, runP_3, runP_4, runP_5, runI_1, runI_2, runI_3, runI_4, runI_5, outP_nx, outP_rt, outP_exn, outI_nx, outI_rt, outI_exn, List.reduceReplicate, Nat.reduceSub, List.map_cons, List.map_nil, List.cons_append, List.nil_append, i2_non, i2_bl, i2_int, i2_str, i2_tup, i2_lst, i1_non, i1_bl, i1_int, i1_str, i1_tup, i1_lst, isa_NoneType_int, isa_NoneType_bool, isa_NoneType_str, isa_NoneType_tuple, isa_NoneType_list, isa_bool_int, isa_bool_bool, isa_bool_str, isa_bool_tuple, isa_bool_list, isa_int_int, isa_int_bool, isa_int_str, isa_int_tuple, isa_int_list, isa_str_int, isa_str_bool, isa_str_str, isa_str_tuple, isa_str_list, isa_tuple_int, isa_tuple_bool, isa_tuple_str, isa_tuple_tuple, isa_tuple_list, isa_list_int, isa_list_bool, isa_list_str, isa_list_tuple, isa_list_list, isN_non, isN_bl, isN_int, isN_str, isN_tup, isN_lst, gEq_bl, gEq_int, gEq_str, gEq_nn, Bool.xor_false, Bool.xor_true, Bool.false_xor, Bool.true_xor, Bool.or_self, Bool.and_self, beq_self_eq_true, Nat.zero_le, Bool.not_not, $ys,*])
  | `(tactic| dsimp?! only [$xs,*] $l:location) => do
    let ys : Lean.Syntax.TSepArray `Lean.Parser.Tactic.simpLemma "," := ⟨xs.elemsAndSeps⟩
    `(tactic| simp only [bind_ok, bind_exn, bind_bad, s_ok, s_exn, s_bad, rd_ap, pk_ap, cst_ap, lift_some, lift_none, bin_ap, has_ap, binL_ap, un_ap, anil_ap, acons_ap, mkTup_ap, mkLst_ap, asB_bl, tv_ap, tnot_ap, tand_ap, tor_ap, vand_ap, vor_ap, vnot_ap, vif_ap, vchain_ap, sasg_ap, sown_ap, sif_ap, sret_ap, sexp_ap, snx_ap, sseq_ap, spar_ap, stg_ap, gnm_ap, gnil_ap, gcons_ap, gtp_ap, call_ap, doF_ok, doF_exn, callB_ap, apk_ap, doFB_ok, isOwn_ap, callI_ap, doI_ap, putOwn_ap, setD_ap, sset_ap, isLst_ap, mutl_ap, mutm_ap, sraise_ap, slcL_ap, slc_ap, pno_ap, psome_ap, unN_ap, iseq_ap, irng1_ap, irng2_ap, lrng_ap, gAdd_int, gInt_ap, at0, at1, at2, at3, gIx_lst, gIx_tup, gIx_scr, gLen_lst, gLen_tup, gLen_scr, gToInt_int, List.getElem?_cons_zero, List.getElem?_cons_succ, List.set_cons_zero, List.set_cons_succ, List.length_cons, List.length_nil, ite_true, ite_false, if_true, if_false, Bool.true_and, Bool.and_true, Bool.false_and, Bool.and_false, decide_true, decide_false, Option.map_some, Option.map_none, Bool.not_true, Bool.not_false, reduceIte, Nat.reduceAdd, Nat.reduceLeDiff, Bool.false_eq_true, Bool.true_eq_false, Bool.false_or, Bool.true_or, Bool.or_false, Bool.or_true, noXc_nil, noXc_un, noXc_val, noXc_own, noXc_io, dropAt_nx, dropAt_bk, dropAt_ct, dropAt_rt, keepAt_nx, keepAt_bk, keepAt_ct, keepAt_rt, stry_ap, stry0_ap, xfld_ap, LIM, nc_lit, Int.reduceAdd, Int.reduceSub, Int.reduceNeg, Int.reduceLT, Int.reduceLE, Int.reduceBEq, Nat.reduceLT, sfor_ap, skl_ap, wipeR_nil, wipeR_cons, smix_ap, putsR_nil, putsR_cons, methP_ap, isSq_lst, isSq_tup, ienum_ap, callM_ap', mkOb_ap, sfld_ap, saug_ap, callV_ap, stryN_ap, byH_nil, byH_cons, gStr_str, gAugAdd_int, gNeg_int', gSeq_lst, gSeq_tup, gTuple_lst, gTuple_tup, gList_lst, gList_tup, gSl_lst, gSl_tup, gAdd_lst, gAppend_lst, gExtend_lst, runP_1, runP_2, runP_3, runP_4, runP_5, runI_1, runI_2, runI_3, runI_4, runI_5, outP_nx, outP_rt, outP_exn, outI_nx, outI_rt, outI_exn, List.reduceReplicate, Nat.reduceSub, List.map_cons, List.map_nil, List.cons_append, List.nil_append, i2_non, i2_bl, i2_int, i2_str, i2_tup, i2_lst, i1_non, i1_bl, i1_int, i1_str, i1_tup, i1_lst, isa_NoneType_int, isa_NoneType_bool, isa_NoneType_str, isa_NoneType_tuple, isa_NoneType_list, isa_bool_int, isa_bool_bool, isa_bool_str, isa_bool_tuple, isa_bool_list, isa_int_int, isa_int_bool, isa_int_str, isa_int_tuple, isa_int_list, isa_str_int, isa_str_bool, isa_str_str, isa_str_tuple, isa_str_list, isa_tuple_int, isa_tuple_bool, isa_tuple_str, isa_tuple_tuple, isa_tuple_list, isa_list_int, isa_list_bool, isa_list_str, isa_list_tuple, isa_list_list, isN_non, isN_bl, isN_int, isN_str, isN_tup, isN_lst, gEq_bl, gEq_int, gEq_str, gEq_nn, Bool.xor_false, Bool.xor_true, Bool.false_xor, Bool.true_xor, Bool.or_self, Bool.and_self, beq_self_eq_true, Nat.zero_le, Bool.not_not, $ys,*] $l:location)

/-- a name that is none of some -/
theorem law_strange {xs : List Str} (hl : xs.length < 400) : ∃ s, s ∉ xs ∧ nameOk s = true ∧ R__law_strange [.lst (xs.map D.str)] = .ok (.str s) .non := by
  have hf := fresh_one (l := (List.range 400).map fun i => mkS ([113] ++ digs i)) (m := xs) (spare_nodup _ (by decide)) (by rw [List.length_map, List.length_range]; exact hl)
  have hne : ((List.range 400).map fun i => mkS ([113] ++ digs i)).filter (fun x => !decide (x ∈ xs)) ≠ [] := by
    obtain ⟨x, hx, hx2⟩ := hf
    intro z
    have : x ∈ ((List.range 400).map fun i => mkS ([113] ++ digs i)).filter (fun x => !decide (x ∈ xs)) := List.mem_filter.mpr ⟨hx, by simpa using hx2⟩
    rw [z] at this; cases this
  obtain ⟨y, ys, ey⟩ := List.exists_cons_of_ne_nil hne
  have hy : y ∈ ((List.range 400).map fun i => mkS ([113] ++ digs i)).filter (fun x => !decide (x ∈ xs)) := by rw [ey]; exact List.mem_cons_self
  obtain ⟨hy1, hy2⟩ := List.mem_filter.mp hy
  refine ⟨y, by simpa using hy2, ?_, ?_⟩
  · obtain ⟨i, hi, rfl⟩ := List.mem_map.mp hy1
    rw [nameOk_mkS]
    have h400 := List.mem_range.mp hi
    exact nm_app (l := [113]) rfl (fun c hc => digs_ok (by omega) hc) (by have := (digs_len (n := i)).1; rw [List.length_singleton]; omega)
  · have q : ("q" : Str) = mkS [113] := by decide +kernel
    have c1 := lcomp_all (fi := irng1 (cst (.int 400))) (g := gnm 2) (t := tyes) (e := bin gAdd (cst (.str "q")) (un gStr (pk 2))) (vs := [2]) (r := [.val (.lst (xs.map D.str)), .un, .un]) (fun i : Nat => D.int (i : Int)) (List.range 400) (fun i => .str (mkS ([113] ++ digs i)))
      (by rw [← rngL_nat]; exact irng_nat (n := 400) rfl (by decide)) rfl (by decide) fun i hi => by
        rw [List.mem_range] at hi
        have gs := gStr_small (n := i) (by omega)
        have ga : gAdd (.str (mkS [113])) (.str (mkS (digs i))) = some (.str (mkS ([113] ++ digs i))) := by
          rw [gAdd_str, mkS_len, mkS_len, mkS_app, if_pos (by have := (digs_len (n := i)).1; rw [List.length_singleton]; exact le_lim (by omega))]
        rw [q]
        dsimp?! only [lturn, tyes, gs, ga]
    have c2 := lcomp_map (fi := iseq (lcomp (irng1 (cst (.int 400))) (gnm 2) tyes (bin gAdd (cst (.str "q")) (un gStr (pk 2))) [2])) (g := gnm 1) (t := tv (bin (gIn true) (rd 1) (pk 0))) (e := rd 1) (vs := [1]) (r := [.val (.lst (xs.map D.str)), .un, .un]) D.str ((List.range 400).map fun i => mkS ([113] ++ digs i)) (fun x => !decide (x ∈ xs)) D.str
      (by rw [iseq_ap, c1, List.map_map]; rfl) rfl (by rw [List.length_map]; decide) fun x hx => by
        cases hx : decide (x ∈ xs) <;> dsimp?! only [lturn, in_strs, hx]
    rw [ey] at c2
    simp only [List.map_cons] at c2
    unfold R__law_strange b__law_strange
    dsimp?! only [c2]
/-- some of a list -/
theorem law_some {α : Type} {φ : α → D} {r : D} (h : Row r) (xs : List α) (hl : xs.length ≤ LIM) : ∃ (ys : List α) (r' : D), R__law_some [r, .lst (xs.map φ)] = .ok (.lst (ys.map φ)) r' ∧ Row r' ∧ ys.Sublist xs := by
  obtain ⟨ys, s', e1, h1, h2⟩ := lcomp_inv (fi := iseq (rd 1)) (g := gnm 2) (t := tv (bin (gEq false) (callI 0 R__law_taken (acons (cst (.int 2)) anil)) (cst (.int 1)))) (e := rd 2) (vs := [2]) (r := [.io r, .val (.lst (xs.map φ)), .un]) (R := fun s : D => [.io s, .val (.lst (xs.map φ)), .un]) (I := fun i s acc => Row s ∧ acc.Sublist ((xs.map φ).take i)) (ds := xs.map φ) (r1 := [.io r, .val (.lst (xs.map φ)), .un]) r
    (by dsimp?! only []) rfl rfl ⟨h, List.nil_sublist _⟩ (by rw [List.length_map]; exact hl) fun i d s acc hd ⟨i1, i2⟩ => by
      obtain ⟨x, r1, e, h1, x0, x1⟩ := taken (m := 2) i1 (by decide) (by unfold bt; decide)
      have ht : (xs.map φ).take (i + 1) = (xs.map φ).take i ++ [d] := by rw [List.take_add_one, hd]; rfl
      by_cases hx : x = 1
      · subst hx
        refine ⟨some d, r1, ?_, h1, ?_⟩
        · dsimp?! only [lturn, e]
        · rw [ht]; exact i2.append (List.Sublist.refl _)
      · have hx' : (x == 1) = false := by simpa using hx
        refine ⟨none, r1, ?_, h1, ?_⟩
        · dsimp?! only [lturn, e, hx']
        · rw [ht, Option.toList_none, List.append_nil]; exact i2.trans (List.sublist_append_left _ _)
  rw [List.take_length] at h2
  obtain ⟨zs, hz, rfl⟩ := List.sublist_map_iff.mp h2
  refine ⟨zs, s', ?_, h1, hz⟩
  unfold R__law_some b__law_some
  dsimp?! only [e1]
  rfl
/-! ### frozen -/
mutual
def frz : D → D
  | .tup xs => .tup (frzL xs)
  | .lst xs => .tup (frzL xs)
  | .non => .non
  | .bl b => .bl b
  | .int i => .int i
  | .str s => .str s
  | .dct a b => .dct a b
  | .ob c n d => .ob c n d
  | .fn c => .fn c
  | .scr s => .scr s
def frzL : List D → List D
  | [] => []
  | x :: xs => frz x :: frzL xs
end
theorem frzL_eq : ∀ xs : List D, frzL xs = xs.map frz
  | [] => rfl
  | x :: xs => by rw [List.map_cons, ← frzL_eq xs]; rfl
theorem frz_tup {xs : List D} : frz (.tup xs) = .tup (xs.map frz) := by rw [← frzL_eq]; rfl
theorem frz_lst {xs : List D} : frz (.lst xs) = .tup (xs.map frz) := by rw [← frzL_eq]; rfl
theorem frz_int {i : Int} : frz (.int i) = .int i := rfl
theorem frz_str {i : Str} : frz (.str i) = .str i := rfl
theorem frz_non : frz .non = .non := rfl
theorem frz_bl {i : Bool} : frz (.bl i) = .bl i := rfl
theorem frozen_rows {n : Nat} {xs : List D} (w : List D → D) (hw : w = .tup ∨ w = .lst) (hl : xs.length ≤ LIM) (ih : ∀ x ∈ xs, R_frozen n [x] = .ok (frz x) .non) : R_frozen (n + 1) [w xs] = .ok (.tup (xs.map frz)) .non := by
  have c := lcomp_all (fi := iseq (rd 0)) (g := gnm 1) (t := tyes) (e := call (R_frozen n) (acons (rd 1) anil)) (vs := [1]) (r := [.val (w xs), .un]) id xs frz (by rcases hw with rfl | rfl <;> dsimp?! only [List.map_id]) rfl hl fun x hx => by
    have := ih x hx
    dsimp?! only [lturn, tyes, id, this]
  show runP 2 1 (b_frozen (R_frozen n)) [w xs] = _
  unfold b_frozen
  rcases hw with rfl | rfl <;> dsimp?! only [c]
theorem frozen_ok : ∀ (k n : Nat) (d : D), okl k d = true → k < n → R_frozen n [d] = .ok (frz d) .non
  | k, 0, _, _, h => absurd h (Nat.not_lt_zero _)
  | k + 1, n + 1, .tup xs, h, hn => by
    rw [okl_tup, Bool.and_eq_true] at h
    rw [frz_tup]
    exact frozen_rows .tup (.inl rfl) (of_decide_eq_true h.1) fun x hx => frozen_ok k n x (List.all_eq_true.mp h.2 x hx) (by omega)
  | k + 1, n + 1, .lst xs, h, hn => by
    rw [okl_lst, Bool.and_eq_true] at h
    rw [frz_lst]
    exact frozen_rows .lst (.inr rfl) (of_decide_eq_true h.1) fun x hx => frozen_ok k n x (List.all_eq_true.mp h.2 x hx) (by omega)
  | k, n + 1, .non, _, _ => by show runP 2 1 (b_frozen (R_frozen n)) [_] = _; unfold b_frozen; dsimp?! only [frz]
  | k, n + 1, .bl b, _, _ => by show runP 2 1 (b_frozen (R_frozen n)) [_] = _; unfold b_frozen; dsimp?! only [frz]
  | k, n + 1, .int b, _, _ => by show runP 2 1 (b_frozen (R_frozen n)) [_] = _; unfold b_frozen; dsimp?! only [frz]
  | k, n + 1, .str b, _, _ => by show runP 2 1 (b_frozen (R_frozen n)) [_] = _; unfold b_frozen; dsimp?! only [frz]
  | 0, n + 1, .tup xs, h, _ => by simp [okl] at h
  | 0, n + 1, .lst xs, h, _ => by simp [okl] at h
  | k, n + 1, .dct _ _, h, _ => by cases k <;> simp [okl] at h
  | k, n + 1, .ob _ _ _, h, _ => by cases k <;> simp [okl] at h
  | k, n + 1, .fn _, h, _ => by cases k <;> simp [okl] at h
  | k, n + 1, .scr _, h, _ => by cases k <;> simp [okl] at h
/-! ### rows that are wanted -/
section
variable {tb : Str → Option (List D → RF)} {c : Str} {F : List D → RF} {p : D → Bool} {xs : List D} {v : D} {m : Int}
theorem want_loop (hF : tb c = some F) (hv : v = .lst xs ∨ v = .tup xs) (hp : ∀ x ∈ xs, F [x] = .ok (.bl (p x)) .non) (s3 s4 : Sl) :
    (∀ x ∈ xs, p x = true) ∧ forL (numb xs) (gtp 2 (gcons (gnm 3) (gcons (gnm 4) gnil))) (skl [3, 4] (skl [3, 4] (sif (tnot (tv (callV 1 tb (acons (rd 4) anil)))) (sraise "BadItem" ["index"] (acons (rd 3) anil)) snx))) [.val v, .val (.fn c), .val (.int m), .un, .un] = .nx [.val v, .val (.fn c), .val (.int m), .un, .un] ∨
    ∃ (i : Nat) (x : D), xs[i]? = some x ∧ p x = false ∧ (∀ (j : Nat) (y : D), j < i → xs[j]? = some y → p y = true) ∧ ∃ r, forL (numb xs) (gtp 2 (gcons (gnm 3) (gcons (gnm 4) gnil))) (skl [3, 4] (skl [3, 4] (sif (tnot (tv (callV 1 tb (acons (rd 4) anil)))) (sraise "BadItem" ["index"] (acons (rd 3) anil)) snx))) [.val v, .val (.fn c), .val (.int m), .un, .un] = .exn ⟨"BadItem", ["index"], [.int (i : Int)]⟩ r := by
  have snd : D → D := fun d => match d with
    | .tup [_, e] => e
    | _ => d
  have l2 : (2 : Nat) = 2 := rfl
  rcases forL_firstI (g := gtp 2 (gcons (gnm 3) (gcons (gnm 4) gnil))) (b := skl [3, 4] (skl [3, 4] (sif (tnot (tv (callV 1 tb (acons (rd 4) anil)))) (sraise "BadItem" ["index"] (acons (rd 3) anil)) snx))) [.val v, .val (.fn c), .val (.int m), .un, .un]
    (fun i d => match d with | .tup [_, e] => !p e | _ => false) (fun i d => match d with | .tup [_, e] => .exn ⟨"BadItem", ["index"], [.int (i : Int)]⟩ [.val v, .val (.fn c), .val (.int m), .val (.int (i : Int)), .val e] | _ => .bad) (numb xs) 0
    (fun i d hd _ => by obtain ⟨e, he, rfl⟩ := numb_get hd; rfl) (fun i d hd => by
      obtain ⟨e, he, rfl⟩ := numb_get hd
      have h1 := hp e (List.mem_of_getElem? he)
      rw [Nat.zero_add]
      cases hpe : p e <;> dsimp?! only [fturn, hF, h1, hpe]) with ⟨h1, h2⟩ | ⟨i, d, hd, h1, h2, h3⟩
  · refine .inl ⟨fun x hx => ?_, h2⟩
    obtain ⟨i, hi⟩ := List.getElem?_of_mem hx
    have hn : (numb xs)[i]? = some (.tup [.int (i : Int), x]) := by unfold numb; rw [List.getElem?_mapIdx, hi]; rfl
    have := h1 i _ hn
    simpa using this
  · obtain ⟨e, he, rfl⟩ := numb_get hd
    refine .inr ⟨i, e, he, by simpa using h1, fun j y hj hy => ?_, ⟨_, by rw [h3, Nat.zero_add]; rfl⟩⟩
    have hn : (numb xs)[j]? = some (.tup [.int (j : Int), y]) := by unfold numb; rw [List.getElem?_mapIdx, hy]; rfl
    have := h2 j _ hj hn
    simpa using this
theorem row_bas (hv : v = .lst xs ∨ v = .tup xs) : R_is_row [v] = .ok (.bl true) .non := by
  rcases hv with rfl | rfl <;> (unfold R_is_row b_is_row; dsimp?! only [])
theorem want_row_ok {k : Nat} (hF : tb c = some F) (hv : v = .lst xs ∨ v = .tup xs) (hp : ∀ x ∈ xs, F [x] = .ok (.bl (p x)) .non) (ha : ∀ x ∈ xs, p x = true) (hl : (xs.length : Int) ≤ m) (hk : okl k v = true) (hk2 : k < 24) :
    R_want_row tb [v, .fn c, .int m] = .ok (.tup (xs.map frz)) .non := by
  have e1 := row_bas hv
  have hfz : frz v = .tup (xs.map frz) := by rcases hv with rfl | rfl <;> first | exact frz_lst | exact frz_tup
  have e3 := frozen_ok k 24 v hk hk2
  rw [hfz] at e3
  have e4 : gLen v = some (.int xs.length) := by rcases hv with rfl | rfl <;> rfl
  have e5 : gSeq v = some xs := by rcases hv with rfl | rfl <;> rfl
  have e6 : ¬ m < (xs.length : Int) := by omega
  rcases want_loop (m := m) hF hv hp .un .un with ⟨_, e2⟩ | ⟨i, x, hx, hpx, _⟩
  · unfold R_want_row b_want_row
    dsimp?! only [e1, e5, e2, e4, e6, e3]
  · rw [ha x (List.mem_of_getElem? hx)] at hpx; cases hpx
theorem want_row_bad {i : Nat} {x : D} (hF : tb c = some F) (hv : v = .lst xs ∨ v = .tup xs) (hp : ∀ x ∈ xs, F [x] = .ok (.bl (p x)) .non) (hx : xs[i]? = some x) (hpx : p x = false) (hb : ∀ j y, j < i → xs[j]? = some y → p y = true) :
    R_want_row tb [v, .fn c, .int m] = .exn ⟨"BadItem", ["index"], [.int (i : Int)]⟩ .non := by
  have e1 := row_bas hv
  have e5 : gSeq v = some xs := by rcases hv with rfl | rfl <;> rfl
  rcases want_loop (m := m) hF hv hp .un .un with ⟨ha, _⟩ | ⟨j, y, hy, hpy, hbj, r, e2⟩
  · rw [ha x (List.mem_of_getElem? hx)] at hpx; cases hpx
  · have : j = i := by
      rcases Nat.lt_trichotomy i j with h | h | h
      · rw [hbj i x h hx] at hpx; cases hpx
      · exact h.symm
      · rw [hb j y h hy] at hpy; cases hpy
    subst this
    unfold R_want_row b_want_row
    dsimp?! only [e1, e5, e2]
theorem want_row_many (hF : tb c = some F) (hv : v = .lst xs ∨ v = .tup xs) (hp : ∀ x ∈ xs, F [x] = .ok (.bl (p x)) .non) (ha : ∀ x ∈ xs, p x = true) (hl : m < (xs.length : Int)) :
    R_want_row tb [v, .fn c, .int m] = .exn ⟨"TooMany", ["limit"], [.int m]⟩ .non := by
  have e1 := row_bas hv
  have e4 : gLen v = some (.int xs.length) := by rcases hv with rfl | rfl <;> rfl
  have e5 : gSeq v = some xs := by rcases hv with rfl | rfl <;> rfl
  rcases want_loop (m := m) hF hv hp .un .un with ⟨_, e2⟩ | ⟨i, x, hx, hpx, _⟩
  · unfold R_want_row b_want_row
    dsimp?! only [e1, e5, e2, e4, hl]
  · rw [ha x (List.mem_of_getElem? hx)] at hpx; cases hpx
theorem want_row_none : R_want_row tb [.non, .fn c, .int m] = .exn ⟨"BadItem", ["index"], [.non]⟩ .non := by
  have e1 : R_is_row [.non] = .ok (.bl false) .non := by unfold R_is_row b_is_row; dsimp?! only []
  unfold R_want_row b_want_row
  dsimp?! only [e1]
end
end KC

set_option Elab.async false
set_option linter.all false
set_option maxRecDepth 100000
set_option maxHeartbeats 4000000
set_option pp.maxSteps 2000
set_option exponentiation.threshold 20000
/-! fractions -/
namespace KC
open PySem DL
open L2 (atI ixN)
local macro_rules
  | `(tactic| dsimp?! only [$xs,*]) => do
    let ys : Lean.Syntax.TSepArray `Lean.Parser.Tactic.simpLemma "," := ⟨xs.elemsAndSeps⟩
    `(tactic| simp only [bind_ok, bind_exn, bind_bad, s_ok, s_exn, s_bad, rd_ap, pk_ap, cst_ap, lift_some, lift_none, bin_ap, has_ap, binL_ap, un_ap, anil_ap, acons_ap, mkTup_ap, mkLst_ap, asB_bl, tv_ap, tnot_ap, tand_ap, tor_ap, vand_ap, vor_ap, vnot_ap, vif_ap, vchain_ap, sasg_ap, sown_ap, sif_ap, sret_ap, sexp_ap, snx_ap, sseq_ap, spar_ap, stg_ap, gnm_ap, gnil_ap, gcons_ap, gtp_ap, call_ap, doF_ok, doF_exn, callB_ap, apk_ap, doFB_ok, isOwn_ap, callI_ap, doI_ap, putOwn_ap, setD_ap, sset_ap, isLst_ap, mutl_ap, mutm_ap, sraise_ap, slcL_ap, slc_ap, pno_ap, psome_ap, unN_ap, iseq_ap, irng1_ap, irng2_ap, lrng_ap, gAdd_int, gInt_ap, at0, at1, at2, at3, gIx_lst, gIx_tup, gIx_scr, gLen_lst, gLen_tup, gLen_scr, gToInt_int, List.getElem?_cons_zero, List.getElem?_cons_succ, List.set_cons_zero, List.set_cons_succ, List.length_cons, List.length_nil, ite_true, ite_false, if_true, if_false, Bool.true_and, Bool.and_true, Bool.false_and, Bool.and_false, decide_true, decide_false, Option.map_some, Option.map_none, Bool.not_true, Bool.not_false, reduceIte, Nat.reduceAdd, Nat.reduceLeDiff, Bool.false_eq_true, Bool.true_eq_false, Bool.false_or, Bool.true_or, Bool.or_false, Bool.or_true, noXc_nil, noXc_un, noXc_val, noXc_own, noXc_io, dropAt_nx, dropAt_bk, dropAt_ct, dropAt_rt, keepAt_nx, keepAt_bk, keepAt_ct, keepAt_rt, stry_ap, stry0_ap, xfld_ap, LIM, nc_lit, Int.reduceAdd, Int.reduceSub, Int.reduceNeg, Int.reduceLT, Int.reduceLE, Int.reduceBEq, Nat.reduceLT, sfor_ap, skl_ap, wipeR_nil, wipeR_cons, smix_ap, putsR_nil, putsR_cons, methP_ap, isSq_lst, isSq_tup, ienum_ap, callM_ap', mkOb_ap, sfld_ap, saug_ap, callV_ap, stryN_ap, byH_nil, byH_cons, gStr_str, gAugAdd_int, gNeg_int', gSeq_lst, gSeq_tup, gTuple_lst, gTuple_tup, gList_lst, gList_tup, gSl_lst, gSl_tup, gAdd_lst, gAppend_lst, gExtend_lst, runP_1, runP_2, runP_3, runP_4, runP_5, runI_1, runI_2, runI_3, runI_4, runI_5, outP_nx, outP_rt, outP_exn, outI_nx, outI_rt, outI_exn, List.reduceReplicate, Nat.reduceSub, List.map_cons, List.map_nil, List.cons_append, List.nil_append, i2_non, i2_bl, i2_int, i2_str, i2_tup, i2_lst, i1_non, i1_bl, i1_int, i1_str, i1_tup, i1_lst, isa_NoneType_int, isa_NoneType_bool, isa_NoneType_str, isa_NoneType_tuple, isa_NoneType_list, isa_bool_int, isa_bool_bool, isa_bool_str, isa_bool_tuple, isa_bool_list, isa_int_int, isa_int_bool, isa_int_str, isa_int_tuple, isa_int_list, isa_str_int, isa_str_bool, isa_str_str, isa_str_tuple, isa_str_list, isa_tuple_int, isa_tuple_bool, isa_tuple_str, isa_tuple_tuple, isa_tuple_list, isa_list_int, isa_list_bool, isa_list_str, isa_list_tuple, isa_list_list, isN_non, isN_bl, isN_int, isN_str, isN_tup, isN_lst, gEq_bl, gEq_int, gEq_str, gEq_nn, Bool.xor_false, Bool.xor_true, Bool.false_xor, Bool.true_xor, Bool.or_self, Bool.and_self, beq_self_eq_true, Nat.zero_le, Bool.not_not, $ys,*])
  | `(tactic| dsimp?! only [$xs,*] $l:location) => do
    let ys : Lean.Syntax.TSepArray `Lean.Parser.Tactic.simpLemma "," := ⟨xs.elemsAndSeps⟩
    `(tactic| simp only [bind_ok, bind_exn, bind_bad, s_ok, s_exn, s_bad, rd_ap, pk_ap, cst_ap, lift_some, lift_none, bin_ap, has_ap, binL_ap, un_ap, anil_ap, acons_ap, mkTup_ap, mkLst_ap, asB_bl, tv_ap, tnot_ap, tand_ap, tor_ap, vand_ap, vor_ap, vnot_ap, vif_ap, vchain_ap, sasg_ap, sown_ap, sif_ap, sret_ap, sexp_ap, snx_ap, sseq_ap, spar_ap, stg_ap, gnm_ap, gnil_ap, gcons_ap, gtp_ap, call_ap, doF_ok, doF_exn, callB_ap, apk_ap, doFB_ok, isOwn_ap, callI_ap, doI_ap, putOwn_ap, setD_ap, sset_ap, isLst_ap, mutl_ap, mutm_ap, sraise_ap, slcL_ap, slc_ap, pno_ap, psome_ap, unN_ap, iseq_ap, irng1_ap, irng2_ap, lrng_ap, gAdd_int, gInt_ap, at0, at1, at2, at3, gIx_lst, gIx_tup, gIx_scr, gLen_lst, gLen_tup, gLen_scr, gToInt_int, List.getElem?_cons_zero, List.getElem?_cons_succ, List.set_cons_zero, List.set_cons_succ, List.length_cons, List.length_nil, ite_true, ite_false, if_true, if_false, Bool.true_and, Bool.and_true, Bool.false_and, Bool.and_false, decide_true, decide_false, Option.map_some, Option.map_none, Bool.not_true, Bool.not_false, reduceIte, Nat.reduceAdd, Nat.reduceLeDiff, Bool.false_eq_true, Bool.true_eq_false, Bool.false_or, Bool.true_or, Bool.or_false, Bool.or_true, noXc_nil, noXc_un, noXc_val, noXc_own, noXc_io, dropAt_nx, dropAt_bk, dropAt_ct, dropAt_rt, keepAt_nx, keepAt_bk, keepAt_ct, keepAt_rt, stry_ap, stry0_ap, xfld_ap, LIM, nc_lit, Int.reduceAdd, Int.reduceSub, Int.reduceNeg, Int.reduceLT, Int.reduceLE, Int.reduceBEq, Nat.reduceLT, sfor_ap, skl_ap, wipeR_nil, wipeR_cons, smix_ap, putsR_nil, putsR_cons, methP_ap, isSq_lst, isSq_tup, ienum_ap, callM_ap', mkOb_ap, sfld_ap, saug_ap, callV_ap, stryN_ap, byH_nil, byH_cons, gStr_str, gAugAdd_int, gNeg_int', gSeq_lst, gSeq_tup, gTuple_lst, gTuple_tup, gList_lst, gList_tup, gSl_lst, gSl_tup, gAdd_lst, gAppend_lst, gExtend_lst, runP_1, runP_2, runP_3, runP_4, runP_5, runI_1, runI_2, runI_3, runI_4, runI_5, outP_nx, outP_rt, outP_exn, outI_nx, outI_rt, outI_exn, List.reduceReplicate, Nat.reduceSub, List.map_cons, List.map_nil, List.cons_append, List.nil_append, i2_non, i2_bl, i2_int, i2_str, i2_tup, i2_lst, i1_non, i1_bl, i1_int, i1_str, i1_tup, i1_lst, isa_NoneType_int, isa_NoneType_bool, isa_NoneType_str, isa_NoneType_tuple, isa_NoneType_list, isa_bool_int, isa_bool_bool, isa_bool_str, isa_bool_tuple, isa_bool_list, isa_int_int, isa_int_bool, isa_int_str, isa_int_tuple, isa_int_list, isa_str_int, isa_str_bool, isa_str_str, isa_str_tuple, isa_str_list, isa_tuple_int, isa_tuple_bool, isa_tuple_str, isa_tuple_tuple, isa_tuple_list, isa_list_int, isa_list_bool, isa_list_str, isa_list_tuple, isa_list_list, isN_non, isN_bl, isN_int, isN_str, isN_tup, isN_lst, gEq_bl, gEq_int, gEq_str, gEq_nn, Bool.xor_false, Bool.xor_true, Bool.false_xor, Bool.true_xor, Bool.or_self, Bool.and_self, beq_self_eq_true, Nat.zero_le, Bool.not_not, $ys,*] $l:location)

def fq (q : Rat) : D := .tup [.int q.num, .int (q.den : Int)]
def Bq (k : Nat) (q : Rat) : Prop := bt k q.num ∧ bt k (q.den : Int)
theorem Bq.le {j k : Nat} {q : Rat} (h : Bq j q) (e : j ≤ k) : Bq k q := ⟨h.1.le e, h.2.le e⟩
theorem mk_num {t : Int} {n : Nat} (h : n ≠ 0) : (mkRat t n).num = t / (Nat.gcd t.natAbs n : Int) ∧ (mkRat t n).den = n / Nat.gcd t.natAbs n := by
  have e : mkRat t n = Rat.normalize t n h := by unfold mkRat; rw [dif_neg h]
  rw [e, Rat.normalize_eq]
  exact ⟨rfl, rfl⟩
theorem mk_bq {t : Int} {n k : Nat} (h : n ≠ 0) (h1 : bt k t) (h2 : bt k (n : Int)) : Bq k (mkRat t n) := by
  have hg : 0 < Nat.gcd t.natAbs n := Nat.gcd_pos_of_pos_right _ (Nat.pos_of_ne_zero h)
  obtain ⟨e1, e2⟩ := mk_num (t := t) h
  refine ⟨?_, ?_⟩
  · rw [e1]; exact h1.div (by omega)
  · rw [e2]
    have := h2.div (n := (Nat.gcd t.natAbs n : Int)) (by omega)
    rwa [← Int.natCast_ediv] at this
theorem gcd_loop (t b : Int) : ∀ (n x y : Nat), y < n → swhile (tv (bin gGt (rd 3) (cst (.int 0)))) (spar 2 3 (acons (rd 3) (acons (bin gMod (rd 2) (pk 3)) anil))) [.val (.int t), .val (.int b), .val (.int (x : Int)), .val (.int (y : Int))] = .nx [.val (.int t), .val (.int b), .val (.int (Nat.gcd x y : Int)), .val (.int 0)]
  | 0, x, y, h => absurd h (Nat.not_lt_zero _)
  | n + 1, x, y, h => by
    rw [swhile_step]
    by_cases hy : y = 0
    · subst hy
      have h0 : ¬ (0 : Int) < ((0 : Nat) : Int) := by decide
      dsimp?! only [wturn, h0]
      rw [Nat.gcd_zero_right]
    · have h1 : (0 : Int) < (y : Int) := by omega
      have hm := gMod_ok (a := (x : Int)) h1
      dsimp?! only [wturn, h1, hm]
      rw [← Int.natCast_emod, gcd_loop t b n y (x % y) (by have := Nat.mod_lt x (Nat.pos_of_ne_zero hy); omega)]
      rw [Nat.gcd_comm x y, Nat.gcd_rec y x, Nat.gcd_comm]
theorem reduced_ok {t : Int} {n k : Nat} (hn : n ≠ 0) (hk : bt k (n : Int)) (k9 : k < 9000) : R_reduced [.int t, .int (n : Int)] = .ok (fq (mkRat t n)) .non := by
  have ha : gAbs (.int t) = some (.int (t.natAbs : Int)) := by
    show some (D.int (if t < 0 then -t else t)) = _
    congr 2
    split <;> omega
  have hg : 0 < Nat.gcd t.natAbs n := Nat.gcd_pos_of_pos_right _ (Nat.pos_of_ne_zero hn)
  have hgi : (0 : Int) < (Nat.gcd t.natAbs n : Int) := by omega
  have hw := gcd_loop t (n : Int) (n + 1) t.natAbs n (Nat.lt_succ_self _)
  have hgk : bt k (Nat.gcd t.natAbs n : Int) := by
    have := Nat.gcd_le_right t.natAbs (Nat.pos_of_ne_zero hn)
    unfold bt at *
    omega
  have d1 : ∀ a : Int, gDiv (.int a) (.int (Nat.gcd t.natAbs n : Int)) = some (.int (a / (Nat.gcd t.natAbs n : Int))) := fun a => gDiv_ok hgi hgk k9
  have l2 : (2 : Nat) ≤ LIM := by decide
  obtain ⟨e1, e2⟩ := mk_num (t := t) hn
  unfold R_reduced b_reduced fq
  dsimp?! only [ha, hw, hgi, d1, l2]
  rw [e1, e2, Int.natCast_ediv]
theorem fq0 {q : Rat} : gIx (fq q) (.int 0) = some (.int q.num) := at0
theorem fq1 {q : Rat} : gIx (fq q) (.int 1) = some (.int (q.den : Int)) := at1
section
variable {p q : Rat} {j k : Nat}
theorem mk_add : mkRat (p.num * q.den + q.num * p.den) (p.den * q.den) = p + q := by
  have h : p.den * q.den ≠ 0 := Nat.mul_ne_zero p.den_nz q.den_nz
  rw [Rat.add_def]; unfold mkRat; rw [dif_neg h]
theorem mk_sub : mkRat (p.num * q.den - q.num * p.den) (p.den * q.den) = p - q := by
  have h : p.den * q.den ≠ 0 := Nat.mul_ne_zero p.den_nz q.den_nz
  rw [Rat.sub_def]; unfold mkRat; rw [dif_neg h]
theorem mk_mul : mkRat (p.num * q.num) (p.den * q.den) = p * q := by
  have h : p.den * q.den ≠ 0 := Nat.mul_ne_zero p.den_nz q.den_nz
  rw [Rat.mul_def]; unfold mkRat; rw [dif_neg h]
theorem Bq.add (h : Bq j p) (e : Bq k q) : Bq (j + k + 1) (p + q) := by
  rw [← mk_add]
  refine mk_bq (Nat.mul_ne_zero p.den_nz q.den_nz) ?_ ?_
  · have h1 := h.1.mul e.2
    have h2 := e.1.mul h.2
    exact (h1.add h2).le (by omega)
  · rw [Int.natCast_mul]; exact (h.2.mul e.2).le (by omega)
theorem Bq.sub (h : Bq j p) (e : Bq k q) : Bq (j + k + 1) (p - q) := by
  rw [← mk_sub]
  refine mk_bq (Nat.mul_ne_zero p.den_nz q.den_nz) ?_ ?_
  · have h1 := h.1.mul e.2
    have h2 := e.1.mul h.2
    exact (h1.sub h2).le (by omega)
  · rw [Int.natCast_mul]; exact (h.2.mul e.2).le (by omega)
theorem Bq.mul (h : Bq j p) (e : Bq k q) : Bq (j + k) (p * q) := by
  rw [← mk_mul]
  refine mk_bq (Nat.mul_ne_zero p.den_nz q.den_nz) (h.1.mul e.1) ?_
  rw [Int.natCast_mul]; exact h.2.mul e.2
theorem plus_ok (h : Bq j p) (e : Bq k q) (hjk : j + k < 8000) : R_plus [fq p, fq q] = .ok (fq (p + q)) .non := by
  have m1 := gMulI_ok h.1 e.2 (by omega)
  have m2 := gMulI_ok e.1 h.2 (by omega)
  have m3 := gMulI_ok h.2 e.2 (by omega)
  have hb := h.2.mul e.2
  rw [← Int.natCast_mul] at hb m3
  have hr := reduced_ok (t := p.num * q.den + q.num * p.den) (Nat.mul_ne_zero p.den_nz q.den_nz) hb (by omega)
  rw [mk_add] at hr
  unfold R_plus b_plus
  dsimp?! only [fq0, fq1, m1, m2, m3, hr]
theorem minus_ok (h : Bq j p) (e : Bq k q) (hjk : j + k < 8000) : R_minus [fq p, fq q] = .ok (fq (p - q)) .non := by
  have m1 := gMulI_ok h.1 e.2 (by omega)
  have m2 := gMulI_ok e.1 h.2 (by omega)
  have m3 := gMulI_ok h.2 e.2 (by omega)
  have hb := h.2.mul e.2
  rw [← Int.natCast_mul] at hb m3
  have hr := reduced_ok (t := p.num * q.den - q.num * p.den) (Nat.mul_ne_zero p.den_nz q.den_nz) hb (by omega)
  rw [mk_sub] at hr
  unfold R_minus b_minus
  dsimp?! only [fq0, fq1, m1, m2, m3, hr]
theorem times_ok (h : Bq j p) (e : Bq k q) (hjk : j + k < 8000) : R_times [fq p, fq q] = .ok (fq (p * q)) .non := by
  have m1 := gMulI_ok h.1 e.1 (by omega)
  have m3 := gMulI_ok h.2 e.2 (by omega)
  have hb := h.2.mul e.2
  rw [← Int.natCast_mul] at hb m3
  have hr := reduced_ok (t := p.num * q.num) (Nat.mul_ne_zero p.den_nz q.den_nz) hb (by omega)
  rw [mk_mul] at hr
  unfold R_times b_times
  dsimp?! only [fq0, fq1, m1, m3, hr]
theorem is_less_ok (h : Bq j p) (e : Bq k q) (hjk : j + k < 8000) : R_is_less [fq p, fq q] = .ok (.bl (decide (p < q))) .non := by
  have m1 := gMulI_ok h.1 e.2 (by omega)
  have m2 := gMulI_ok e.1 h.2 (by omega)
  unfold R_is_less b_is_less
  dsimp?! only [fq0, fq1, m1, m2]
  rw [decide_eq_decide.mpr (Rat.lt_iff p q).symm]
end
/-- by division -/
theorem low_loop (t b : Int) : ∀ (n : Nat) (x : Int) (y : Nat), y < n → 0 < y → ∃ z, swhile (tv (bin (gEq true) (bin gMod (rd 2) (pk 3)) (cst (.int 0)))) (spar 2 3 (acons (rd 3) (acons (bin gMod (rd 2) (pk 3)) anil))) [.val (.int t), .val (.int b), .val (.int x), .val (.int (y : Int))] = .nx [.val (.int t), .val (.int b), .val (.int z), .val (.int (Int.gcd x y : Int))]
  | 0, x, y, h, _ => absurd h (Nat.not_lt_zero _)
  | n + 1, x, y, h, hp => by
    have h1 : (0 : Int) < (y : Int) := by omega
    have hm := gMod_ok (a := x) h1
    have e0 := Int.emod_nonneg x (show (y : Int) ≠ 0 by omega)
    have e1 := Int.emod_lt_of_pos x h1
    have hg : Int.gcd x (y : Int) = Int.gcd (y : Int) (x % (y : Int)) := by
      rw [Int.gcd_comm (y : Int), Int.emod_def, Int.gcd_sub_mul_left_left]
    rw [swhile_step]
    by_cases hy : x % (y : Int) = 0
    · refine ⟨x, ?_⟩
      have hy' : (x % (y : Int) == 0) = true := by rw [hy]; rfl
      dsimp?! only [wturn, hm, hy']
      rw [hg, hy, Int.gcd_zero_right]; rfl
    · have hy' : (x % (y : Int) == 0) = false := by simpa using hy
      obtain ⟨m, hm'⟩ : ∃ m : Nat, x % (y : Int) = (m : Int) := ⟨(x % (y : Int)).toNat, by omega⟩
      obtain ⟨z, hz⟩ := low_loop t b n (y : Int) m (by omega) (by omega)
      refine ⟨z, ?_⟩
      dsimp?! only [wturn, hm, hy']
      rw [hm', hz, hg, hm']
theorem low3_ok {t : Int} {n k : Nat} (hn : n ≠ 0) (hk : bt k (n : Int)) (k9 : k < 9000) : R__law_low3 [.int t, .int (n : Int)] = .ok (fq (mkRat t n)) .non := by
  obtain ⟨z, hw⟩ := low_loop t (n : Int) (n + 1) t n (Nat.lt_succ_self _) (Nat.pos_of_ne_zero hn)
  have eg : Int.gcd t (n : Int) = Nat.gcd t.natAbs n := rfl
  rw [eg] at hw
  have hg : 0 < Nat.gcd t.natAbs n := Nat.gcd_pos_of_pos_right _ (Nat.pos_of_ne_zero hn)
  have hgi : (0 : Int) < (Nat.gcd t.natAbs n : Int) := by omega
  have hgk : bt k (Nat.gcd t.natAbs n : Int) := by
    have := Nat.gcd_le_right t.natAbs (Nat.pos_of_ne_zero hn)
    unfold bt at *
    omega
  have d1 : ∀ a : Int, gDiv (.int a) (.int (Nat.gcd t.natAbs n : Int)) = some (.int (a / (Nat.gcd t.natAbs n : Int))) := fun a => gDiv_ok hgi hgk k9
  have l2 : (2 : Nat) ≤ LIM := by decide
  obtain ⟨e1, e2⟩ := mk_num (t := t) hn
  unfold R__law_low3 b__law_low3 fq
  dsimp?! only [hw, d1, l2]
  rw [e1, e2, Int.natCast_ediv]
/-- pairs (top, bottom) -/
def pq (x : Int × Nat) : D := .tup [.int x.1, .int (x.2 : Int)]
theorem mk_add2 {a c : Int} {b d : Nat} (hb : b ≠ 0) (hd : d ≠ 0) : mkRat (a * d + c * b) (b * d) = mkRat a b + mkRat c d := (Rat.mkRat_add_mkRat a c hb hd).symm
theorem sum_loop {k : Nat} (z : Sl) : ∀ (xs : List (Int × Nat)) (a : Int) (b j : Nat), b ≠ 0 → bt j a → bt j (b : Int) → (∀ x ∈ xs, x.2 ≠ 0 ∧ bt k x.1 ∧ bt k (x.2 : Int)) → j + xs.length * (k + 1) < 8000 →
    ∃ (a' : Int) (b' : Nat), b' ≠ 0 ∧ bt 8000 (b' : Int) ∧ mkRat a' b' = mkRat a b + (xs.map fun x => mkRat x.1 x.2).sum ∧
      forL (xs.map pq) (gtp 2 (gcons (gnm 3) (gcons (gnm 4) gnil))) (skl [3, 4] (skl [3, 4] (spar 1 2 (acons (bin gAdd (bin gMulI (rd 1) (pk 4)) (bin gMulI (rd 3) (pk 2))) (acons (bin gMulI (rd 2) (pk 4)) anil))))) [z, .val (.int a), .val (.int (b : Int)), .un, .un] = .nx [z, .val (.int a'), .val (.int (b' : Int)), .un, .un]
  | [], a, b, j, hb, h1, h2, _, hj => ⟨a, b, hb, h2.le (by simp at hj; omega), by rw [List.map_nil, List.sum_nil, Rat.add_zero], rfl⟩
  | x :: xs, a, b, j, hb, h1, h2, hx, hj => by
    rw [List.length_cons, Nat.succ_mul] at hj
    obtain ⟨x1, x2, x3⟩ := hx x List.mem_cons_self
    have m1 := gMulI_ok h1 x3 (by omega)
    have m2 := gMulI_ok x2 h2 (by omega)
    have m3 := gMulI_ok h2 x3 (by omega)
    rw [← Int.natCast_mul] at m3
    have hd : b * x.2 ≠ 0 := Nat.mul_ne_zero hb x1
    obtain ⟨a', b', h3, h4, h5, h6⟩ := sum_loop (k := k) z xs (a * x.2 + x.1 * b) (b * x.2) (j + k + 1) hd (((h1.mul x3).add (x2.mul h2)).le (by omega)) (by rw [Int.natCast_mul]; exact (h2.mul x3).le (by omega)) (fun y hy => hx y (List.mem_cons_of_mem _ hy)) (by omega)
    refine ⟨a', b', h3, h4, ?_, ?_⟩
    · rw [h5, mk_add2 hb x1, List.map_cons, List.sum_cons, Rat.add_assoc]
    · rw [List.map_cons, forL_step]
      dsimp?! only [fturn, pq, m1, m2, m3]
      exact h6
theorem sum_ok {k : Nat} {xs : List (Int × Nat)} (hx : ∀ x ∈ xs, x.2 ≠ 0 ∧ bt k x.1 ∧ bt k (x.2 : Int)) (hj : 1 + xs.length * (k + 1) < 8000) : R__law_sum [.lst (xs.map pq)] = .ok (fq (xs.map fun x => mkRat x.1 x.2).sum) .non := by
  obtain ⟨a, b, h1, h2, h3, h4⟩ := sum_loop (.val (.lst (xs.map pq))) xs 0 1 1 (by decide) (by unfold bt; decide) (by unfold bt; decide) hx hj
  have hl := low3_ok (t := a) h1 h2 (by decide)
  have l2 : (2 : Nat) ≤ LIM := by decide
  rw [show mkRat 0 1 = 0 from rfl, Rat.zero_add] at h3
  rw [h3] at hl
  unfold R__law_sum b__law_sum
  have h4' := h4
  rw [show ((1 : Nat) : Int) = 1 from rfl] at h4'
  dsimp?! only [l2, hl, h4']
end KC

set_option Elab.async false
set_option linter.all false
set_option maxRecDepth 100000
set_option maxHeartbeats 4000000
set_option pp.maxSteps 2000
/-! sorted lists; rows of some names -/
namespace KC
open PySem DL
open L2 (atI ixN)
local macro_rules
  | `(tactic| dsimp?! only [$xs,*]) => do
    let ys : Lean.Syntax.TSepArray `Lean.Parser.Tactic.simpLemma "," := ⟨xs.elemsAndSeps⟩
    `(tactic| simp only [bind_ok, bind_exn, bind_bad, s_ok, s_exn, s_bad, rd_ap, pk_ap, cst_ap, lift_some, lift_none, bin_ap, has_ap, binL_ap, un_ap, anil_ap, acons_ap, mkTup_ap, mkLst_ap, asB_bl, tv_ap, tnot_ap, tand_ap, tor_ap, vand_ap, vor_ap, vnot_ap, vif_ap, vchain_ap, sasg_ap, sown_ap, sif_ap, sret_ap, sexp_ap, snx_ap, sseq_ap, spar_ap, stg_ap, gnm_ap, gnil_ap, gcons_ap, gtp_ap, call_ap, doF_ok, doF_exn, callB_ap, apk_ap, doFB_ok, isOwn_ap, callI_ap, doI_ap, putOwn_ap, setD_ap, sset_ap, isLst_ap, mutl_ap, mutm_ap, sraise_ap, slcL_ap, slc_ap, pno_ap, psome_ap, unN_ap, iseq_ap, irng1_ap, irng2_ap, lrng_ap, gAdd_int, gInt_ap, at0, at1, at2, at3, gIx_lst, gIx_tup, gIx_scr, gLen_lst, gLen_tup, gLen_scr, gToInt_int, List.getElem?_cons_zero, List.getElem?_cons_succ, List.set_cons_zero, List.set_cons_succ, List.length_cons, List.length_nil, ite_true, ite_false, if_true, if_false, Bool.true_and, Bool.and_true, Bool.false_and, Bool.and_false, decide_true, decide_false, Option.map_some, Option.map_none, Bool.not_true, Bool.not_false, reduceIte, Nat.reduceAdd, Nat.reduceLeDiff, Bool.false_eq_true, Bool.true_eq_false, Bool.false_or, Bool.true_or, Bool.or_false, Bool.or_true, noXc_nil, noXc_un, noXc_val, noXc_own, noXc_io, dropAt_nx, dropAt_bk, dropAt_ct, dropAt_rt, keepAt_nx, keepAt_bk, keepAt_ct, keepAt_rt, stry_ap, stry0_ap, xfld_ap, LIM, nc_lit, Int.reduceAdd, Int.reduceSub, Int.reduceNeg, Int.reduceLT, Int.reduceLE, Int.reduceBEq, Nat.reduceLT, sfor_ap, skl_ap, wipeR_nil, wipeR_cons, smix_ap, putsR_nil, putsR_cons, methP_ap, isSq_lst, isSq_tup, ienum_ap, callM_ap', mkOb_ap, sfld_ap, saug_ap, callV_ap, stryN_ap, byH_nil, byH_cons, gStr_str, gAugAdd_int, gNeg_int', gSeq_lst, gSeq_tup, gTuple_lst, gTuple_tup, gList_lst, gList_tup, gSl_lst, gSl_tup, gAdd_lst, gAppend_lst, gExtend_lst, runP_1, runP_2, runP_3, runP_4, runP_5, runI_1, runI_2, runI_3, runI_4, runI_5, outP_nx, outP_rt, outP_exn, outI_nx, outI_rt, outI_exn, List.reduceReplicate, Nat.reduceSub, List.map_cons, List.map_nil, List.cons_append, List.nil_append, i2_non, i2_bl, i2_int, i2_str, i2_tup, i2_lst, i1_non, i1_bl, i1_int, i1_str, i1_tup, i1_lst, isa_NoneType_int, isa_NoneType_bool, isa_NoneType_str, isa_NoneType_tuple, isa_NoneType_list, isa_bool_int, isa_bool_bool, isa_bool_str, isa_bool_tuple, isa_bool_list, isa_int_int, isa_int_bool, isa_int_str, isa_int_tuple, isa_int_list, isa_str_int, isa_str_bool, isa_str_str, isa_str_tuple, isa_str_list, isa_tuple_int, isa_tuple_bool, isa_tuple_str, isa_tuple_tuple, isa_tuple_list, isa_list_int, isa_list_bool, isa_list_str, isa_list_tuple, isa_list_list, isN_non, isN_bl, isN_int, isN_str, isN_tup, isN_lst, gEq_bl, gEq_int, gEq_str, gEq_nn, Bool.xor_false, Bool.xor_true, Bool.false_xor, Bool.true_xor, Bool.or_self, Bool.and_self, beq_self_eq_true, Nat.zero_le, Bool.not_not, $ys,*])
  | `(tactic| dsimp?! only [$xs,*] $l:location) => do
    let ys : Lean.Syntax.TSepArray `Lean.Parser.Tactic.simpLemma "," := ⟨xs.elemsAndSeps⟩
    `(tactic| simp only [bind_ok, bind_exn, bind_bad, s_ok, s_exn, s_bad, rd_ap, pk_ap, cst_ap, lift_some, lift_none, bin_ap, has_ap, binL_ap, un_ap, anil_ap, acons_ap, mkTup_ap, mkLst_ap, asB_bl, tv_ap, tnot_ap, tand_ap, tor_ap, vand_ap, vor_ap, vnot_ap, vif_ap, vchain_ap, sasg_ap, sown_ap, sif_ap, sret_ap, sexp_ap, snx_ap, sseq_ap, spar_ap, stg_ap, gnm_ap, gnil_ap, gcons_ap, gtp_ap, call_ap, doF_ok, doF_exn, callB_ap, apk_ap, doFB_ok, isOwn_ap, callI_ap, doI_ap, putOwn_ap, setD_ap, sset_ap, isLst_ap, mutl_ap, mutm_ap, sraise_ap, slcL_ap, slc_ap, pno_ap, psome_ap, unN_ap, iseq_ap, irng1_ap, irng2_ap, lrng_ap, gAdd_int, gInt_ap, at0, at1, at2, at3, gIx_lst, gIx_tup, gIx_scr, gLen_lst, gLen_tup, gLen_scr, gToInt_int, List.getElem?_cons_zero, List.getElem?_cons_succ, List.set_cons_zero, List.set_cons_succ, List.length_cons, List.length_nil, ite_true, ite_false, if_true, if_false, Bool.true_and, Bool.and_true, Bool.false_and, Bool.and_false, decide_true, decide_false, Option.map_some, Option.map_none, Bool.not_true, Bool.not_false, reduceIte, Nat.reduceAdd, Nat.reduceLeDiff, Bool.false_eq_true, Bool.true_eq_false, Bool.false_or, Bool.true_or, Bool.or_false, Bool.or_true, noXc_nil, noXc_un, noXc_val, noXc_own, noXc_io, dropAt_nx, dropAt_bk, dropAt_ct, dropAt_rt, keepAt_nx, keepAt_bk, keepAt_ct, keepAt_rt, stry_ap, stry0_ap, xfld_ap, LIM, nc_lit, Int.reduceAdd, Int.reduceSub, Int.reduceNeg, Int.reduceLT, Int.reduceLE, Int.reduceBEq, Nat.reduceLT, sfor_ap, skl_ap, wipeR_nil, wipeR_cons, smix_ap, putsR_nil, putsR_cons, methP_ap, isSq_lst, isSq_tup, ienum_ap, callM_ap', mkOb_ap, sfld_ap, saug_ap, callV_ap, stryN_ap, byH_nil, byH_cons, gStr_str, gAugAdd_int, gNeg_int', gSeq_lst, gSeq_tup, gTuple_lst, gTuple_tup, gList_lst, gList_tup, gSl_lst, gSl_tup, gAdd_lst, gAppend_lst, gExtend_lst, runP_1, runP_2, runP_3, runP_4, runP_5, runI_1, runI_2, runI_3, runI_4, runI_5, outP_nx, outP_rt, outP_exn, outI_nx, outI_rt, outI_exn, List.reduceReplicate, Nat.reduceSub, List.map_cons, List.map_nil, List.cons_append, List.nil_append, i2_non, i2_bl, i2_int, i2_str, i2_tup, i2_lst, i1_non, i1_bl, i1_int, i1_str, i1_tup, i1_lst, isa_NoneType_int, isa_NoneType_bool, isa_NoneType_str, isa_NoneType_tuple, isa_NoneType_list, isa_bool_int, isa_bool_bool, isa_bool_str, isa_bool_tuple, isa_bool_list, isa_int_int, isa_int_bool, isa_int_str, isa_int_tuple, isa_int_list, isa_str_int, isa_str_bool, isa_str_str, isa_str_tuple, isa_str_list, isa_tuple_int, isa_tuple_bool, isa_tuple_str, isa_tuple_tuple, isa_tuple_list, isa_list_int, isa_list_bool, isa_list_str, isa_list_tuple, isa_list_list, isN_non, isN_bl, isN_int, isN_str, isN_tup, isN_lst, gEq_bl, gEq_int, gEq_str, gEq_nn, Bool.xor_false, Bool.xor_true, Bool.false_xor, Bool.true_xor, Bool.or_self, Bool.and_self, beq_self_eq_true, Nat.zero_le, Bool.not_not, $ys,*] $l:location)

/-! ### sorted -/
abbrev dLe (a b : D) : Bool := PySem.W.dataLe false toPy a b
theorem srt_pw (xs : List D) : (srt xs).Pairwise fun a b => dLe a b = true :=
  PySem.W.sort_pairwise (PySem.W.sortLe_total (PyProof.Rows.listOrd PyProof.Rows.itemOrd) false fun b => PySem.W.keyToks (toPy b)) xs
theorem srt_perm (xs : List D) : (srt xs).Perm xs := List.mergeSort_perm xs _
theorem dLe_total (a b : D) (h : dLe b a = false) : dLe a b = true := by
  have := (PySem.W.sortLe_total (PyProof.Rows.listOrd PyProof.Rows.itemOrd) false fun b => PySem.W.keyToks (toPy b)).total a b
  rcases this with h1 | h1
  · exact h1
  · have h2 : dLe b a = true := h1
    rw [h] at h2; cases h2
theorem srt_strict {xs ys : List D} (hp : ys.Perm xs) (hs : ys.Pairwise fun a b => dLe b a = false) : srt xs = ys := by
  refine (List.Perm.eq_of_pairwise (le := fun a b => dLe a b = true) (fun a b ha hb h1 h2 => ?_) (hs.imp fun h => dLe_total _ _ h) (srt_pw xs) (hp.trans (srt_perm xs).symm)).symm
  have hb' : b ∈ ys := (hp.trans (srt_perm xs).symm).symm.subset hb
  obtain ⟨i, hi, ei⟩ := List.getElem_of_mem ha
  obtain ⟨j, hj, ej⟩ := List.getElem_of_mem hb'
  rw [List.pairwise_iff_getElem] at hs
  rcases Nat.lt_trichotomy i j with h | h | h
  · have := hs i j hi hj h; rw [ei, ej] at this; rw [this] at h2; cases h2
  · subst h; rw [← ei, ← ej]
  · have := hs j i hj hi h; rw [ei, ej] at this; rw [this] at h1; cases h1
/-! ### rows of some names, by sizes -/
section
variable {α : Type}
def extsL (p : List α) : List α → List (List α × List α)
  | [] => []
  | x :: v => (p ++ [x], v) :: extsL p v
def nxtL (L : List (List α × List α)) : List (List α × List α) := L.flatMap fun q => extsL q.1 q.2
def levL (xs : List α) : Nat → List (List α × List α)
  | 0 => [([], xs)]
  | k + 1 => nxtL (levL xs k)
/-- the rows of sizes below n -/
def subsN (xs : List α) (n : Nat) : List (List α) := (List.range n).flatMap fun k => (levL xs k).map (·.1)
def subsF (xs : List α) : List (List α) := subsN xs (xs.length + 1)
theorem extsL_fst (p : List α) : ∀ s : List α, (extsL p s).map (·.1) = s.map fun x => p ++ [x]
  | [] => rfl
  | x :: v => by rw [extsL, List.map_cons, List.map_cons, extsL_fst p v]
theorem extsL_len (p s : List α) : (extsL p s).length = s.length := by
  have := congrArg List.length (extsL_fst p s)
  simpa using this
theorem extsL_mem {p : List α} {q : List α × List α} : ∀ {s : List α}, q ∈ extsL p s → ∃ x j, q.1 = p ++ [x] ∧ s[j]? = some x ∧ q.2 = s.drop (j + 1)
  | [], h => by cases h
  | x :: v, h => by
    rcases List.mem_cons.mp h with rfl | h
    · exact ⟨x, 0, rfl, rfl, rfl⟩
    · obtain ⟨y, j, h1, h2, h3⟩ := extsL_mem h
      exact ⟨y, j + 1, h1, h2, h3⟩
/-- a row, and where its rest begins -/
def LvOk (xs : List α) (k : Nat) (q : List α × List α) : Prop := q.1.length = k ∧ ∃ b, q.2 = xs.drop b ∧ k ≤ b ∧ (q.1 = [] ∧ b = 0 ∨ ∃ x i, q.1.getLast? = some x ∧ xs[i]? = some x ∧ b = i + 1)
theorem levL_ok (xs : List α) : ∀ k, ∀ q ∈ levL xs k, LvOk xs k q
  | 0, q, h => by
    have : q = ([], xs) := by simpa [levL] using h
    subst this
    exact ⟨rfl, 0, rfl, Nat.le_refl _, .inl ⟨rfl, rfl⟩⟩
  | k + 1, q, h => by
    obtain ⟨q0, h0, h1⟩ := List.mem_flatMap.mp h
    obtain ⟨h2, b, h3, hkb, _⟩ := levL_ok xs k q0 h0
    obtain ⟨x, j, h4, h5, h6⟩ := extsL_mem h1
    rw [h3] at h5 h6
    rw [List.getElem?_drop] at h5
    refine ⟨by rw [h4, List.length_append, h2]; rfl, b + j + 1, ?_, by omega, .inr ⟨x, b + j, by rw [h4]; simp, h5, rfl⟩⟩
    rw [h6, List.drop_drop]; congr 1
theorem levL_end (xs : List α) {k : Nat} (h : xs.length < k) : levL xs k = [] := by
  cases k with
  | zero => cases h
  | succ k =>
    rw [List.eq_nil_iff_forall_not_mem]
    intro q hq
    obtain ⟨h1, b, h2, h3, h4⟩ := levL_ok xs (k + 1) q hq
    rcases h4 with ⟨h4, _⟩ | ⟨x, i, h4, h5, h6⟩
    · rw [h4] at h1; cases h1
    · have := (List.getElem?_eq_some_iff.mp h5).1
      omega
theorem levL_ne (xs : List α) : ∀ {k : Nat}, k ≤ xs.length → ([] ++ xs.take k, xs.drop k) ∈ levL xs k
  | 0, _ => by simp [levL]
  | k + 1, h => by
    have h0 := levL_ne xs (k := k) (by omega)
    refine List.mem_flatMap.mpr ⟨_, h0, ?_⟩
    have hk : k < xs.length := h
    rw [List.drop_eq_getElem_cons hk]
    show _ ∈ (_ ++ [xs[k]], xs.drop (k + 1)) :: _
    rw [List.nil_append, List.nil_append, List.take_add_one, List.getElem?_eq_getElem hk]
    exact List.mem_cons_self
theorem levL_sub {xs : List α} : ∀ {l s p : List α} {k : Nat}, l.Sublist s → (p, s) ∈ levL xs k → ∃ s', (p ++ l, s') ∈ levL xs (k + l.length)
  | [], s, p, k, _, h => ⟨s, by rw [List.append_nil]; exact h⟩
  | x :: l, s, p, k, hs, h => by
    have key : ∀ s : List α, (x :: l).Sublist s → ∃ v, (p ++ [x], v) ∈ extsL p s ∧ l.Sublist v := by
      intro s
      induction s with
      | nil => intro h; cases h
      | cons y v ih =>
        intro hs
        cases hs with
        | cons _ h' =>
          obtain ⟨v', h1, h2⟩ := ih h'
          exact ⟨v', List.mem_cons_of_mem _ h1, h2⟩
        | cons_cons _ h' => exact ⟨v, List.mem_cons_self, h'⟩
    obtain ⟨v, h1, h2⟩ := key s hs
    obtain ⟨s', h3⟩ := levL_sub (k := k + 1) h2 (List.mem_flatMap.mpr ⟨_, h, h1⟩)
    refine ⟨s', ?_⟩
    rw [List.append_assoc, show k + 1 + l.length = k + (x :: l).length by rw [List.length_cons]; omega] at h3
    exact h3
theorem subsF_mem {xs l : List α} (h : l.Sublist xs) : l ∈ subsF xs := by
  obtain ⟨s', h1⟩ := levL_sub (xs := xs) (p := []) (k := 0) h (by simp [levL])
  rw [Nat.zero_add, List.nil_append] at h1
  exact List.mem_flatMap.mpr ⟨l.length, List.mem_range.mpr (by have := h.length_le; omega), List.mem_map.mpr ⟨_, h1, rfl⟩⟩
theorem levL_sublist {xs : List α} : ∀ (k : Nat) (q : List α × List α), q ∈ levL xs k → ∃ u, u ++ q.2 = xs ∧ q.1.Sublist u
  | 0, q, h => by
    have : q = ([], xs) := by simpa [levL] using h
    subst this
    exact ⟨[], rfl, List.nil_sublist _⟩
  | k + 1, q, h => by
    obtain ⟨q0, h0, h1⟩ := List.mem_flatMap.mp h
    obtain ⟨u, h2, h3⟩ := levL_sublist k q0 h0
    obtain ⟨x, j, h4, h5, h6⟩ := extsL_mem h1
    refine ⟨u ++ q0.2.take (j + 1), ?_, ?_⟩
    · rw [h6, List.append_assoc, List.take_append_drop, h2]
    · rw [h4]
      refine h3.append ?_
      rw [List.take_add_one, h5]
      exact List.sublist_append_right _ _
theorem mem_subsF {xs l : List α} (h : l ∈ subsF xs) : l.Sublist xs := by
  obtain ⟨k, _, h1⟩ := List.mem_flatMap.mp h
  obtain ⟨q, h2, rfl⟩ := List.mem_map.mp h1
  obtain ⟨u, h3, h4⟩ := levL_sublist k q h2
  rw [← h3]
  exact h4.trans (List.sublist_append_left _ _)
theorem levL_map {β : Type} (f : α → β) (xs : List α) : ∀ k, levL (xs.map f) k = (levL xs k).map fun q => (q.1.map f, q.2.map f)
  | 0 => rfl
  | k + 1 => by
    show nxtL _ = (nxtL _).map _
    rw [levL_map f xs k]
    unfold nxtL
    rw [List.flatMap_map, List.map_flatMap]
    congr 1
    funext q
    have : ∀ s : List α, extsL (q.1.map f) (s.map f) = (extsL q.1 s).map fun q => (q.1.map f, q.2.map f) := by
      intro s
      induction s with
      | nil => rfl
      | cons x v ih => rw [List.map_cons, extsL, extsL, List.map_cons, ih]; simp
    exact this q.2
theorem subsF_map {β : Type} (f : α → β) (xs : List α) : subsF (xs.map f) = (subsF xs).map (List.map f) := by
  unfold subsF subsN
  rw [List.length_map, List.map_flatMap]
  congr 1
  funext k
  rw [levL_map, List.map_map, List.map_map]
  rfl
theorem levL_bound (xs : List α) : ∀ k, (levL xs k).length ≤ xs.length ^ k
  | 0 => Nat.le_refl _
  | k + 1 => by
    have ih := levL_bound xs k
    have : ∀ L : List (List α × List α), (∀ q ∈ L, q.2.length ≤ xs.length) → (nxtL L).length ≤ L.length * xs.length := by
      intro L
      induction L with
      | nil => intro _; exact Nat.zero_le _
      | cons q L ih =>
        intro hq
        unfold nxtL at ih ⊢
        rw [List.flatMap_cons, List.length_append, extsL_len, List.length_cons, Nat.succ_mul]
        have := ih fun q' h => hq q' (List.mem_cons_of_mem _ h)
        have := hq q List.mem_cons_self
        omega
    have h2 := this (levL xs k) fun q hq => by
      obtain ⟨_, b, hb, _⟩ := levL_ok xs k q hq
      rw [hb, List.length_drop]; omega
    exact Nat.le_trans h2 (Nat.mul_le_mul_right _ ih)
end
/-- values that == tells apart -/
structure Emb {α : Type} [DecidableEq α] (φ : α → D) : Prop where
  eq : ∀ x y, (φ x).eqb (φ y) = decide (x = y)
  ok : ∀ x, okd 20 (φ x) = true
theorem emb_str : Emb D.str := ⟨fun x y => by rw [eqb_str]; rfl, fun x => okd_str⟩
theorem emb_int : Emb D.int := ⟨fun x y => by rw [eqb_int]; rfl, fun x => okd_int⟩
theorem Emb.any {α : Type} [DecidableEq α] {φ : α → D} (E : Emb φ) {x : α} (xs : List α) : (xs.map φ).any (fun y => y.eqb (φ x)) = decide (x ∈ xs) := by
  rw [Bool.eq_iff_iff, List.any_eq_true, decide_eq_true_eq]
  constructor
  · rintro ⟨d, hd, e⟩
    obtain ⟨s, hs, rfl⟩ := List.mem_map.mp hd
    rw [E.eq, decide_eq_true_eq] at e
    rw [← e]; exact hs
  · intro h
    exact ⟨φ x, List.mem_map.mpr ⟨x, h, rfl⟩, by rw [E.eq]; simp⟩
theorem Emb.all {α : Type} [DecidableEq α] {φ : α → D} (E : Emb φ) (xs : List α) : (xs.map φ).all (okd 20) = true := by
  rw [List.all_eq_true]
  intro d hd
  obtain ⟨s, _, rfl⟩ := List.mem_map.mp hd
  exact E.ok s
theorem Emb.mem {α : Type} [DecidableEq α] {φ : α → D} (E : Emb φ) {neg : Bool} {x : α} (xs : List α) : gIn neg (φ x) (.lst (xs.map φ)) = some (.bl (decide (x ∈ xs) ^^ neg)) := by
  rw [gIn_lst (E.ok x) (E.all xs), E.any]
theorem Emb.memT {α : Type} [DecidableEq α] {φ : α → D} (E : Emb φ) {neg : Bool} {x : α} (xs : List α) : gIn neg (φ x) (.tup (xs.map φ)) = some (.bl (decide (x ∈ xs) ^^ neg)) := by
  rw [gIn_tup (E.ok x) (E.all xs), E.any]
theorem Emb.geq {α : Type} [DecidableEq α] {φ : α → D} (E : Emb φ) {neg : Bool} {x y : α} : gEq neg (φ x) (φ y) = some (.bl (decide (x = y) ^^ neg)) := by
  unfold gEq
  rw [E.ok, E.ok, E.eq]; rfl
theorem Emb.idx {α : Type} [DecidableEq α] {φ : α → D} (E : Emb φ) {x : α} : ∀ {xs : List α} {i : Nat}, xs.Nodup → xs[i]? = some x → idxOf (φ x) (xs.map φ) = some i
  | [], i, _, h => by simp at h
  | y :: ys, 0, _, h => by
    cases h
    rw [List.map_cons, idxOf, E.eq, if_pos (by simp)]
  | y :: ys, i + 1, hn, h => by
    rw [List.nodup_cons] at hn
    have hy : y ≠ x := fun e => hn.1 (e ▸ List.mem_of_getElem? (i := i) h)
    rw [List.map_cons, idxOf, E.eq, if_neg (by simpa using hy), E.idx hn.2 (i := i) h]; rfl
theorem Emb.index {α : Type} [DecidableEq α] {φ : α → D} (E : Emb φ) {x : α} {xs : List α} {i : Nat} (hn : xs.Nodup) (h : xs[i]? = some x) : gIndex (.tup (xs.map φ)) [φ x] = some (.int (i : Int)) ∧ gIndex (.lst (xs.map φ)) [φ x] = some (.int (i : Int)) := by
  have e := E.idx hn h
  constructor <;>
  · show (if _ then _ else _) = _
    rw [E.all, E.ok, Bool.and_self, if_pos rfl, e]; rfl
theorem atI_last {α : Type} {xs : List α} {x : α} (h : xs.getLast? = some x) : atI xs (-1) = some x := by
  obtain ⟨ys, rfl⟩ := List.getLast?_eq_some_iff.mp h
  have : ixN (ys ++ [x]).length (-1) = some ys.length := by
    unfold ixN
    rw [if_neg (by decide), if_pos (by rw [List.length_append, List.length_singleton]; omega)]
    congr 1
    rw [List.length_append, List.length_singleton]; omega
  unfold atI
  rw [this]
  simp
end KC

set_option Elab.async false
set_option linter.all false
set_option maxRecDepth 100000
set_option maxHeartbeats 4000000
set_option pp.maxSteps 2000
namespace KC
open PySem DL
open L2 (atI ixN)
local macro_rules
  | `(tactic| dsimp?! only [$xs,*]) => do
    let ys : Lean.Syntax.TSepArray `Lean.Parser.Tactic.simpLemma "," := ⟨xs.elemsAndSeps⟩
    `(tactic| simp only [bind_ok, bind_exn, bind_bad, s_ok, s_exn, s_bad, rd_ap, pk_ap, cst_ap, lift_some, lift_none, bin_ap, has_ap, binL_ap, un_ap, anil_ap, acons_ap, mkTup_ap, mkLst_ap, asB_bl, tv_ap, tnot_ap, tand_ap, tor_ap, vand_ap, vor_ap, vnot_ap, vif_ap, vchain_ap, sasg_ap, sown_ap, sif_ap, sret_ap, sexp_ap, snx_ap, sseq_ap, spar_ap, stg_ap, gnm_ap, gnil_ap, gcons_ap, gtp_ap, call_ap, doF_ok, doF_exn, callB_ap, apk_ap, doFB_ok, isOwn_ap, callI_ap, doI_ap, putOwn_ap, setD_ap, sset_ap, isLst_ap, mutl_ap, mutm_ap, sraise_ap, slcL_ap, slc_ap, pno_ap, psome_ap, unN_ap, iseq_ap, irng1_ap, irng2_ap, lrng_ap, gAdd_int, gInt_ap, at0, at1, at2, at3, gIx_lst, gIx_tup, gIx_scr, gLen_lst, gLen_tup, gLen_scr, gToInt_int, List.getElem?_cons_zero, List.getElem?_cons_succ, List.set_cons_zero, List.set_cons_succ, List.length_cons, List.length_nil, ite_true, ite_false, if_true, if_false, Bool.true_and, Bool.and_true, Bool.false_and, Bool.and_false, decide_true, decide_false, Option.map_some, Option.map_none, Bool.not_true, Bool.not_false, reduceIte, Nat.reduceAdd, Nat.reduceLeDiff, Bool.false_eq_true, Bool.true_eq_false, Bool.false_or, Bool.true_or, Bool.or_false, Bool.or_true, noXc_nil, noXc_un, noXc_val, noXc_own, noXc_io, dropAt_nx, dropAt_bk, dropAt_ct, dropAt_rt, keepAt_nx, keepAt_bk, keepAt_ct, keepAt_rt, stry_ap, stry0_ap, xfld_ap, LIM, nc_lit, Int.reduceAdd, Int.reduceSub, Int.reduceNeg, Int.reduceLT, Int.reduceLE, Int.reduceBEq, Nat.reduceLT, sfor_ap, skl_ap, wipeR_nil, wipeR_cons, smix_ap, putsR_nil, putsR_cons, methP_ap, isSq_lst, isSq_tup, ienum_ap, callM_ap', mkOb_ap, sfld_ap, saug_ap, callV_ap, stryN_ap, byH_nil, byH_cons, gStr_str, gAugAdd_int, gNeg_int', gSeq_lst, gSeq_tup, gTuple_lst, gTuple_tup, gList_lst, gList_tup, gSl_lst, gSl_tup, gAdd_lst, gAppend_lst, gExtend_lst, runP_1, runP_2, runP_3, runP_4, runP_5, runI_1, runI_2, runI_3, runI_4, runI_5, outP_nx, outP_rt, outP_exn, outI_nx, outI_rt, outI_exn, List.reduceReplicate, Nat.reduceSub, List.map_cons, List.map_nil, List.cons_append, List.nil_append, i2_non, i2_bl, i2_int, i2_str, i2_tup, i2_lst, i1_non, i1_bl, i1_int, i1_str, i1_tup, i1_lst, isa_NoneType_int, isa_NoneType_bool, isa_NoneType_str, isa_NoneType_tuple, isa_NoneType_list, isa_bool_int, isa_bool_bool, isa_bool_str, isa_bool_tuple, isa_bool_list, isa_int_int, isa_int_bool, isa_int_str, isa_int_tuple, isa_int_list, isa_str_int, isa_str_bool, isa_str_str, isa_str_tuple, isa_str_list, isa_tuple_int, isa_tuple_bool, isa_tuple_str, isa_tuple_tuple, isa_tuple_list, isa_list_int, isa_list_bool, isa_list_str, isa_list_tuple, isa_list_list, isN_non, isN_bl, isN_int, isN_str, isN_tup, isN_lst, gEq_bl, gEq_int, gEq_str, gEq_nn, Bool.xor_false, Bool.xor_true, Bool.false_xor, Bool.true_xor, Bool.or_self, Bool.and_self, beq_self_eq_true, Nat.zero_le, Bool.not_not, $ys,*])
  | `(tactic| dsimp?! only [$xs,*] $l:location) => do
    let ys : Lean.Syntax.TSepArray `Lean.Parser.Tactic.simpLemma "," := ⟨xs.elemsAndSeps⟩
    `(tactic| simp only [bind_ok, bind_exn, bind_bad, s_ok, s_exn, s_bad, rd_ap, pk_ap, cst_ap, lift_some, lift_none, bin_ap, has_ap, binL_ap, un_ap, anil_ap, acons_ap, mkTup_ap, mkLst_ap, asB_bl, tv_ap, tnot_ap, tand_ap, tor_ap, vand_ap, vor_ap, vnot_ap, vif_ap, vchain_ap, sasg_ap, sown_ap, sif_ap, sret_ap, sexp_ap, snx_ap, sseq_ap, spar_ap, stg_ap, gnm_ap, gnil_ap, gcons_ap, gtp_ap, call_ap, doF_ok, doF_exn, callB_ap, apk_ap, doFB_ok, isOwn_ap, callI_ap, doI_ap, putOwn_ap, setD_ap, sset_ap, isLst_ap, mutl_ap, mutm_ap, sraise_ap, slcL_ap, slc_ap, pno_ap, psome_ap, unN_ap, iseq_ap, irng1_ap, irng2_ap, lrng_ap, gAdd_int, gInt_ap, at0, at1, at2, at3, gIx_lst, gIx_tup, gIx_scr, gLen_lst, gLen_tup, gLen_scr, gToInt_int, List.getElem?_cons_zero, List.getElem?_cons_succ, List.set_cons_zero, List.set_cons_succ, List.length_cons, List.length_nil, ite_true, ite_false, if_true, if_false, Bool.true_and, Bool.and_true, Bool.false_and, Bool.and_false, decide_true, decide_false, Option.map_some, Option.map_none, Bool.not_true, Bool.not_false, reduceIte, Nat.reduceAdd, Nat.reduceLeDiff, Bool.false_eq_true, Bool.true_eq_false, Bool.false_or, Bool.true_or, Bool.or_false, Bool.or_true, noXc_nil, noXc_un, noXc_val, noXc_own, noXc_io, dropAt_nx, dropAt_bk, dropAt_ct, dropAt_rt, keepAt_nx, keepAt_bk, keepAt_ct, keepAt_rt, stry_ap, stry0_ap, xfld_ap, LIM, nc_lit, Int.reduceAdd, Int.reduceSub, Int.reduceNeg, Int.reduceLT, Int.reduceLE, Int.reduceBEq, Nat.reduceLT, sfor_ap, skl_ap, wipeR_nil, wipeR_cons, smix_ap, putsR_nil, putsR_cons, methP_ap, isSq_lst, isSq_tup, ienum_ap, callM_ap', mkOb_ap, sfld_ap, saug_ap, callV_ap, stryN_ap, byH_nil, byH_cons, gStr_str, gAugAdd_int, gNeg_int', gSeq_lst, gSeq_tup, gTuple_lst, gTuple_tup, gList_lst, gList_tup, gSl_lst, gSl_tup, gAdd_lst, gAppend_lst, gExtend_lst, runP_1, runP_2, runP_3, runP_4, runP_5, runI_1, runI_2, runI_3, runI_4, runI_5, outP_nx, outP_rt, outP_exn, outI_nx, outI_rt, outI_exn, List.reduceReplicate, Nat.reduceSub, List.map_cons, List.map_nil, List.cons_append, List.nil_append, i2_non, i2_bl, i2_int, i2_str, i2_tup, i2_lst, i1_non, i1_bl, i1_int, i1_str, i1_tup, i1_lst, isa_NoneType_int, isa_NoneType_bool, isa_NoneType_str, isa_NoneType_tuple, isa_NoneType_list, isa_bool_int, isa_bool_bool, isa_bool_str, isa_bool_tuple, isa_bool_list, isa_int_int, isa_int_bool, isa_int_str, isa_int_tuple, isa_int_list, isa_str_int, isa_str_bool, isa_str_str, isa_str_tuple, isa_str_list, isa_tuple_int, isa_tuple_bool, isa_tuple_str, isa_tuple_tuple, isa_tuple_list, isa_list_int, isa_list_bool, isa_list_str, isa_list_tuple, isa_list_list, isN_non, isN_bl, isN_int, isN_str, isN_tup, isN_lst, gEq_bl, gEq_int, gEq_str, gEq_nn, Bool.xor_false, Bool.xor_true, Bool.false_xor, Bool.true_xor, Bool.or_self, Bool.and_self, beq_self_eq_true, Nat.zero_le, Bool.not_not, $ys,*] $l:location)

theorem gAdd_tup {xs ys : List D} : gAdd (.tup xs) (.tup ys) = if xs.length + ys.length ≤ LIM then some (.tup (xs ++ ys)) else none := rfl
section
variable {α : Type} [DecidableEq α] {φ : α → D}
def tupE (φ : α → D) (l : List α) : D := .tup (l.map φ)
abbrev subC : List Sl → RE D := lcomp (iseq (slcL 0 (psome (rd 5)) pno)) (gnm 6) tyes (bin gAdd (rd 4) (mkTup (acons (rd 6) anil))) [6]
abbrev subB : List Sl → RS := skl [4, 5] (sseq (sasg 5 (vif (tv (bin gGt (un gLen (pk 4)) (cst (.int 0)))) (bin gAdd (methP isSq gIndex (rd 0) (acons (binL gIx 4 (un gNeg (cst (.int 1)))) anil)) (cst (.int 1))) (cst (.int 0)))) (skl [4, 5] (sexp (mutl 3 gExtend (acons subC anil)))))
theorem sub_inner (E : Emb φ) {xs : List α} (hn : xs.Nodup) (hx : xs.length ≤ 100) {k : Nat} {L : List (List α × List α)} (hL : ∀ q ∈ L, LvOk xs k q) (hk : k ≤ 100) (hl : (nxtL L).length ≤ LIM) (f z : D) :
    forL (L.map fun q => tupE φ q.1) (gnm 4) subB [.val (tupE φ xs), .own f, .val z, .own (.lst []), .un, .un, .un] = .nx [.val (tupE φ xs), .own f, .val z, .own (.lst ((nxtL L).map fun q => tupE φ q.1)), .un, .un, .un] := by
  obtain ⟨s, e, hs⟩ := forL_inv (g := gnm 4) (b := subB) (R := fun s : List (List α × List α) => [.val (tupE φ xs), .own f, .val z, .own (.lst (s.map fun q => tupE φ q.1)), .un, .un, .un]) (I := fun i s => s = nxtL (L.take i)) (L.map fun q => tupE φ q.1) 0 [] rfl fun i d s hd hs => by
    rw [List.getElem?_map, Option.map_eq_some_iff] at hd
    obtain ⟨q, hq, rfl⟩ := hd
    rw [Nat.zero_add] at hs ⊢
    obtain ⟨hqk, b, hb, hkb, hor⟩ := hL q (List.mem_of_getElem? hq)
    have hsplit : nxtL (L.take (i + 1)) = s ++ extsL q.1 q.2 := by
      rw [hs, List.take_add_one, hq]
      unfold nxtL
      rw [List.flatMap_append]; simp
    have hlen : s.length + (extsL q.1 q.2).length ≤ LIM := by
      rw [← List.length_append, ← hsplit]
      refine Nat.le_trans ?_ hl
      unfold nxtL
      rw [← List.take_append_drop (i + 1) L, List.flatMap_append, List.length_append, List.take_append_drop]
      omega
    refine ⟨s ++ extsL q.1 q.2, ?_, hsplit.symm⟩
    have gl : gLen (tupE φ q.1) = some (.int (q.1.length : Int)) := by show some (D.int ((q.1.map φ).length : Int)) = _; rw [List.length_map]
    have comp : subC [.val (tupE φ xs), .own f, .val z, .own (.lst (s.map fun q => tupE φ q.1)), .val (tupE φ q.1), .val (.int (b : Int)), .un] = .ok (.lst ((extsL q.1 q.2).map fun q => tupE φ q.1)) [.val (tupE φ xs), .own f, .val z, .own (.lst (s.map fun q => tupE φ q.1)), .val (tupE φ q.1), .val (.int (b : Int)), .un] := by
      have hsl : gSl (some (b : Int)) none (tupE φ xs) = some (.tup (q.2.map φ)) := by
        show some (D.tup (cut (xs.map φ) (some (b : Int)) none)) = _
        rw [cut_lo, hb, List.map_drop]
      have c := lcomp_all (fi := iseq (slcL 0 (psome (rd 5)) pno)) (g := gnm 6) (t := tyes) (e := bin gAdd (rd 4) (mkTup (acons (rd 6) anil))) (vs := [6]) (r := [.val (tupE φ xs), .own f, .val z, .own (.lst (s.map fun q => tupE φ q.1)), .val (tupE φ q.1), .val (.int (b : Int)), .un]) φ q.2 (fun x => tupE φ (q.1 ++ [x])) (by dsimp?! only [hsl]) rfl (by rw [hb, List.length_drop]; exact le_lim (by omega)) fun x hx => by
        have z1 : (1 : Nat) ≤ LIM := by decide
        have ga : gAdd (tupE φ q.1) (.tup [φ x]) = some (tupE φ (q.1 ++ [x])) := by
          unfold tupE
          rw [gAdd_tup, if_pos (by rw [List.length_map, List.length_singleton, hqk]; exact le_lim (by omega)), List.map_append]; rfl
        dsimp?! only [lturn, tyes, z1, ga]
      refine c.trans ?_
      congr 2
      have := congrArg (List.map (tupE φ)) (extsL_fst q.1 q.2)
      rw [List.map_map, List.map_map] at this
      exact this.symm
    have hlen' : (s.map fun q => tupE φ q.1).length + ((extsL q.1 q.2).map fun q => tupE φ q.1).length ≤ LIM := by rw [List.length_map, List.length_map]; exact hlen
    rcases hor with ⟨h1, h2⟩ | ⟨x, j, h1, h2, h3⟩
    · have h0 : ¬ (0 : Int) < (q.1.length : Int) := by rw [h1]; simp
      have h2' : (b : Int) = 0 := by omega
      rw [h2'] at comp
      dsimp?! only [fturn, gl, h0, comp, hlen', List.map_append]
    · have h0 : (0 : Int) < (q.1.length : Int) := by
        cases hq1 : q.1 with
        | nil => rw [hq1] at h1; cases h1
        | cons a as => rw [List.length_cons]; omega
      have hlast : gIx (tupE φ q.1) (.int (-1)) = some (φ x) := atI_last (by rw [List.getLast?_map, h1]; rfl)
      have hix := (E.index hn h2).1
      have hbi : (j : Int) + 1 = (b : Int) := by omega
      have hsq : isSq (tupE φ xs) = true := rfl
      have hix' : gIndex (tupE φ xs) [φ x] = some (.int (j : Int)) := hix
      dsimp?! only [fturn, gl, h0, hlast, hix', hbi, comp, hlen', List.map_append, hsq]
  refine e.trans ?_
  rw [hs, List.length_map, Nat.zero_add, List.take_length]
noncomputable abbrev subW : List Sl → RS := swhile (tv (bin gGt (un gLen (pk 2)) (cst (.int 0)))) (skl [3, 4, 5] (sseq (sown 3 (mkLst anil)) (sseq (skl [2, 4, 5] (sfor (iseq (rd 2)) (gnm 4) subB)) (sseq (sexp (mutl 1 gExtend (acons (rd 3) anil))) (skl [3] (sasg 2 (rd 3)))))))
theorem subsN_succ (xs : List α) (n : Nat) : subsN xs (n + 1) = subsN xs n ++ (levL xs n).map (·.1) := by
  unfold subsN
  rw [List.range_succ, List.flatMap_append]; simp
theorem subsN_len {xs : List α} (hx : xs.length ≤ 6) {k : Nat} : (levL xs k).length ≤ 100000 ∧ (subsN xs k).length ≤ 100000 * k := by
  have h1 : ∀ k, (levL xs k).length ≤ 100000 := fun k => by
    by_cases hk : xs.length < k
    · rw [levL_end xs hk]; exact Nat.zero_le _
    · refine Nat.le_trans (levL_bound xs k) (Nat.le_trans (Nat.pow_le_pow_left hx k) (Nat.le_trans (Nat.pow_le_pow_right (by decide) (show k ≤ 6 by omega)) (by decide)))
  refine ⟨h1 k, ?_⟩
  induction k with
  | zero => exact Nat.le_refl _
  | succ k ih =>
    rw [subsN_succ, List.length_append, List.length_map]
    have := h1 k
    omega
theorem sub_while (E : Emb φ) {xs : List α} (hn : xs.Nodup) (hx : xs.length ≤ 6) : ∀ (m k : Nat), k + m = xs.length + 1 →
    subW [.val (tupE φ xs), .own (.lst ((subsN xs (k + 1)).map (tupE φ))), .val (.lst ((levL xs k).map fun q => tupE φ q.1)), .un, .un, .un, .un] = .nx [.val (tupE φ xs), .own (.lst ((subsF xs).map (tupE φ))), .val (.lst []), .un, .un, .un, .un]
  | 0, k, h => by
    have he : levL xs k = [] := levL_end xs (by omega)
    have h0 : ¬ (0 : Int) < ((0 : Nat) : Int) := by decide
    rw [subsN_succ, he, show k = xs.length + 1 by omega]
    show swhile _ _ _ = _
    rw [swhile_step]
    dsimp?! only [wturn, h0, List.map_nil, List.append_nil]
    rfl
  | m + 1, k, h => by
    have hlen := subsN_len (xs := xs) hx (k := k + 1)
    have hlen2 := subsN_len (xs := xs) hx (k := k + 2)
    have hlev := subsN_len (xs := xs) hx (k := k)
    have hne : levL xs k ≠ [] := fun e => by
      have := levL_ne xs (k := k) (by omega)
      rw [e] at this; cases this
    have hpos : (0 : Int) < ((levL xs k).length : Int) := by have := List.length_pos_iff.mpr hne; omega
    have ih := sub_while E hn hx m (k + 1) (by omega)
    have hin := sub_inner E hn (show xs.length ≤ 100 by omega) (levL_ok xs k) (by omega) (show (nxtL (levL xs k)).length ≤ LIM from Nat.le_trans hlen.1 (by decide)) (.lst ((subsN xs (k + 1)).map (tupE φ))) (.lst ((levL xs k).map fun q => tupE φ q.1))
    have z0 : (0 : Nat) ≤ LIM := by decide
    have hx2 : ((subsN xs (k + 1)).map (tupE φ)).length + ((nxtL (levL xs k)).map fun q => tupE φ q.1).length ≤ LIM := by
      rw [List.length_map, List.length_map]
      have : (nxtL (levL xs k)).length ≤ 100000 := hlen.1
      refine le_lim ?_
      omega
    have hl : ((levL xs k).map fun q => tupE φ q.1).length = (levL xs k).length := List.length_map ..
    show swhile _ _ _ = _
    rw [swhile_step]
    dsimp?! only [wturn, hl, hpos, z0, hin, hx2]
    refine Eq.trans ?_ ih
    rw [subsN_succ xs (k + 1), List.map_append]
    congr 4
    rw [List.map_map]; rfl
theorem subsets_ok (E : Emb φ) {xs : List α} (hn : xs.Nodup) (hx : xs.length ≤ 6) : R_subsets [tupE φ xs] = .ok (.lst ((subsF xs).map (tupE φ))) .non := by
  have h := sub_while E hn hx (xs.length + 1) 0 (by omega)
  have z0 : (0 : Nat) ≤ LIM := by decide
  have z1 : (1 : Nat) ≤ LIM := by decide
  have e1 : (subsN xs (0 + 1)).map (tupE φ) = [.tup []] := rfl
  have e2 : (levL xs 0).map (fun q => tupE φ q.1) = [.tup []] := rfl
  rw [e1, e2] at h
  unfold R_subsets b_subsets
  have h' : swhile _ _ _ = _ := h
  dsimp?! only [z0, z1, h']
end
/-- numbers below n, by law_subsets -/
def lsub : Nat → List (List Nat)
  | 0 => [[]]
  | n + 1 => lsub n ++ (lsub n).map fun l => l ++ [n]
def lstN (l : List Nat) : D := .lst (l.map fun (i : Nat) => .int (i : Int))
theorem lsub_len : ∀ n, (lsub n).length = 2 ^ n
  | 0 => rfl
  | n + 1 => by rw [lsub, List.length_append, List.length_map, lsub_len n]; omega
theorem law_subsets {n : Nat} (hn : n ≤ 10) : R__law_subsets [.int (n : Int)] = .ok (.lst ((lsub n).map lstN)) .non := by
  obtain ⟨s, e, hs⟩ := forL_inv (g := gnm 2) (b := skl [2] (skl [2] (sasg 1 (bin gAdd (rd 1) (lcomp (iseq (rd 1)) (gnm 3) tyes (bin gAdd (rd 3) (mkLst (acons (rd 2) anil))) [3]))))) (R := fun s : List (List Nat) => [.val (.int (n : Int)), .val (.lst (s.map lstN)), .un, .un]) (I := fun i s => s = lsub i ∧ ∀ l ∈ s, l.length ≤ i) (rngL 0 (n : Int)) 0 [[]] ⟨rfl, fun l hl => by rw [List.mem_singleton] at hl; subst hl; exact Nat.le_refl _⟩ fun i d s hd ⟨hs, hs2⟩ => by
    obtain ⟨hi, rfl⟩ := rng_get hd
    rw [Nat.zero_add] at hs hs2 ⊢
    have hlen : s.length ≤ 1024 := by rw [hs, lsub_len]; exact Nat.le_trans (Nat.pow_le_pow_right (by decide) (show i ≤ 10 by omega)) (by decide)
    refine ⟨s ++ s.map fun l => l ++ [i], ?_, by rw [hs]; rfl, fun l hl => ?_⟩
    · have z1 : (1 : Nat) ≤ LIM := by decide
      have c := lcomp_all (fi := iseq (rd 1)) (g := gnm 3) (t := tyes) (e := bin gAdd (rd 3) (mkLst (acons (rd 2) anil))) (vs := [3]) (r := [.val (.int (n : Int)), .val (.lst (s.map lstN)), .val (.int (i : Int)), .un]) lstN s (fun l => lstN (l ++ [i])) (by dsimp?! only []) rfl (by exact le_lim (by omega)) fun l hl => by
        have ga : gAdd (lstN l) (.lst [.int (i : Int)]) = some (lstN (l ++ [i])) := by
          unfold lstN
          rw [gAdd_lst, if_pos (by rw [List.length_map, List.length_singleton]; have := hs2 l hl; exact le_lim (by omega)), List.map_append]; rfl
        dsimp?! only [lturn, tyes, z1, ga]
      have hl2 : (s.map lstN).length + (s.map fun l => lstN (l ++ [i])).length ≤ LIM := by rw [List.length_map, List.length_map]; exact le_lim (by omega)
      dsimp?! only [fturn, c, hl2, List.map_append, List.map_map, Function.comp_def]
    · rcases List.mem_append.mp hl with h | h
      · have := hs2 l h; omega
      · obtain ⟨l', h', rfl⟩ := List.mem_map.mp h
        have := hs2 l' h'
        rw [List.length_append, List.length_singleton]; omega
  rw [rng_len, Nat.zero_add] at hs
  obtain ⟨hs, _⟩ := hs
  subst hs
  have z0 : (0 : Nat) ≤ LIM := by decide
  have z1 : (1 : Nat) ≤ LIM := by decide
  have e' : forL _ _ _ [.val (.int (n : Int)), .val (.lst [.lst []]), .un, .un] = _ := e
  unfold R__law_subsets b__law_subsets
  dsimp?! only [z0, z1, irng1_int (show n ≤ LIM from le_lim (by omega)), e']
def szN (l : List Nat) : D := .tup [.int (l.length : Int), lstN l]
/-- by sizes, then by numbers: the first seven -/
theorem sized_srt : ∀ n : Fin 7, sortOk ((lsub n.val).map szN) = true ∧ (subsF (List.range n.val)).Perm (lsub n.val) ∧ ((subsF (List.range n.val)).map szN).Pairwise (fun a b => dLe b a = false) := by decide +kernel
theorem law_sized {n : Nat} (hn : n ≤ 6) : R__law_sized [.int (n : Int)] = .ok (.lst ((subsF (List.range n)).map lstN)) .non := by
  have hs := law_subsets (n := n) (by omega)
  obtain ⟨s1, s2, s3⟩ := sized_srt ⟨n, by omega⟩
  have hlen : (lsub n).length ≤ 64 := by rw [lsub_len]; exact Nat.le_trans (Nat.pow_le_pow_right (by decide) hn) (by decide)
  have hlen2 : (subsF (List.range n)).length ≤ 64 := by rw [s2.length_eq]; exact hlen
  have z2 : (2 : Nat) ≤ LIM := by decide
  have c1 := lcomp_all (fi := iseq (call R__law_subsets (acons (rd 0) anil))) (g := gnm 3) (t := tyes) (e := mkTup (acons (un gLen (pk 3)) (acons (rd 3) anil))) (vs := [3]) (r := [.val (.int (n : Int)), .un, .un, .un]) lstN (lsub n) szN (by dsimp?! only [hs]) rfl (le_lim (by omega)) fun l hl => by
    have gl : gLen (lstN l) = some (.int (l.length : Int)) := by show some (D.int ((l.map _).length : Int)) = _; rw [List.length_map]
    dsimp?! only [lturn, tyes, gl, z2]
    rfl
  have gs : gSorted (.lst ((lsub n).map szN)) = some ((subsF (List.range n)).map szN) := by
    show (if sortOk _ = true then some (srt _) else none) = _
    rw [if_pos s1, srt_strict (s2.map szN) s3]
  have c2 := lcomp_all (fi := iseq (unN gSorted (lcomp (iseq (call R__law_subsets (acons (rd 0) anil))) (gnm 3) tyes (mkTup (acons (un gLen (pk 3)) (acons (rd 3) anil))) [3]))) (g := gtp 2 (gcons (gnm 1) (gcons (gnm 2) gnil))) (t := tyes) (e := rd 2) (vs := [1, 2]) (r := [.val (.int (n : Int)), .un, .un, .un]) szN (subsF (List.range n)) lstN (by rw [iseq_ap, unN_ap, c1]; dsimp?! only [gs]) rfl (le_lim (by omega)) fun l hl => by
    dsimp?! only [lturn, tyes, szN]
  unfold R__law_sized b__law_sized
  dsimp?! only [c2]
end KC

set_option Elab.async false
set_option linter.all false
set_option maxRecDepth 100000
set_option maxHeartbeats 4000000
set_option pp.maxSteps 2000
namespace KC
open PySem DL
open L2 (atI ixN)
local macro_rules
  | `(tactic| dsimp?! only [$xs,*]) => do
    let ys : Lean.Syntax.TSepArray `Lean.Parser.Tactic.simpLemma "," := ⟨xs.elemsAndSeps⟩
    `(tactic| simp only [bind_ok, bind_exn, bind_bad, s_ok, s_exn, s_bad, rd_ap, pk_ap, cst_ap, lift_some, lift_none, bin_ap, has_ap, binL_ap, un_ap, anil_ap, acons_ap, mkTup_ap, mkLst_ap, asB_bl, tv_ap, tnot_ap, tand_ap, tor_ap, vand_ap, vor_ap, vnot_ap, vif_ap, vchain_ap, sasg_ap, sown_ap, sif_ap, sret_ap, sexp_ap, snx_ap, sseq_ap, spar_ap, stg_ap, gnm_ap, gnil_ap, gcons_ap, gtp_ap, call_ap, doF_ok, doF_exn, callB_ap, apk_ap, doFB_ok, isOwn_ap, callI_ap, doI_ap, putOwn_ap, setD_ap, sset_ap, isLst_ap, mutl_ap, mutm_ap, sraise_ap, slcL_ap, slc_ap, pno_ap, psome_ap, unN_ap, iseq_ap, irng1_ap, irng2_ap, lrng_ap, gAdd_int, gInt_ap, at0, at1, at2, at3, gIx_lst, gIx_tup, gIx_scr, gLen_lst, gLen_tup, gLen_scr, gToInt_int, List.getElem?_cons_zero, List.getElem?_cons_succ, List.set_cons_zero, List.set_cons_succ, List.length_cons, List.length_nil, ite_true, ite_false, if_true, if_false, Bool.true_and, Bool.and_true, Bool.false_and, Bool.and_false, decide_true, decide_false, Option.map_some, Option.map_none, Bool.not_true, Bool.not_false, reduceIte, Nat.reduceAdd, Nat.reduceLeDiff, Bool.false_eq_true, Bool.true_eq_false, Bool.false_or, Bool.true_or, Bool.or_false, Bool.or_true, noXc_nil, noXc_un, noXc_val, noXc_own, noXc_io, dropAt_nx, dropAt_bk, dropAt_ct, dropAt_rt, keepAt_nx, keepAt_bk, keepAt_ct, keepAt_rt, stry_ap, stry0_ap, xfld_ap, LIM, nc_lit, Int.reduceAdd, Int.reduceSub, Int.reduceNeg, Int.reduceLT, Int.reduceLE, Int.reduceBEq, Nat.reduceLT, sfor_ap, skl_ap, wipeR_nil, wipeR_cons, smix_ap, putsR_nil, putsR_cons, methP_ap, isSq_lst, isSq_tup, ienum_ap, callM_ap', mkOb_ap, sfld_ap, saug_ap, callV_ap, stryN_ap, byH_nil, byH_cons, gStr_str, gAugAdd_int, gNeg_int', gSeq_lst, gSeq_tup, gTuple_lst, gTuple_tup, gList_lst, gList_tup, gSl_lst, gSl_tup, gAdd_lst, gAppend_lst, gExtend_lst, runP_1, runP_2, runP_3, runP_4, runP_5, runI_1, runI_2, runI_3, runI_4, runI_5, outP_nx, outP_rt, outP_exn, outI_nx, outI_rt, outI_exn, List.reduceReplicate, Nat.reduceSub, List.map_cons, List.map_nil, List.cons_append, List.nil_append, i2_non, i2_bl, i2_int, i2_str, i2_tup, i2_lst, i1_non, i1_bl, i1_int, i1_str, i1_tup, i1_lst, isa_NoneType_int, isa_NoneType_bool, isa_NoneType_str, isa_NoneType_tuple, isa_NoneType_list, isa_bool_int, isa_bool_bool, isa_bool_str, isa_bool_tuple, isa_bool_list, isa_int_int, isa_int_bool, isa_int_str, isa_int_tuple, isa_int_list, isa_str_int, isa_str_bool, isa_str_str, isa_str_tuple, isa_str_list, isa_tuple_int, isa_tuple_bool, isa_tuple_str, isa_tuple_tuple, isa_tuple_list, isa_list_int, isa_list_bool, isa_list_str, isa_list_tuple, isa_list_list, isN_non, isN_bl, isN_int, isN_str, isN_tup, isN_lst, gEq_bl, gEq_int, gEq_str, gEq_nn, Bool.xor_false, Bool.xor_true, Bool.false_xor, Bool.true_xor, Bool.or_self, Bool.and_self, beq_self_eq_true, Nat.zero_le, Bool.not_not, $ys,*])
  | `(tactic| dsimp?! only [$xs,*] $l:location) => do
    let ys : Lean.Syntax.TSepArray `Lean.Parser.Tactic.simpLemma "," := ⟨xs.elemsAndSeps⟩
    `(tactic| simp only [bind_ok, bind_exn, bind_bad, s_ok, s_exn, s_bad, rd_ap, pk_ap, cst_ap, lift_some, lift_none, bin_ap, has_ap, binL_ap, un_ap, anil_ap, acons_ap, mkTup_ap, mkLst_ap, asB_bl, tv_ap, tnot_ap, tand_ap, tor_ap, vand_ap, vor_ap, vnot_ap, vif_ap, vchain_ap, sasg_ap, sown_ap, sif_ap, sret_ap, sexp_ap, snx_ap, sseq_ap, spar_ap, stg_ap, gnm_ap, gnil_ap, gcons_ap, gtp_ap, call_ap, doF_ok, doF_exn, callB_ap, apk_ap, doFB_ok, isOwn_ap, callI_ap, doI_ap, putOwn_ap, setD_ap, sset_ap, isLst_ap, mutl_ap, mutm_ap, sraise_ap, slcL_ap, slc_ap, pno_ap, psome_ap, unN_ap, iseq_ap, irng1_ap, irng2_ap, lrng_ap, gAdd_int, gInt_ap, at0, at1, at2, at3, gIx_lst, gIx_tup, gIx_scr, gLen_lst, gLen_tup, gLen_scr, gToInt_int, List.getElem?_cons_zero, List.getElem?_cons_succ, List.set_cons_zero, List.set_cons_succ, List.length_cons, List.length_nil, ite_true, ite_false, if_true, if_false, Bool.true_and, Bool.and_true, Bool.false_and, Bool.and_false, decide_true, decide_false, Option.map_some, Option.map_none, Bool.not_true, Bool.not_false, reduceIte, Nat.reduceAdd, Nat.reduceLeDiff, Bool.false_eq_true, Bool.true_eq_false, Bool.false_or, Bool.true_or, Bool.or_false, Bool.or_true, noXc_nil, noXc_un, noXc_val, noXc_own, noXc_io, dropAt_nx, dropAt_bk, dropAt_ct, dropAt_rt, keepAt_nx, keepAt_bk, keepAt_ct, keepAt_rt, stry_ap, stry0_ap, xfld_ap, LIM, nc_lit, Int.reduceAdd, Int.reduceSub, Int.reduceNeg, Int.reduceLT, Int.reduceLE, Int.reduceBEq, Nat.reduceLT, sfor_ap, skl_ap, wipeR_nil, wipeR_cons, smix_ap, putsR_nil, putsR_cons, methP_ap, isSq_lst, isSq_tup, ienum_ap, callM_ap', mkOb_ap, sfld_ap, saug_ap, callV_ap, stryN_ap, byH_nil, byH_cons, gStr_str, gAugAdd_int, gNeg_int', gSeq_lst, gSeq_tup, gTuple_lst, gTuple_tup, gList_lst, gList_tup, gSl_lst, gSl_tup, gAdd_lst, gAppend_lst, gExtend_lst, runP_1, runP_2, runP_3, runP_4, runP_5, runI_1, runI_2, runI_3, runI_4, runI_5, outP_nx, outP_rt, outP_exn, outI_nx, outI_rt, outI_exn, List.reduceReplicate, Nat.reduceSub, List.map_cons, List.map_nil, List.cons_append, List.nil_append, i2_non, i2_bl, i2_int, i2_str, i2_tup, i2_lst, i1_non, i1_bl, i1_int, i1_str, i1_tup, i1_lst, isa_NoneType_int, isa_NoneType_bool, isa_NoneType_str, isa_NoneType_tuple, isa_NoneType_list, isa_bool_int, isa_bool_bool, isa_bool_str, isa_bool_tuple, isa_bool_list, isa_int_int, isa_int_bool, isa_int_str, isa_int_tuple, isa_int_list, isa_str_int, isa_str_bool, isa_str_str, isa_str_tuple, isa_str_list, isa_tuple_int, isa_tuple_bool, isa_tuple_str, isa_tuple_tuple, isa_tuple_list, isa_list_int, isa_list_bool, isa_list_str, isa_list_tuple, isa_list_list, isN_non, isN_bl, isN_int, isN_str, isN_tup, isN_lst, gEq_bl, gEq_int, gEq_str, gEq_nn, Bool.xor_false, Bool.xor_true, Bool.false_xor, Bool.true_xor, Bool.or_self, Bool.and_self, beq_self_eq_true, Nat.zero_le, Bool.not_not, $ys,*] $l:location)

/-! ### data without truth values: == is equality -/
def okn : Nat → D → Bool
  | _, .non => true
  | _, .int _ => true
  | _, .str _ => true
  | k + 1, .tup xs => xs.all (okn k)
  | k + 1, .lst xs => xs.all (okn k)
  | _, _ => false
theorem okn_okd : ∀ (k : Nat) (d : D), okn k d = true → okd k d = true
  | k, .non, _ => okd_non
  | k, .int _, _ => okd_int
  | k, .str _, _ => okd_str
  | k + 1, .tup xs, h => by
    rw [okd_tup, List.all_eq_true]
    have h' : xs.all (okn k) = true := h
    exact fun x hx => okn_okd k x (List.all_eq_true.mp h' x hx)
  | k + 1, .lst xs, h => by
    rw [okd_lst, List.all_eq_true]
    have h' : xs.all (okn k) = true := h
    exact fun x hx => okn_okd k x (List.all_eq_true.mp h' x hx)
  | 0, .tup xs, h => by simp [okn] at h
  | 0, .lst xs, h => by simp [okn] at h
  | k, .bl _, h => by cases k <;> simp [okn] at h
  | k, .dct _ _, h => by cases k <;> simp [okn] at h
  | k, .ob _ _ _, h => by cases k <;> simp [okn] at h
  | k, .fn _, h => by cases k <;> simp [okn] at h
  | k, .scr _, h => by cases k <;> simp [okn] at h
theorem okn_mono : ∀ (j k : Nat) (d : D), j ≤ k → okn j d = true → okn k d = true
  | j, k, .non, _, _ => by cases k <;> rfl
  | j, k, .int _, _, _ => by cases k <;> rfl
  | j, k, .str _, _, _ => by cases k <;> rfl
  | j + 1, k + 1, .tup xs, hj, h => by
    have h' : xs.all (okn j) = true := h
    show xs.all (okn k) = true
    rw [List.all_eq_true] at h' ⊢
    exact fun x hx => okn_mono j k x (by omega) (h' x hx)
  | j + 1, k + 1, .lst xs, hj, h => by
    have h' : xs.all (okn j) = true := h
    show xs.all (okn k) = true
    rw [List.all_eq_true] at h' ⊢
    exact fun x hx => okn_mono j k x (by omega) (h' x hx)
  | 0, k, .tup xs, _, h => by simp [okn] at h
  | 0, k, .lst xs, _, h => by simp [okn] at h
  | j + 1, 0, .tup xs, hj, h => absurd hj (by omega)
  | j + 1, 0, .lst xs, hj, h => absurd hj (by omega)
  | j, k, .bl _, _, h => by cases j <;> simp [okn] at h
  | j, k, .dct _ _, _, h => by cases j <;> simp [okn] at h
  | j, k, .ob _ _ _, _, h => by cases j <;> simp [okn] at h
  | j, k, .fn _, _, h => by cases j <;> simp [okn] at h
  | j, k, .scr _, _, h => by cases j <;> simp [okn] at h
theorem eqbL_eq (f : ∀ x y : D, x.eqb y = true → x = y ∨ True) : True := trivial
theorem eqb_sound : ∀ (k j : Nat) (x y : D), okn k x = true → okn j y = true → x.eqb y = true → x = y
  | k, j, .non, y, _, h2, h => by cases y <;> simp_all [D.eqb]
  | k, j, .int i, y, _, h2, h => by
    cases y with
    | int i' => rw [eqb_int] at h; rw [eq_of_beq h]
    | bl b => cases j <;> simp [okn] at h2
    | _ => simp [D.eqb] at h
  | k, j, .str i, y, _, h2, h => by
    cases y with
    | str i' => rw [eqb_str] at h; rw [eq_of_beq h]
    | _ => simp [D.eqb] at h
  | k + 1, j, .tup xs, y, h1, h2, h => by
    cases y with
    | tup ys =>
      cases j with
      | zero => simp [okn] at h2
      | succ j =>
        have h1' : xs.all (okn k) = true := h1
        have h2' : ys.all (okn j) = true := h2
        have h' : eqbL xs ys = true := by rw [D.eqb] at h; exact h
        have key : ∀ (xs ys : List D), xs.all (okn k) = true → ys.all (okn j) = true → eqbL xs ys = true → xs = ys := by
          intro xs
          induction xs with
          | nil => intro ys _ _ h; cases ys <;> simp_all [eqbL]
          | cons x xs ih =>
            intro ys a b h
            cases ys with
            | nil => simp [eqbL] at h
            | cons y ys =>
              rw [eqbL, Bool.and_eq_true] at h
              rw [List.all_cons, Bool.and_eq_true] at a b
              rw [eqb_sound k j x y a.1 b.1 h.1, ih ys a.2 b.2 h.2]
        rw [key xs ys h1' h2' h']
    | _ => simp [D.eqb] at h
  | k + 1, j, .lst xs, y, h1, h2, h => by
    cases y with
    | lst ys =>
      cases j with
      | zero => simp [okn] at h2
      | succ j =>
        have h1' : xs.all (okn k) = true := h1
        have h2' : ys.all (okn j) = true := h2
        have h' : eqbL xs ys = true := by rw [D.eqb] at h; exact h
        have key : ∀ (xs ys : List D), xs.all (okn k) = true → ys.all (okn j) = true → eqbL xs ys = true → xs = ys := by
          intro xs
          induction xs with
          | nil => intro ys _ _ h; cases ys <;> simp_all [eqbL]
          | cons x xs ih =>
            intro ys a b h
            cases ys with
            | nil => simp [eqbL] at h
            | cons y ys =>
              rw [eqbL, Bool.and_eq_true] at h
              rw [List.all_cons, Bool.and_eq_true] at a b
              rw [eqb_sound k j x y a.1 b.1 h.1, ih ys a.2 b.2 h.2]
        rw [key xs ys h1' h2' h']
    | _ => simp [D.eqb] at h
  | 0, j, .tup xs, y, h1, _, _ => by simp [okn] at h1
  | 0, j, .lst xs, y, h1, _, _ => by simp [okn] at h1
  | k, j, .bl _, _, h, _, _ => by cases k <;> simp [okn] at h
  | k, j, .dct _ _, _, h, _, _ => by cases k <;> simp [okn] at h
  | k, j, .ob _ _ _, _, h, _, _ => by cases k <;> simp [okn] at h
  | k, j, .fn _, _, h, _, _ => by cases k <;> simp [okn] at h
  | k, j, .scr _, _, h, _, _ => by cases k <;> simp [okn] at h
theorem eqb_iff {x y : D} (hx : okn 20 x = true) (hy : okn 20 y = true) : x.eqb y = true ↔ x = y :=
  ⟨eqb_sound 20 20 x y hx hy, fun e => by subst e; exact eqb_refl 20 x (okn_okd 20 x hx)⟩
theorem gEq_same {neg : Bool} {x : D} (hx : okn 20 x = true) : gEq neg x x = some (.bl (!neg)) := gEq_self (okn_okd 20 x hx)
theorem gEq_diff {neg : Bool} {x y : D} (hx : okn 20 x = true) (hy : okn 20 y = true) (h : x ≠ y) : gEq neg x y = some (.bl neg) := by
  unfold gEq
  rw [okn_okd 20 x hx, okn_okd 20 y hy, Bool.and_self, if_pos rfl]
  have : x.eqb y = false := by
    rw [Bool.eq_false_iff]
    intro e
    exact h ((eqb_iff hx hy).mp e)
  rw [this, Bool.false_xor]
theorem Emb.of {α : Type} [DecidableEq α] {φ : α → D} (h : ∀ x, okn 20 (φ x) = true) (inj : ∀ x y, φ x = φ y → x = y) : Emb φ where
  eq := fun x y => by
    rw [Bool.eq_iff_iff, eqb_iff (h x) (h y), decide_eq_true_eq]
    exact ⟨inj x y, fun e => by rw [e]⟩
  ok := fun x => okn_okd 20 _ (h x)
theorem okn_tup {k : Nat} {xs : List D} : okn (k + 1) (.tup xs) = xs.all (okn k) := by rw [okn]
theorem okn_lst {k : Nat} {xs : List D} : okn (k + 1) (.lst xs) = xs.all (okn k) := by rw [okn]
theorem okn_int {k : Nat} {i : Int} : okn k (.int i) = true := by cases k <;> rfl
theorem okn_str {k : Nat} {i : Str} : okn k (.str i) = true := by cases k <;> rfl
theorem okn_non {k : Nat} : okn k .non = true := by cases k <;> rfl
theorem okn_map {α : Type} {φ : α → D} {k : Nat} {xs : List α} (h : ∀ x ∈ xs, okn k (φ x) = true) : okn (k + 1) (.tup (xs.map φ)) = true ∧ okn (k + 1) (.lst (xs.map φ)) = true := by
  rw [okn_tup, okn_lst, List.all_map, List.all_eq_true]
  exact ⟨h, h⟩
/-- short enough rows, too -/
theorem okl_int {k : Nat} {i : Int} : okl k (.int i) = true := by cases k <;> rfl
theorem okl_str {k : Nat} {i : Str} : okl k (.str i) = true := by cases k <;> rfl
theorem okl_non {k : Nat} : okl k .non = true := by cases k <;> rfl
theorem okl_bl {k : Nat} {b : Bool} : okl k (.bl b) = true := by cases k <;> rfl
theorem okl_map {α : Type} {φ : α → D} {k : Nat} {xs : List α} (hl : xs.length ≤ LIM) (h : ∀ x ∈ xs, okl k (φ x) = true) : okl (k + 1) (.tup (xs.map φ)) = true ∧ okl (k + 1) (.lst (xs.map φ)) = true := by
  rw [okl_tup, okl_lst, List.length_map, List.all_map, decide_eq_true hl, Bool.true_and, List.all_eq_true]
  exact ⟨h, h⟩
theorem map_inj {α : Type} {φ : α → D} (inj : ∀ x y, φ x = φ y → x = y) : ∀ {xs ys : List α}, xs.map φ = ys.map φ → xs = ys
  | [], [], _ => rfl
  | [], _ :: _, h => by simp at h
  | _ :: _, [], h => by simp at h
  | x :: xs, y :: ys, h => by
    rw [List.map_cons, List.map_cons] at h
    injection h with h1 h2
    rw [inj x y h1, map_inj inj h2]
end KC

set_option Elab.async false
set_option linter.all false
set_option maxRecDepth 100000
set_option maxHeartbeats 8000000
set_option pp.maxSteps 150
namespace K09
open PySem L2 DL KC
noncomputable section
def top (i : Nat) : Stmt := PySem.Challenge.pw_unitsheld_k09_errors.main.body.getD i (.Pass ⟨0, 0, 0, 0⟩)
def cat_HeldError : Str → Option Bool := fun c => ([("BadEvent", true), ("BadItem", true), ("BadName", true), ("BadNote", true), ("BadNumber", true), ("NothingToUndo", true), ("Refused", true), ("Taken", true), ("TooMany", true), ("Unknown", true)] : List (Str × Bool)).lookup c
def kn_index : Str → Bool := fun c => decide (c ∈ (["BadItem"] : List Str))
def kn_limit : Str → Bool := fun c => decide (c ∈ (["TooMany"] : List Str))
def kn_line : Str → Bool := fun c => decide (c ∈ (["BadNote"] : List Str))
def kn_names : Str → Bool := fun c => decide (c ∈ (["Refused"] : List Str))
def kn_reason : Str → Bool := fun c => decide (c ∈ (["Refused"] : List Str))
def kn_value : Str → Bool := fun c => decide (c ∈ (["BadEvent", "BadName", "BadNumber", "Taken", "Unknown"] : List Str))
def tx_BadEvent : Str → Option Bool := fun c => ([("BadEvent", true), ("BadItem", false), ("BadName", false), ("BadNote", false), ("BadNumber", false), ("NothingToUndo", false), ("Refused", false), ("Taken", false), ("TooMany", false), ("Unknown", false)] : List (Str × Bool)).lookup c
def tx_BadItem : Str → Option Bool := fun c => ([("BadEvent", false), ("BadItem", true), ("BadName", false), ("BadNote", false), ("BadNumber", false), ("NothingToUndo", false), ("Refused", false), ("Taken", false), ("TooMany", false), ("Unknown", false)] : List (Str × Bool)).lookup c
def tx_BadName : Str → Option Bool := fun c => ([("BadEvent", false), ("BadItem", false), ("BadName", true), ("BadNote", false), ("BadNumber", false), ("NothingToUndo", false), ("Refused", false), ("Taken", false), ("TooMany", false), ("Unknown", false)] : List (Str × Bool)).lookup c
def tx_BadNote : Str → Option Bool := fun c => ([("BadEvent", false), ("BadItem", false), ("BadName", false), ("BadNote", true), ("BadNumber", false), ("NothingToUndo", false), ("Refused", false), ("Taken", false), ("TooMany", false), ("Unknown", false)] : List (Str × Bool)).lookup c
def tx_BadNumber : Str → Option Bool := fun c => ([("BadEvent", false), ("BadItem", false), ("BadName", false), ("BadNote", false), ("BadNumber", true), ("NothingToUndo", false), ("Refused", false), ("Taken", false), ("TooMany", false), ("Unknown", false)] : List (Str × Bool)).lookup c
def tx_LookupError : Str → Option Bool := fun c => ([("BadEvent", false), ("BadItem", false), ("BadName", false), ("BadNote", false), ("BadNumber", false), ("NothingToUndo", false), ("Refused", false), ("Taken", false), ("TooMany", false), ("Unknown", false)] : List (Str × Bool)).lookup c
def tx_NothingToUndo : Str → Option Bool := fun c => ([("BadEvent", false), ("BadItem", false), ("BadName", false), ("BadNote", false), ("BadNumber", false), ("NothingToUndo", true), ("Refused", false), ("Taken", false), ("TooMany", false), ("Unknown", false)] : List (Str × Bool)).lookup c
def tx_Refused : Str → Option Bool := fun c => ([("BadEvent", false), ("BadItem", false), ("BadName", false), ("BadNote", false), ("BadNumber", false), ("NothingToUndo", false), ("Refused", true), ("Taken", false), ("TooMany", false), ("Unknown", false)] : List (Str × Bool)).lookup c
def tx_RuntimeError : Str → Option Bool := fun c => ([("BadEvent", false), ("BadItem", false), ("BadName", false), ("BadNote", false), ("BadNumber", false), ("NothingToUndo", false), ("Refused", false), ("Taken", false), ("TooMany", false), ("Unknown", false)] : List (Str × Bool)).lookup c
def tx_Taken : Str → Option Bool := fun c => ([("BadEvent", false), ("BadItem", false), ("BadName", false), ("BadNote", false), ("BadNumber", false), ("NothingToUndo", false), ("Refused", false), ("Taken", true), ("TooMany", false), ("Unknown", false)] : List (Str × Bool)).lookup c
def tx_TooMany : Str → Option Bool := fun c => ([("BadEvent", false), ("BadItem", false), ("BadName", false), ("BadNote", false), ("BadNumber", false), ("NothingToUndo", false), ("Refused", false), ("Taken", false), ("TooMany", true), ("Unknown", false)] : List (Str × Bool)).lookup c
def tx_Unknown : Str → Option Bool := fun c => ([("BadEvent", false), ("BadItem", false), ("BadName", false), ("BadNote", false), ("BadNumber", false), ("NothingToUndo", false), ("Refused", false), ("Taken", false), ("TooMany", false), ("Unknown", true)] : List (Str × Bool)).lookup c
def tx_ValueError : Str → Option Bool := fun c => ([("BadEvent", true), ("BadItem", true), ("BadName", true), ("BadNote", true), ("BadNumber", true), ("NothingToUndo", true), ("Refused", true), ("Taken", true), ("TooMany", true), ("Unknown", true)] : List (Str × Bool)).lookup c
abbrev s__law_alike : Stmt := (top 15)
abbrev s__law_taken : Stmt := (top 13)
abbrev s__law_pick : Stmt := (top 14)
abbrev s__law_raised : Stmt := (top 16)
def b__law_raised : List Sl → RS :=
  (skl [0, 1, 2, 4, 5] (stry 3 cat_HeldError (sseq (sif (tv (bin (gEq false) (rd 0) (cst (.int 0)))) (sraise "BadNumber" ["value"] (acons (rd 1) anil)) snx) (sseq (sif (tv (bin (gEq false) (rd 0) (cst (.int 1)))) (sraise "BadName" ["value"] (acons (rd 1) anil)) snx) (sseq (sif (tv (bin (gEq false) (rd 0) (cst (.int 2)))) (sraise "BadItem" ["index"] (acons (rd 1) anil)) snx) (sseq (sif (tv (bin (gEq false) (rd 0) (cst (.int 3)))) (sraise "BadEvent" ["value"] (acons (rd 1) anil)) snx) (sseq (sif (tv (bin (gEq false) (rd 0) (cst (.int 4)))) (sraise "BadNote" ["line"] (acons (rd 1) anil)) snx) (sseq (sif (tv (bin (gEq false) (rd 0) (cst (.int 5)))) (sraise "TooMany" ["limit"] (acons (rd 1) anil)) snx) (sseq (sif (tv (bin (gEq false) (rd 0) (cst (.int 6)))) (sraise "Unknown" ["value"] (acons (rd 1) anil)) snx) (sseq (sif (tv (bin (gEq false) (rd 0) (cst (.int 7)))) (sraise "Taken" ["value"] (acons (rd 1) anil)) snx) (sseq (skl [1, 2] (sif (tv (bin (gEq false) (rd 0) (cst (.int 8)))) (sraise "Refused" ["reason", "names"] (acons (rd 1) (acons (rd 2) anil))) snx)) (sraise0 "NothingToUndo")))))))))) (sseq (sasg 4 (mkLst (acons (gisX 3 tx_BadNumber) (acons (gisX 3 tx_BadName) (acons (gisX 3 tx_BadItem) (acons (gisX 3 tx_BadEvent) (acons (gisX 3 tx_BadNote) anil))))))) (sseq (sasg 4 (bin gAdd (rd 4) (mkLst (acons (gisX 3 tx_TooMany) (acons (gisX 3 tx_Unknown) (acons (gisX 3 tx_Taken) (acons (gisX 3 tx_Refused) (acons (gisX 3 tx_NothingToUndo) anil)))))))) (sseq (sif (tor (tnot (tv (gisX 3 tx_ValueError))) (tor (tv (gisX 3 tx_LookupError)) (tv (gisX 3 tx_RuntimeError)))) (sret (cst .non)) snx) (sseq (sasg 5 (cst .non)) (sseq (sif (tv (bin (gIn false) (rd 0) (mkLst (acons (cst (.int 0)) (acons (cst (.int 1)) (acons (cst (.int 3)) (acons (cst (.int 6)) (acons (cst (.int 7)) anil)))))))) (sasg 5 (xfld 3 kn_value "value")) snx) (sseq (sif (tv (bin (gEq false) (rd 0) (cst (.int 2)))) (sasg 5 (xfld 3 kn_index "index")) snx) (sseq (sif (tv (bin (gEq false) (rd 0) (cst (.int 4)))) (sasg 5 (xfld 3 kn_line "line")) snx) (sseq (sif (tv (bin (gEq false) (rd 0) (cst (.int 5)))) (sasg 5 (xfld 3 kn_limit "limit")) snx) (sseq (skl [0] (sif (tv (bin (gEq false) (rd 0) (cst (.int 8)))) (sasg 5 (mkTup (acons (xfld 3 kn_reason "reason") (acons (xfld 3 kn_names "names") anil)))) snx)) (sret (mkTup (acons (rd 4) (acons (rd 5) anil)))))))))))))))
def R__law_raised : List D → RF := runP 6 3 b__law_raised
abbrev s_law : Stmt := (top 17)
def lc_law_1 : List Sl → RE D :=
  (lcomp (irng1 (cst (.int 10))) (gnm 8) tyes (bin (gEq false) (rd 8) (pk 2)) [8])
def fb_law_1 : List Sl → RS :=
  (skl [2, 3, 4, 5, 6] (sseq (sasg 3 (callI 1 R__law_pick (acons (mkLst (acons (cst .non) (acons (cst (.int 7)) (acons (cst (.str "x")) (acons (mkTup (acons (cst (.int 1)) (acons (cst (.int 2)) anil))) (acons (cst (.bl true)) (acons (callI 1 R__law_taken (acons (bin gPow (cst (.int 10)) (cst (.int 9))) anil)) anil))))))) anil))) (sseq (sasg 4 (callI 1 R__law_pick (acons (mkLst (acons (mkTup anil) (acons (mkTup (acons (cst (.str "a")) anil)) anil))) anil))) (sseq (sasg 5 (call R__law_raised (acons (rd 2) (acons (rd 3) (acons (rd 4) anil))))) (sseq (sif (tor (tv (un (gIsN false) (rd 5))) (tv (bin (gEq true) (binL gIx 5 (cst (.int 0))) lc_law_1))) (sret (cst (.bl false))) snx) (sseq (sasg 6 (rd 3)) (sseq (skl [3, 4] (sif (tv (bin (gEq false) (rd 2) (cst (.int 8)))) (skl [3, 4] (sasg 6 (mkTup (acons (rd 3) (acons (rd 4) anil))))) snx)) (skl [2, 5, 6] (sif (tand (tv (bin gLt (rd 2) (cst (.int 9)))) (tor (tv (bin (gEq true) (binL gIx 5 (cst (.int 1))) (pk 6))) (tv (bin (gEq true) (un (gIsi "bool") (binL gIx 5 (cst (.int 1)))) (un (gIsi "bool") (pk 6)))))) (sret (cst (.bl false))) snx)))))))))
def b_law : List Sl → RS :=
  (sseq (skl [0] (sown 1 (mkLst (acons (rd 0) (acons (cst (.int 0)) (acons (cst (.int 53)) (acons (cst (.int 0)) anil))))))) (sseq (skl [1, 2, 3, 4, 5, 6] (sfor (irng1 (cst (.int 10))) (gnm 2) fb_law_1)) (sseq (sasg 7 (mkLst (acons (kwf ["value"] "value" (acons (cst (.int 1)) anil)) (acons (kwf ["value"] "value" (acons (cst (.str "a")) anil)) (acons (kwf ["index"] "index" (acons (cst (.int 4)) anil)) (acons (kwf ["value"] "value" (acons (cst (.int 5)) anil)) (acons (kwf ["line"] "line" (acons (cst (.int 6)) anil)) anil))))))) (sseq (sasg 7 (bin gAdd (rd 7) (mkLst (acons (kwf ["limit"] "limit" (acons (cst (.int 7)) anil)) (acons (kwf ["value"] "value" (acons (cst (.int 8)) anil)) (acons (kwf ["value"] "value" (acons (cst (.int 9)) anil)) (acons (kwf ["reason", "names"] "names" (acons (cst (.str "r")) (acons (cst (.int 11)) anil))) (acons (kwf ["names", "reason"] "reason" (acons (cst (.int 1)) (acons (cst (.str "s")) anil))) anil)))))))) (sret (call (R__law_alike 24) (acons (rd 7) (acons (mkLst (acons (cst (.int 1)) (acons (cst (.str "a")) (acons (cst (.int 4)) (acons (cst (.int 5)) (acons (cst (.int 6)) (acons (cst (.int 7)) (acons (cst (.int 8)) (acons (cst (.int 9)) (acons (cst (.int 11)) (acons (cst (.str "s")) anil))))))))))) anil))))))))
def R_law : List D → RF := runP 9 1 b_law
/-- what the top has written -/
structure Tx (P : Program) (w : World) (K : PySem.W.Frag) (mg : Str → Option Value) : Prop where
  n_LookupError : mg "LookupError" = none
  n_RuntimeError : mg "RuntimeError" = none
  n_ValueError : mg "ValueError" = none
  n_bool : mg "bool" = none
  n_int : mg "int" = none
  n_isinstance : mg "isinstance" = none
  n_len : mg "len" = none
  n_list : mg "list" = none
  n_range : mg "range" = none
  n_str : mg "str" = none
  n_tuple : mg "tuple" = none
  x_BadEvent : HasEx P w K mg "BadEvent" ["value"]
  x_BadItem : HasEx P w K mg "BadItem" ["index"]
  x_BadName : HasEx P w K mg "BadName" ["value"]
  x_BadNote : HasEx P w K mg "BadNote" ["line"]
  x_BadNumber : HasEx P w K mg "BadNumber" ["value"]
  y_NothingToUndo : HasE0 K mg "NothingToUndo"
  x_Refused : HasEx P w K mg "Refused" ["reason", "names"]
  x_Taken : HasEx P w K mg "Taken" ["value"]
  x_TooMany : HasEx P w K mg "TooMany" ["limit"]
  x_Unknown : HasEx P w K mg "Unknown" ["value"]
  t_HeldError : ∃ S, mg "HeldError" = some (.ref S) ∧ CatOk ⟨K, mg⟩ (.ref S) cat_HeldError
  k_index : ∀ c, kn_index c = true → ∃ C fI fs, DLX.Cl P K mg c C fI fs ∧ ("index" : Str) ∈ fs
  k_limit : ∀ c, kn_limit c = true → ∃ C fI fs, DLX.Cl P K mg c C fI fs ∧ ("limit" : Str) ∈ fs
  k_line : ∀ c, kn_line c = true → ∃ C fI fs, DLX.Cl P K mg c C fI fs ∧ ("line" : Str) ∈ fs
  k_names : ∀ c, kn_names c = true → ∃ C fI fs, DLX.Cl P K mg c C fI fs ∧ ("names" : Str) ∈ fs
  k_reason : ∀ c, kn_reason c = true → ∃ C fI fs, DLX.Cl P K mg c C fI fs ∧ ("reason" : Str) ∈ fs
  k_value : ∀ c, kn_value c = true → ∃ C fI fs, DLX.Cl P K mg c C fI fs ∧ ("value" : Str) ∈ fs
  w_BadEvent_value : HasKw P w K mg "BadEvent" ["value"]
  w_BadItem_index : HasKw P w K mg "BadItem" ["index"]
  w_BadName_value : HasKw P w K mg "BadName" ["value"]
  w_BadNote_line : HasKw P w K mg "BadNote" ["line"]
  w_BadNumber_value : HasKw P w K mg "BadNumber" ["value"]
  w_Refused_names_reason : HasKw P w K mg "Refused" ["names", "reason"]
  w_Refused_reason_names : HasKw P w K mg "Refused" ["reason", "names"]
  w_Taken_value : HasKw P w K mg "Taken" ["value"]
  w_TooMany_limit : HasKw P w K mg "TooMany" ["limit"]
  w_Unknown_value : HasKw P w K mg "Unknown" ["value"]
  s_BadEvent : ∃ S, mg "BadEvent" = some (.ref S) ∧ IsX K mg (.ref S) tx_BadEvent
  s_BadItem : ∃ S, mg "BadItem" = some (.ref S) ∧ IsX K mg (.ref S) tx_BadItem
  s_BadName : ∃ S, mg "BadName" = some (.ref S) ∧ IsX K mg (.ref S) tx_BadName
  s_BadNote : ∃ S, mg "BadNote" = some (.ref S) ∧ IsX K mg (.ref S) tx_BadNote
  s_BadNumber : ∃ S, mg "BadNumber" = some (.ref S) ∧ IsX K mg (.ref S) tx_BadNumber
  s_NothingToUndo : ∃ S, mg "NothingToUndo" = some (.ref S) ∧ IsX K mg (.ref S) tx_NothingToUndo
  s_Refused : ∃ S, mg "Refused" = some (.ref S) ∧ IsX K mg (.ref S) tx_Refused
  s_Taken : ∃ S, mg "Taken" = some (.ref S) ∧ IsX K mg (.ref S) tx_Taken
  s_TooMany : ∃ S, mg "TooMany" = some (.ref S) ∧ IsX K mg (.ref S) tx_TooMany
  s_Unknown : ∃ S, mg "Unknown" = some (.ref S) ∧ IsX K mg (.ref S) tx_Unknown
  s_LookupError : IsX K mg (.type "LookupError") tx_LookupError
  s_RuntimeError : IsX K mg (.type "RuntimeError") tx_RuntimeError
  s_ValueError : IsX K mg (.type "ValueError") tx_ValueError
  a__law_alike : FnAt K mg "_law_alike" "_law_alike" s__law_alike ["found", "due"]
  a__law_taken : FnAt K mg "_law_taken" "_law_taken" s__law_taken ["row", "many"]
  a__law_pick : FnAt K mg "_law_pick" "_law_pick" s__law_pick ["row", "kinds"]
  a__law_raised : FnAt K mg "_law_raised" "_law_raised" s__law_raised ["number", "value", "named"]
  a_law : FnAt K mg "law" "law" s_law ["script"]
section
variable {P : Program} {w : World} {K : PySem.W.Frag} {mg : Str → Option Value} {base : Heap}
theorem sc__law_alike : FnScope ["found", "due", "k"] ["found", "due"] (defScope s__law_alike) := ⟨rfl, rfl, rfl, by decide +kernel, rfl, by decide +kernel, by decide +kernel⟩
theorem w__law_alike (T : Tx P w K mg)  {n : Nat} {me : List D → RF} (hme : Has P w K mg base (0 + n) "_law_alike" ["found", "due"] (spP ⟨K, mg⟩ me)) (f : Addr) : BodyOk P w K mg base ["found", "due", "k"] "_law_alike" s__law_alike f (0 + n) (b__law_alike me) := by
  intro cdv A outer s H E J hG hx B
  unfold b__law_alike
  exact (s_cons (s_if (t_val (e_isi2 (hK_ hG) kt_tuple kt_list (by rfl) T.n_isinstance (b_name 1) (by rfl) T.n_tuple (by decide +kernel) (by rfl) T.n_list (by decide +kernel))) (s_cons (s_if (PW.pt (w_or (t_not (t_val (e_isi2 (hK_ hG) kt_tuple kt_list (by rfl) T.n_isinstance (b_name 0) (by rfl) T.n_tuple (by decide +kernel) (by rfl) T.n_list (by decide +kernel)))) (w_one (t_ne (hK_ hG) B.hu (e_isi (hK_ hG) kt_list (by rfl) T.n_isinstance (b_name 0) (by rfl) T.n_list (by decide +kernel)) (b_of (e_isi (hK_ hG) kt_list (by rfl) T.n_isinstance (b_name 1) (by rfl) T.n_list (by decide +kernel))))))) (s_one (s_ret e_bl)) s_nil) (s_cons (s_if (t_ne (hK_ hG) B.hu (e_len (hK_ hG) (by rfl) T.n_len (b_name 0)) (b_of (e_len (hK_ hG) (by rfl) T.n_len (b_name 1)))) (s_one (s_ret e_bl)) s_nil) (s_one (s_ret (e_eq (hK_ hG) B.hu (e_of_n (n_lc (own := [("k", 2)]) [2] B.calm B.nd (i_rng1 (by rfl) T.n_range (e_len (hK_ hG) (by rfl) T.n_len (b_name 1))) ok_nm (blkOk_by (by kernel_rfl)) rfl (fun _ _ _ _ _ _ b1 => (g_name 2 B.nd)) (fun _ _ _ _ _ _ b1 => (pts_one' (t_not (t_val (c_P (b1.G.trans hG) hme (B.room.mono (by omega)) B.gd (takes_blk b1) (a_cons (e_ixL 0 (hK_ (b1.G.trans hG)) B.hu (b_name 2)) (a_cons (e_ixL 1 (hK_ (b1.G.trans hG)) B.hu (b_name 2)) a_nil))))))) (fun _ _ _ _ _ _ b1 => (e_name 2)))) (b_of (e_of_n (n_lst a_nil)))))))) s_nil) (s_cons (s_if (PW.pt (w_or (t_isN (e_name 1)) (w_one (t_val (e_isi (hK_ hG) kt_str (by rfl) T.n_isinstance (b_name 1) (by rfl) T.n_str (by decide +kernel)))))) (s_one (s_ret (e_and (e_eq (hK_ hG) B.hu (e_name 0) (b_name 1)) (e_one (e_eq (hK_ hG) B.hu (e_isi (hK_ hG) kt_str (by rfl) T.n_isinstance (b_name 0) (by rfl) T.n_str (by decide +kernel)) (b_of (e_isi (hK_ hG) kt_str (by rfl) T.n_isinstance (b_name 1) (by rfl) T.n_str (by decide +kernel)))))))) s_nil) (s_one (s_ret (e_and (e_isi (hK_ hG) kt_int (by rfl) T.n_isinstance (b_name 0) (by rfl) T.n_int (by decide +kernel)) (e_and (e_eq (hK_ hG) B.hu (e_isi (hK_ hG) kt_bool (by rfl) T.n_isinstance (b_name 0) (by rfl) T.n_bool (by decide +kernel)) (b_of (e_isi (hK_ hG) kt_bool (by rfl) T.n_isinstance (b_name 1) (by rfl) T.n_bool (by decide +kernel)))) (e_one (e_eq (hK_ hG) B.hu (e_name 0) (b_name 1)))))))))
theorem o__law_alike (T : Tx P w K mg)  : ∀ n, Has P w K mg base (0 + n) "_law_alike" ["found", "due"] (spP ⟨K, mg⟩ (R__law_alike n))
  | 0 => has_bad T.a__law_alike
  | n + 1 => has_P T.a__law_alike sc__law_alike (by decide) (w__law_alike T  (o__law_alike T  n))
theorem sc__law_taken : FnScope ["row", "many", "found", "cell"] ["row", "many"] (defScope s__law_taken) := ⟨rfl, rfl, rfl, by decide +kernel, rfl, by decide +kernel, by decide +kernel⟩
theorem w__law_taken (T : Tx P w K mg)  (f : Addr) : BodyOk P w K mg base ["row", "many", "found", "cell"] "_law_taken" s__law_taken f 0 b__law_taken := by
  intro cdv A outer s H E J hG hx B
  unfold b__law_taken
  exact (s_cons (s_kl [2] (s_if (t_gt (e_ixL 0 (hK_ hG) B.hu (b_of e_int)) (b_of e_int)) (s_cons (s_asg 2 B.nd (e_mod (e_toInt (by rfl) T.n_int (b_of (e_ixL 0 (hK_ hG) B.hu (b_of e_int)))) (b_name 1))) (s_cons (s_kl [1] (s_set 0 B.hu (e_div (e_ixL 0 (hK_ hG) B.hu (b_of e_int)) (b_name 1)) (b_of e_int))) (s_one (s_ret (e_name 2))))) s_nil)) (s_cons (s_set 0 B.hu (e_add (hK_ hG) (e_ixL 0 (hK_ hG) B.hu (b_of e_int)) (b_of e_int)) (b_of e_int)) (s_cons (s_if (t_gt (e_ixL 0 (hK_ hG) B.hu (b_of e_int)) (b_of (e_len (hK_ hG) (by rfl) T.n_len (b_of (e_ixL 0 (hK_ hG) B.hu (b_of e_int)))))) (s_cons (s_set 0 B.hu (e_mod (e_toInt (by rfl) T.n_int (b_of (e_add (hK_ hG) (e_mul (e_ixL 0 (hK_ hG) B.hu (b_of e_int)) (b_of e_int)) (b_of e_int)))) (b_of e_int)) (b_of e_int)) (s_one (s_ret (e_mod (e_toInt (by rfl) T.n_int (b_of (e_div (e_ixL 0 (hK_ hG) B.hu (b_of e_int)) (b_of e_int)))) (b_name 1))))) s_nil) (s_cons (s_asg 3 B.nd (e_ix (hK_ hG) B.hu (e_ixL 0 (hK_ hG) B.hu (b_of e_int)) (b_of (e_sub (e_ixL 0 (hK_ hG) B.hu (b_of e_int)) (b_of e_int))))) (s_cons (s_set 0 B.hu (e_mod (e_toInt (by rfl) T.n_int (b_of (e_add (hK_ hG) (e_add (hK_ hG) (e_mul (e_ixL 0 (hK_ hG) B.hu (b_of e_int)) (b_of e_int)) (b_name 3)) (b_of e_int)))) (b_of e_int)) (b_of e_int)) (s_cons (s_if (t_ge (e_name 3) (b_of (e_pow e_int (b_of e_int)))) (s_one (s_set 0 B.hu (e_div (e_name 3) (b_name 1)) (b_of e_int))) s_nil) (s_one (s_ret (e_mod (e_toInt (by rfl) T.n_int (b_name 3)) (b_name 1))))))))))
theorem o__law_taken (T : Tx P w K mg)  : Has P w K mg base 1 "_law_taken" ["row", "many"] (spI ⟨K, mg⟩ R__law_taken) := has_I T.a__law_taken sc__law_taken (by decide) (w__law_taken T )
theorem sc__law_pick : FnScope ["row", "kinds"] ["row", "kinds"] (defScope s__law_pick) := ⟨rfl, rfl, rfl, by decide +kernel, rfl, by decide +kernel, by decide +kernel⟩
theorem w__law_pick (T : Tx P w K mg) (h__law_taken : Has P w K mg base 1 "_law_taken" ["row", "many"] (spI ⟨K, mg⟩ R__law_taken)) (f : Addr) : BodyOk P w K mg base ["row", "kinds"] "_law_pick" s__law_pick f 1 b__law_pick := by
  intro cdv A outer s H E J hG hx B
  unfold b__law_pick
  exact (s_one (s_ret (e_ixL 1 (hK_ hG) B.hu (b_of (c_I 0 hG h__law_taken (B.room.mono (by omega)) B.gd B.tk (a_cons (e_len (hK_ hG) (by rfl) T.n_len (b_name 1)) a_nil))))))
theorem o__law_pick (T : Tx P w K mg) (h__law_taken : Has P w K mg base 1 "_law_taken" ["row", "many"] (spI ⟨K, mg⟩ R__law_taken)) : Has P w K mg base 2 "_law_pick" ["row", "kinds"] (spI ⟨K, mg⟩ R__law_pick) := has_I T.a__law_pick sc__law_pick (by decide) (w__law_pick T h__law_taken)
theorem sc__law_raised : FnScope ["number", "value", "named", "e", "kinds", "field"] ["number", "value", "named"] (defScope s__law_raised) := ⟨rfl, rfl, rfl, by decide +kernel, rfl, by decide +kernel, by decide +kernel⟩
theorem w__law_raised (T : Tx P w K mg)  (f : Addr) : BodyOk P w K mg base ["number", "value", "named", "e", "kinds", "field"] "_law_raised" s__law_raised f 0 b__law_raised := by
  intro cdv A outer s H E J hG hx B
  unfold b__law_raised
  exact (s_one (s_kl [0, 1, 2, 4, 5] (c_try 3 hG T.t_HeldError B.stk B.fr B.nd B.tk (fun _ _ _ tk2 po3 => (s_cons (s_if (t_eq (hK_ hG) B.hu (e_name 0) (b_of e_int)) (s_one (r_ex hG T.x_BadNumber B.calm tk2 B.dp (a_cons (e_name 1) a_nil))) s_nil) (s_cons (s_if (t_eq (hK_ hG) B.hu (e_name 0) (b_of e_int)) (s_one (r_ex hG T.x_BadName B.calm tk2 B.dp (a_cons (e_name 1) a_nil))) s_nil) (s_cons (s_if (t_eq (hK_ hG) B.hu (e_name 0) (b_of e_int)) (s_one (r_ex hG T.x_BadItem B.calm tk2 B.dp (a_cons (e_name 1) a_nil))) s_nil) (s_cons (s_if (t_eq (hK_ hG) B.hu (e_name 0) (b_of e_int)) (s_one (r_ex hG T.x_BadEvent B.calm tk2 B.dp (a_cons (e_name 1) a_nil))) s_nil) (s_cons (s_if (t_eq (hK_ hG) B.hu (e_name 0) (b_of e_int)) (s_one (r_ex hG T.x_BadNote B.calm tk2 B.dp (a_cons (e_name 1) a_nil))) s_nil) (s_cons (s_if (t_eq (hK_ hG) B.hu (e_name 0) (b_of e_int)) (s_one (r_ex hG T.x_TooMany B.calm tk2 B.dp (a_cons (e_name 1) a_nil))) s_nil) (s_cons (s_if (t_eq (hK_ hG) B.hu (e_name 0) (b_of e_int)) (s_one (r_ex hG T.x_Unknown B.calm tk2 B.dp (a_cons (e_name 1) a_nil))) s_nil) (s_cons (s_if (t_eq (hK_ hG) B.hu (e_name 0) (b_of e_int)) (s_one (r_ex hG T.x_Taken B.calm tk2 B.dp (a_cons (e_name 1) a_nil))) s_nil) (s_cons (s_kl [1, 2] (s_if (t_eq (hK_ hG) B.hu (e_name 0) (b_of e_int)) (s_one (r_ex hG T.x_Refused B.calm tk2 B.dp (a_cons (e_name 1) (a_cons (e_name 2) a_nil)))) s_nil)) (s_one (r_ex0 hG T.y_NothingToUndo B.calm tk2)))))))))))) (fun _ _ _ _ _ hz4 hf5 => (s_cons (s_asg 4 B.nd (e_of_n (n_lst (a_cons (e_isX 3 (hM_ hG) hz4 hf5 rfl T.s_BadNumber (by rfl) T.n_isinstance) (a_cons (e_isX 3 (hM_ hG) hz4 hf5 rfl T.s_BadName (by rfl) T.n_isinstance) (a_cons (e_isX 3 (hM_ hG) hz4 hf5 rfl T.s_BadItem (by rfl) T.n_isinstance) (a_cons (e_isX 3 (hM_ hG) hz4 hf5 rfl T.s_BadEvent (by rfl) T.n_isinstance) (a_cons (e_isX 3 (hM_ hG) hz4 hf5 rfl T.s_BadNote (by rfl) T.n_isinstance) a_nil)))))))) (s_cons (s_asg 4 B.nd (e_add (hK_ hG) (e_name 4) (b_of (e_of_n (n_lst (a_cons (e_isX 3 (hM_ hG) hz4 hf5 rfl T.s_TooMany (by rfl) T.n_isinstance) (a_cons (e_isX 3 (hM_ hG) hz4 hf5 rfl T.s_Unknown (by rfl) T.n_isinstance) (a_cons (e_isX 3 (hM_ hG) hz4 hf5 rfl T.s_Taken (by rfl) T.n_isinstance) (a_cons (e_isX 3 (hM_ hG) hz4 hf5 rfl T.s_Refused (by rfl) T.n_isinstance) (a_cons (e_isX 3 (hM_ hG) hz4 hf5 rfl T.s_NothingToUndo (by rfl) T.n_isinstance) a_nil)))))))))) (s_cons (s_if (PW.pt (w_or (t_not (t_val (e_isXb 3 (hM_ hG) hz4 hf5 rfl T.s_ValueError (by rfl) T.n_isinstance (by rfl) T.n_ValueError (by decide +kernel)))) (w_or (t_val (e_isXb 3 (hM_ hG) hz4 hf5 rfl T.s_LookupError (by rfl) T.n_isinstance (by rfl) T.n_LookupError (by decide +kernel))) (w_one (t_val (e_isXb 3 (hM_ hG) hz4 hf5 rfl T.s_RuntimeError (by rfl) T.n_isinstance (by rfl) T.n_RuntimeError (by decide +kernel))))))) (s_one (s_ret e_non)) s_nil) (s_cons (s_asg 5 B.nd e_non) (s_cons (s_if (t_in (hK_ hG) B.hu (e_name 0) (b_of (e_of_n (n_lst (a_cons e_int (a_cons e_int (a_cons e_int (a_cons e_int (a_cons e_int a_nil))))))))) (s_one (s_asg 5 B.nd (e_xfld 3 (hM_ hG) hz4 hf5 rfl T.k_value))) s_nil) (s_cons (s_if (t_eq (hK_ hG) B.hu (e_name 0) (b_of e_int)) (s_one (s_asg 5 B.nd (e_xfld 3 (hM_ hG) hz4 hf5 rfl T.k_index))) s_nil) (s_cons (s_if (t_eq (hK_ hG) B.hu (e_name 0) (b_of e_int)) (s_one (s_asg 5 B.nd (e_xfld 3 (hM_ hG) hz4 hf5 rfl T.k_line))) s_nil) (s_cons (s_if (t_eq (hK_ hG) B.hu (e_name 0) (b_of e_int)) (s_one (s_asg 5 B.nd (e_xfld 3 (hM_ hG) hz4 hf5 rfl T.k_limit))) s_nil) (s_cons (s_kl [0] (s_if (t_eq (hK_ hG) B.hu (e_name 0) (b_of e_int)) (s_one (s_asg 5 B.nd (e_tup (a_cons (e_xfld 3 (hM_ hG) hz4 hf5 rfl T.k_reason) (a_cons (e_xfld 3 (hM_ hG) hz4 hf5 rfl T.k_names) a_nil))))) s_nil)) (s_one (s_ret (e_tup (a_cons (e_name 4) (a_cons (e_name 5) a_nil))))))))))))))))))
theorem o__law_raised (T : Tx P w K mg)  : Has P w K mg base 1 "_law_raised" ["number", "value", "named"] (spP ⟨K, mg⟩ R__law_raised) := has_P T.a__law_raised sc__law_raised (by decide) (w__law_raised T )
theorem sc_law : FnScope ["script", "row", "number", "value", "named", "told", "due", "made", "k"] ["script"] (defScope s_law) := ⟨rfl, rfl, rfl, by decide +kernel, rfl, by decide +kernel, by decide +kernel⟩
theorem w_law (T : Tx P w K mg) (h__law_alike : Has P w K mg base 24 "_law_alike" ["found", "due"] (spP ⟨K, mg⟩ (R__law_alike 24))) (h__law_pick : Has P w K mg base 2 "_law_pick" ["row", "kinds"] (spI ⟨K, mg⟩ R__law_pick)) (h__law_raised : Has P w K mg base 1 "_law_raised" ["number", "value", "named"] (spP ⟨K, mg⟩ R__law_raised)) (h__law_taken : Has P w K mg base 1 "_law_taken" ["row", "many"] (spI ⟨K, mg⟩ R__law_taken)) (f : Addr) : BodyOk P w K mg base ["script", "row", "number", "value", "named", "told", "due", "made", "k"] "law" s_law f 24 b_law := by
  intro cdv A outer s H E J hG hx B
  unfold b_law fb_law_1 lc_law_1
  exact (s_cons (s_kl [0] (s_own 1 B.nd (n_lst (a_cons (e_name 0) (a_cons e_int (a_cons e_int (a_cons e_int a_nil))))))) (s_cons (s_kl [1, 2, 3, 4, 5, 6] (s_for B.po B.calm (i_rng1 (by rfl) T.n_range e_int) (vs := [2]) (g_name 2 B.nd) ok_nm (ss_kl [2, 3, 4, 5, 6] (s_cons (s_asg 3 B.nd (c_I 1 hG h__law_pick (B.room.mono (by omega)) B.gd B.tk (a_cons (e_of_n (n_lst (a_cons e_non (a_cons e_int (a_cons e_str (a_cons (e_tup (a_cons e_int (a_cons e_int a_nil))) (a_cons e_bl (a_cons (c_I 1 hG h__law_taken (B.room.mono (by omega)) B.gd B.tk (a_cons (e_pow e_int (b_of e_int)) a_nil)) a_nil)))))))) a_nil))) (s_cons (s_asg 4 B.nd (c_I 1 hG h__law_pick (B.room.mono (by omega)) B.gd B.tk (a_cons (e_of_n (n_lst (a_cons (e_tup a_nil) (a_cons (e_tup (a_cons e_str a_nil)) a_nil)))) a_nil))) (s_cons (s_asg 5 B.nd (c_P hG h__law_raised (B.room.mono (by omega)) B.gd B.tk (a_cons (e_name 2) (a_cons (e_name 3) (a_cons (e_name 4) a_nil))))) (s_cons (s_if (PW.pt (w_or (t_isN (e_name 5)) (w_one (t_ne (hK_ hG) B.hu (e_ixL 5 (hK_ hG) B.hu (b_of e_int)) (b_of (e_of_n (n_lc (own := [("k", 8)]) [8] B.calm B.nd (i_rng1 (by rfl) T.n_range e_int) ok_nm (blkOk_by (by kernel_rfl)) rfl (fun _ _ _ _ _ _ b6 => (g_name 8 B.nd)) (fun _ _ _ _ _ _ b6 => pts_nil') (fun _ _ _ _ _ _ b6 => (e_eq (hK_ (b6.G.trans hG)) B.hu (e_name 8) (b_name 2)))))))))) (s_one (s_ret e_bl)) s_nil) (s_cons (s_asg 6 B.nd (e_name 3)) (s_cons (s_kl [3, 4] (s_if (t_eq (hK_ hG) B.hu (e_name 2) (b_of e_int)) (s_one (s_kl [3, 4] (s_asg 6 B.nd (e_tup (a_cons (e_name 3) (a_cons (e_name 4) a_nil)))))) s_nil)) (s_one (s_kl [2, 5, 6] (s_if (PW.pt (w_and (t_lt (e_name 2) (b_of e_int)) (w_one (PW.pt (w_or (t_ne (hK_ hG) B.hu (e_ixL 5 (hK_ hG) B.hu (b_of e_int)) (b_name 6)) (w_one (t_ne (hK_ hG) B.hu (e_isi (hK_ hG) kt_bool (by rfl) T.n_isinstance (b_of (e_ixL 5 (hK_ hG) B.hu (b_of e_int))) (by rfl) T.n_bool (by decide +kernel)) (b_of (e_isi (hK_ hG) kt_bool (by rfl) T.n_isinstance (b_name 6) (by rfl) T.n_bool (by decide +kernel)))))))))) (s_one (s_ret e_bl)) s_nil)))))))))))) (s_cons (s_asg 7 B.nd (e_of_n (n_lst (a_cons (e_kwf hG T.w_BadNumber_value (kw_cons e_int kw_nil) B.dp) (a_cons (e_kwf hG T.w_BadName_value (kw_cons e_str kw_nil) B.dp) (a_cons (e_kwf hG T.w_BadItem_index (kw_cons e_int kw_nil) B.dp) (a_cons (e_kwf hG T.w_BadEvent_value (kw_cons e_int kw_nil) B.dp) (a_cons (e_kwf hG T.w_BadNote_line (kw_cons e_int kw_nil) B.dp) a_nil)))))))) (s_cons (s_asg 7 B.nd (e_add (hK_ hG) (e_name 7) (b_of (e_of_n (n_lst (a_cons (e_kwf hG T.w_TooMany_limit (kw_cons e_int kw_nil) B.dp) (a_cons (e_kwf hG T.w_Unknown_value (kw_cons e_int kw_nil) B.dp) (a_cons (e_kwf hG T.w_Taken_value (kw_cons e_int kw_nil) B.dp) (a_cons (e_kwf hG T.w_Refused_reason_names (kw_cons e_str (kw_cons e_int kw_nil)) B.dp) (a_cons (e_kwf hG T.w_Refused_names_reason (kw_cons e_int (kw_cons e_str kw_nil)) B.dp) a_nil)))))))))) (s_one (s_ret (c_P hG h__law_alike (B.room.mono (by omega)) B.gd B.tk (a_cons (e_name 7) (a_cons (e_of_n (n_lst (a_cons e_int (a_cons e_str (a_cons e_int (a_cons e_int (a_cons e_int (a_cons e_int (a_cons e_int (a_cons e_int (a_cons e_int (a_cons e_str a_nil)))))))))))) a_nil)))))))))
theorem o_law (T : Tx P w K mg) {fa : Addr} {fd : FuncData} (F : Fun K "law" "law" s_law fa fd) : FnG P w K mg base 25 fa fd ["script"] (spP ⟨K, mg⟩ R_law) := by
  have h__law_alike := o__law_alike (base := base) T  24
  have h__law_taken := o__law_taken (base := base) T 
  have h__law_pick := o__law_pick (base := base) T h__law_taken
  have h__law_raised := o__law_raised (base := base) T 
  exact fnP F sc_law (by decide) (w_law T h__law_alike h__law_pick h__law_raised h__law_taken fa)
end
end
end K09

set_option Elab.async false
set_option linter.all false
set_option maxRecDepth 100000
set_option maxHeartbeats 4000000
namespace K09
open PySem DL KC
theorem ct_HeldError_BadEvent : cat_HeldError "BadEvent" = some true := by decide +kernel
theorem ct_HeldError_BadItem : cat_HeldError "BadItem" = some true := by decide +kernel
theorem ct_HeldError_BadName : cat_HeldError "BadName" = some true := by decide +kernel
theorem ct_HeldError_BadNote : cat_HeldError "BadNote" = some true := by decide +kernel
theorem ct_HeldError_BadNumber : cat_HeldError "BadNumber" = some true := by decide +kernel
theorem ct_HeldError_NothingToUndo : cat_HeldError "NothingToUndo" = some true := by decide +kernel
theorem ct_HeldError_Refused : cat_HeldError "Refused" = some true := by decide +kernel
theorem ct_HeldError_Taken : cat_HeldError "Taken" = some true := by decide +kernel
theorem ct_HeldError_TooMany : cat_HeldError "TooMany" = some true := by decide +kernel
theorem ct_HeldError_Unknown : cat_HeldError "Unknown" = some true := by decide +kernel
theorem kn_index_BadItem : kn_index "BadItem" = true := by decide +kernel
theorem xf_index_1 {a0 : D} : ((["index"] : List Str).zip [a0]).lookup ("index" : Str) = some a0 := look_hd
theorem kn_limit_TooMany : kn_limit "TooMany" = true := by decide +kernel
theorem xf_limit_1 {a0 : D} : ((["limit"] : List Str).zip [a0]).lookup ("limit" : Str) = some a0 := look_hd
theorem kn_line_BadNote : kn_line "BadNote" = true := by decide +kernel
theorem xf_line_1 {a0 : D} : ((["line"] : List Str).zip [a0]).lookup ("line" : Str) = some a0 := look_hd
theorem kn_names_Refused : kn_names "Refused" = true := by decide +kernel
theorem xf_names_2 {a0 a1 : D} : ((["reason", "names"] : List Str).zip [a0, a1]).lookup ("names" : Str) = some a1 := ((look_tl (by decide +kernel)).trans look_hd)
theorem kn_reason_Refused : kn_reason "Refused" = true := by decide +kernel
theorem xf_reason_2 {a0 a1 : D} : ((["reason", "names"] : List Str).zip [a0, a1]).lookup ("reason" : Str) = some a0 := look_hd
theorem kn_value_BadEvent : kn_value "BadEvent" = true := by decide +kernel
theorem xf_value_1 {a0 : D} : ((["value"] : List Str).zip [a0]).lookup ("value" : Str) = some a0 := look_hd
theorem kn_value_BadName : kn_value "BadName" = true := by decide +kernel
theorem kn_value_BadNumber : kn_value "BadNumber" = true := by decide +kernel
theorem kn_value_Taken : kn_value "Taken" = true := by decide +kernel
theorem kn_value_Unknown : kn_value "Unknown" = true := by decide +kernel
end K09

set_option Elab.async false
set_option linter.all false
set_option maxRecDepth 100000
set_option maxHeartbeats 4000000
set_option pp.maxSteps 3000
set_option exponentiation.threshold 20000
namespace K09
open PySem DL KC
open L2 (atI ixN)
local macro_rules
  | `(tactic| dsimp?! only [$xs,*]) => do
    let ys : Lean.Syntax.TSepArray `Lean.Parser.Tactic.simpLemma "," := ⟨xs.elemsAndSeps⟩
    `(tactic| simp only [bind_ok, bind_exn, bind_bad, s_ok, s_exn, s_bad, rd_ap, pk_ap, cst_ap, lift_some, lift_none, bin_ap, has_ap, binL_ap, un_ap, anil_ap, acons_ap, mkTup_ap, mkLst_ap, asB_bl, tv_ap, tnot_ap, tand_ap, tor_ap, vand_ap, vor_ap, vnot_ap, vif_ap, vchain_ap, sasg_ap, sown_ap, sif_ap, sret_ap, sexp_ap, snx_ap, sseq_ap, spar_ap, stg_ap, gnm_ap, gnil_ap, gcons_ap, gtp_ap, call_ap, doF_ok, doF_exn, callB_ap, apk_ap, doFB_ok, isOwn_ap, callI_ap, doI_ap, putOwn_ap, setD_ap, sset_ap, isLst_ap, mutl_ap, mutm_ap, sraise_ap, slcL_ap, slc_ap, pno_ap, psome_ap, unN_ap, iseq_ap, irng1_ap, irng2_ap, lrng_ap, gAdd_int, gInt_ap, at0, at1, at2, at3, gIx_lst, gIx_tup, gIx_scr, gLen_lst, gLen_tup, gLen_scr, gToInt_int, List.getElem?_cons_zero, List.getElem?_cons_succ, List.set_cons_zero, List.set_cons_succ, List.length_cons, List.length_nil, ite_true, ite_false, if_true, if_false, Bool.true_and, Bool.and_true, Bool.false_and, Bool.and_false, decide_true, decide_false, Option.map_some, Option.map_none, Bool.not_true, Bool.not_false, reduceIte, Nat.reduceAdd, Nat.reduceLeDiff, Bool.false_eq_true, Bool.true_eq_false, Bool.false_or, Bool.true_or, Bool.or_false, Bool.or_true, noXc_nil, noXc_un, noXc_val, noXc_own, noXc_io, dropAt_nx, dropAt_bk, dropAt_ct, dropAt_rt, keepAt_nx, keepAt_bk, keepAt_ct, keepAt_rt, stry_ap, stry0_ap, xfld_ap, LIM, nc_lit, Int.reduceAdd, Int.reduceSub, Int.reduceNeg, Int.reduceLT, Int.reduceLE, Int.reduceBEq, Nat.reduceLT, sfor_ap, skl_ap, wipeR_nil, wipeR_cons, smix_ap, putsR_nil, putsR_cons, methP_ap, isSq_lst, isSq_tup, ienum_ap, callM_ap', mkOb_ap, sfld_ap, saug_ap, callV_ap, stryN_ap, byH_nil, byH_cons, gStr_str, gAugAdd_int, gNeg_int', gSeq_lst, gSeq_tup, gTuple_lst, gTuple_tup, gList_lst, gList_tup, gSl_lst, gSl_tup, gAdd_lst, gAppend_lst, gExtend_lst, runP_1, runP_2, runP_3, runP_4, runP_5, runI_1, runI_2, runI_3, runI_4, runI_5, outP_nx, outP_rt, outP_exn, outI_nx, outI_rt, outI_exn, List.reduceReplicate, Nat.reduceSub, List.map_cons, List.map_nil, List.cons_append, List.nil_append, i2_non, i2_bl, i2_int, i2_str, i2_tup, i2_lst, i1_non, i1_bl, i1_int, i1_str, i1_tup, i1_lst, isa_NoneType_int, isa_NoneType_bool, isa_NoneType_str, isa_NoneType_tuple, isa_NoneType_list, isa_bool_int, isa_bool_bool, isa_bool_str, isa_bool_tuple, isa_bool_list, isa_int_int, isa_int_bool, isa_int_str, isa_int_tuple, isa_int_list, isa_str_int, isa_str_bool, isa_str_str, isa_str_tuple, isa_str_list, isa_tuple_int, isa_tuple_bool, isa_tuple_str, isa_tuple_tuple, isa_tuple_list, isa_list_int, isa_list_bool, isa_list_str, isa_list_tuple, isa_list_list, isN_non, isN_bl, isN_int, isN_str, isN_tup, isN_lst, gEq_bl, gEq_int, gEq_str, gEq_nn, Bool.xor_false, Bool.xor_true, Bool.false_xor, Bool.true_xor, Bool.or_self, Bool.and_self, beq_self_eq_true, Nat.zero_le, Bool.not_not, ct_HeldError_BadEvent, ct_HeldError_BadItem, ct_HeldError_BadName, ct_HeldError_BadNote, ct_HeldError_BadNumber, ct_HeldError_NothingToUndo, ct_HeldError_Refused, ct_HeldError_Taken, ct_HeldError_TooMany, ct_HeldError_Unknown, kn_index_BadItem, xf_index_1, kn_limit_TooMany, xf_limit_1, kn_line_BadNote, xf_line_1, kn_names_Refused, xf_names_2, kn_reason_Refused, xf_reason_2, kn_value_BadEvent, xf_value_1, kn_value_BadName, kn_value_BadNumber, kn_value_Taken, kn_value_Unknown, $ys,*])
  | `(tactic| dsimp?! only [$xs,*] $l:location) => do
    let ys : Lean.Syntax.TSepArray `Lean.Parser.Tactic.simpLemma "," := ⟨xs.elemsAndSeps⟩
    `(tactic| simp only [bind_ok, bind_exn, bind_bad, s_ok, s_exn, s_bad, rd_ap, pk_ap, cst_ap, lift_some, lift_none, bin_ap, has_ap, binL_ap, un_ap, anil_ap, acons_ap, mkTup_ap, mkLst_ap, asB_bl, tv_ap, tnot_ap, tand_ap, tor_ap, vand_ap, vor_ap, vnot_ap, vif_ap, vchain_ap, sasg_ap, sown_ap, sif_ap, sret_ap, sexp_ap, snx_ap, sseq_ap, spar_ap, stg_ap, gnm_ap, gnil_ap, gcons_ap, gtp_ap, call_ap, doF_ok, doF_exn, callB_ap, apk_ap, doFB_ok, isOwn_ap, callI_ap, doI_ap, putOwn_ap, setD_ap, sset_ap, isLst_ap, mutl_ap, mutm_ap, sraise_ap, slcL_ap, slc_ap, pno_ap, psome_ap, unN_ap, iseq_ap, irng1_ap, irng2_ap, lrng_ap, gAdd_int, gInt_ap, at0, at1, at2, at3, gIx_lst, gIx_tup, gIx_scr, gLen_lst, gLen_tup, gLen_scr, gToInt_int, List.getElem?_cons_zero, List.getElem?_cons_succ, List.set_cons_zero, List.set_cons_succ, List.length_cons, List.length_nil, ite_true, ite_false, if_true, if_false, Bool.true_and, Bool.and_true, Bool.false_and, Bool.and_false, decide_true, decide_false, Option.map_some, Option.map_none, Bool.not_true, Bool.not_false, reduceIte, Nat.reduceAdd, Nat.reduceLeDiff, Bool.false_eq_true, Bool.true_eq_false, Bool.false_or, Bool.true_or, Bool.or_false, Bool.or_true, noXc_nil, noXc_un, noXc_val, noXc_own, noXc_io, dropAt_nx, dropAt_bk, dropAt_ct, dropAt_rt, keepAt_nx, keepAt_bk, keepAt_ct, keepAt_rt, stry_ap, stry0_ap, xfld_ap, LIM, nc_lit, Int.reduceAdd, Int.reduceSub, Int.reduceNeg, Int.reduceLT, Int.reduceLE, Int.reduceBEq, Nat.reduceLT, sfor_ap, skl_ap, wipeR_nil, wipeR_cons, smix_ap, putsR_nil, putsR_cons, methP_ap, isSq_lst, isSq_tup, ienum_ap, callM_ap', mkOb_ap, sfld_ap, saug_ap, callV_ap, stryN_ap, byH_nil, byH_cons, gStr_str, gAugAdd_int, gNeg_int', gSeq_lst, gSeq_tup, gTuple_lst, gTuple_tup, gList_lst, gList_tup, gSl_lst, gSl_tup, gAdd_lst, gAppend_lst, gExtend_lst, runP_1, runP_2, runP_3, runP_4, runP_5, runI_1, runI_2, runI_3, runI_4, runI_5, outP_nx, outP_rt, outP_exn, outI_nx, outI_rt, outI_exn, List.reduceReplicate, Nat.reduceSub, List.map_cons, List.map_nil, List.cons_append, List.nil_append, i2_non, i2_bl, i2_int, i2_str, i2_tup, i2_lst, i1_non, i1_bl, i1_int, i1_str, i1_tup, i1_lst, isa_NoneType_int, isa_NoneType_bool, isa_NoneType_str, isa_NoneType_tuple, isa_NoneType_list, isa_bool_int, isa_bool_bool, isa_bool_str, isa_bool_tuple, isa_bool_list, isa_int_int, isa_int_bool, isa_int_str, isa_int_tuple, isa_int_list, isa_str_int, isa_str_bool, isa_str_str, isa_str_tuple, isa_str_list, isa_tuple_int, isa_tuple_bool, isa_tuple_str, isa_tuple_tuple, isa_tuple_list, isa_list_int, isa_list_bool, isa_list_str, isa_list_tuple, isa_list_list, isN_non, isN_bl, isN_int, isN_str, isN_tup, isN_lst, gEq_bl, gEq_int, gEq_str, gEq_nn, Bool.xor_false, Bool.xor_true, Bool.false_xor, Bool.true_xor, Bool.or_self, Bool.and_self, beq_self_eq_true, Nat.zero_le, Bool.not_not, ct_HeldError_BadEvent, ct_HeldError_BadItem, ct_HeldError_BadName, ct_HeldError_BadNote, ct_HeldError_BadNumber, ct_HeldError_NothingToUndo, ct_HeldError_Refused, ct_HeldError_Taken, ct_HeldError_TooMany, ct_HeldError_Unknown, kn_index_BadItem, xf_index_1, kn_limit_TooMany, xf_limit_1, kn_line_BadNote, xf_line_1, kn_names_Refused, xf_names_2, kn_reason_Refused, xf_reason_2, kn_value_BadEvent, xf_value_1, kn_value_BadName, kn_value_BadNumber, kn_value_Taken, kn_value_Unknown, $ys,*] $l:location)

def dueOf (k : Nat) (v n : D) : D := if k = 8 then .tup [v, n] else if k = 9 then .non else v
def flags (k : Nat) : D := .lst ((List.range 10).map fun (j : Nat) => .bl (decide ((j : Int) = (k : Int))))
theorem raised : ∀ (k : Nat), k < 10 → ∀ v n : D, R__law_raised [.int k, v, n] = .ok (.tup [flags k, dueOf k v n]) .non
  | 0, _, v, n => rfl
  | 1, _, v, n => rfl
  | 2, _, v, n => rfl
  | 3, _, v, n => rfl
  | 4, _, v, n => rfl
  | 5, _, v, n => rfl
  | 6, _, v, n => rfl
  | 7, _, v, n => rfl
  | 8, _, v, n => rfl
  | 9, _, v, n => rfl
  | k + 10, h, _, _ => absurd h (by omega)
end K09

set_option Elab.async false
set_option linter.all false
set_option maxRecDepth 100000
set_option maxHeartbeats 4000000
set_option pp.maxSteps 3000
set_option exponentiation.threshold 20000
namespace K09
open PySem DL KC
open L2 (atI ixN)
local macro_rules
  | `(tactic| dsimp?! only [$xs,*]) => do
    let ys : Lean.Syntax.TSepArray `Lean.Parser.Tactic.simpLemma "," := ⟨xs.elemsAndSeps⟩
    `(tactic| simp only [bind_ok, bind_exn, bind_bad, s_ok, s_exn, s_bad, rd_ap, pk_ap, cst_ap, lift_some, lift_none, bin_ap, has_ap, binL_ap, un_ap, anil_ap, acons_ap, mkTup_ap, mkLst_ap, asB_bl, tv_ap, tnot_ap, tand_ap, tor_ap, vand_ap, vor_ap, vnot_ap, vif_ap, vchain_ap, sasg_ap, sown_ap, sif_ap, sret_ap, sexp_ap, snx_ap, sseq_ap, spar_ap, stg_ap, gnm_ap, gnil_ap, gcons_ap, gtp_ap, call_ap, doF_ok, doF_exn, callB_ap, apk_ap, doFB_ok, isOwn_ap, callI_ap, doI_ap, putOwn_ap, setD_ap, sset_ap, isLst_ap, mutl_ap, mutm_ap, sraise_ap, slcL_ap, slc_ap, pno_ap, psome_ap, unN_ap, iseq_ap, irng1_ap, irng2_ap, lrng_ap, gAdd_int, gInt_ap, at0, at1, at2, at3, gIx_lst, gIx_tup, gIx_scr, gLen_lst, gLen_tup, gLen_scr, gToInt_int, List.getElem?_cons_zero, List.getElem?_cons_succ, List.set_cons_zero, List.set_cons_succ, List.length_cons, List.length_nil, ite_true, ite_false, if_true, if_false, Bool.true_and, Bool.and_true, Bool.false_and, Bool.and_false, decide_true, decide_false, Option.map_some, Option.map_none, Bool.not_true, Bool.not_false, reduceIte, Nat.reduceAdd, Nat.reduceLeDiff, Bool.false_eq_true, Bool.true_eq_false, Bool.false_or, Bool.true_or, Bool.or_false, Bool.or_true, noXc_nil, noXc_un, noXc_val, noXc_own, noXc_io, dropAt_nx, dropAt_bk, dropAt_ct, dropAt_rt, keepAt_nx, keepAt_bk, keepAt_ct, keepAt_rt, stry_ap, stry0_ap, xfld_ap, LIM, nc_lit, Int.reduceAdd, Int.reduceSub, Int.reduceNeg, Int.reduceLT, Int.reduceLE, Int.reduceBEq, Nat.reduceLT, sfor_ap, skl_ap, wipeR_nil, wipeR_cons, smix_ap, putsR_nil, putsR_cons, methP_ap, isSq_lst, isSq_tup, ienum_ap, callM_ap', mkOb_ap, sfld_ap, saug_ap, callV_ap, stryN_ap, byH_nil, byH_cons, gStr_str, gAugAdd_int, gNeg_int', gSeq_lst, gSeq_tup, gTuple_lst, gTuple_tup, gList_lst, gList_tup, gSl_lst, gSl_tup, gAdd_lst, gAppend_lst, gExtend_lst, runP_1, runP_2, runP_3, runP_4, runP_5, runI_1, runI_2, runI_3, runI_4, runI_5, outP_nx, outP_rt, outP_exn, outI_nx, outI_rt, outI_exn, List.reduceReplicate, Nat.reduceSub, List.map_cons, List.map_nil, List.cons_append, List.nil_append, i2_non, i2_bl, i2_int, i2_str, i2_tup, i2_lst, i1_non, i1_bl, i1_int, i1_str, i1_tup, i1_lst, isa_NoneType_int, isa_NoneType_bool, isa_NoneType_str, isa_NoneType_tuple, isa_NoneType_list, isa_bool_int, isa_bool_bool, isa_bool_str, isa_bool_tuple, isa_bool_list, isa_int_int, isa_int_bool, isa_int_str, isa_int_tuple, isa_int_list, isa_str_int, isa_str_bool, isa_str_str, isa_str_tuple, isa_str_list, isa_tuple_int, isa_tuple_bool, isa_tuple_str, isa_tuple_tuple, isa_tuple_list, isa_list_int, isa_list_bool, isa_list_str, isa_list_tuple, isa_list_list, isN_non, isN_bl, isN_int, isN_str, isN_tup, isN_lst, gEq_bl, gEq_int, gEq_str, gEq_nn, Bool.xor_false, Bool.xor_true, Bool.false_xor, Bool.true_xor, Bool.or_self, Bool.and_self, beq_self_eq_true, Nat.zero_le, Bool.not_not, ct_HeldError_BadEvent, ct_HeldError_BadItem, ct_HeldError_BadName, ct_HeldError_BadNote, ct_HeldError_BadNumber, ct_HeldError_NothingToUndo, ct_HeldError_Refused, ct_HeldError_Taken, ct_HeldError_TooMany, ct_HeldError_Unknown, kn_index_BadItem, xf_index_1, kn_limit_TooMany, xf_limit_1, kn_line_BadNote, xf_line_1, kn_names_Refused, xf_names_2, kn_reason_Refused, xf_reason_2, kn_value_BadEvent, xf_value_1, kn_value_BadName, kn_value_BadNumber, kn_value_Taken, kn_value_Unknown, $ys,*])
  | `(tactic| dsimp?! only [$xs,*] $l:location) => do
    let ys : Lean.Syntax.TSepArray `Lean.Parser.Tactic.simpLemma "," := ⟨xs.elemsAndSeps⟩
    `(tactic| simp only [bind_ok, bind_exn, bind_bad, s_ok, s_exn, s_bad, rd_ap, pk_ap, cst_ap, lift_some, lift_none, bin_ap, has_ap, binL_ap, un_ap, anil_ap, acons_ap, mkTup_ap, mkLst_ap, asB_bl, tv_ap, tnot_ap, tand_ap, tor_ap, vand_ap, vor_ap, vnot_ap, vif_ap, vchain_ap, sasg_ap, sown_ap, sif_ap, sret_ap, sexp_ap, snx_ap, sseq_ap, spar_ap, stg_ap, gnm_ap, gnil_ap, gcons_ap, gtp_ap, call_ap, doF_ok, doF_exn, callB_ap, apk_ap, doFB_ok, isOwn_ap, callI_ap, doI_ap, putOwn_ap, setD_ap, sset_ap, isLst_ap, mutl_ap, mutm_ap, sraise_ap, slcL_ap, slc_ap, pno_ap, psome_ap, unN_ap, iseq_ap, irng1_ap, irng2_ap, lrng_ap, gAdd_int, gInt_ap, at0, at1, at2, at3, gIx_lst, gIx_tup, gIx_scr, gLen_lst, gLen_tup, gLen_scr, gToInt_int, List.getElem?_cons_zero, List.getElem?_cons_succ, List.set_cons_zero, List.set_cons_succ, List.length_cons, List.length_nil, ite_true, ite_false, if_true, if_false, Bool.true_and, Bool.and_true, Bool.false_and, Bool.and_false, decide_true, decide_false, Option.map_some, Option.map_none, Bool.not_true, Bool.not_false, reduceIte, Nat.reduceAdd, Nat.reduceLeDiff, Bool.false_eq_true, Bool.true_eq_false, Bool.false_or, Bool.true_or, Bool.or_false, Bool.or_true, noXc_nil, noXc_un, noXc_val, noXc_own, noXc_io, dropAt_nx, dropAt_bk, dropAt_ct, dropAt_rt, keepAt_nx, keepAt_bk, keepAt_ct, keepAt_rt, stry_ap, stry0_ap, xfld_ap, LIM, nc_lit, Int.reduceAdd, Int.reduceSub, Int.reduceNeg, Int.reduceLT, Int.reduceLE, Int.reduceBEq, Nat.reduceLT, sfor_ap, skl_ap, wipeR_nil, wipeR_cons, smix_ap, putsR_nil, putsR_cons, methP_ap, isSq_lst, isSq_tup, ienum_ap, callM_ap', mkOb_ap, sfld_ap, saug_ap, callV_ap, stryN_ap, byH_nil, byH_cons, gStr_str, gAugAdd_int, gNeg_int', gSeq_lst, gSeq_tup, gTuple_lst, gTuple_tup, gList_lst, gList_tup, gSl_lst, gSl_tup, gAdd_lst, gAppend_lst, gExtend_lst, runP_1, runP_2, runP_3, runP_4, runP_5, runI_1, runI_2, runI_3, runI_4, runI_5, outP_nx, outP_rt, outP_exn, outI_nx, outI_rt, outI_exn, List.reduceReplicate, Nat.reduceSub, List.map_cons, List.map_nil, List.cons_append, List.nil_append, i2_non, i2_bl, i2_int, i2_str, i2_tup, i2_lst, i1_non, i1_bl, i1_int, i1_str, i1_tup, i1_lst, isa_NoneType_int, isa_NoneType_bool, isa_NoneType_str, isa_NoneType_tuple, isa_NoneType_list, isa_bool_int, isa_bool_bool, isa_bool_str, isa_bool_tuple, isa_bool_list, isa_int_int, isa_int_bool, isa_int_str, isa_int_tuple, isa_int_list, isa_str_int, isa_str_bool, isa_str_str, isa_str_tuple, isa_str_list, isa_tuple_int, isa_tuple_bool, isa_tuple_str, isa_tuple_tuple, isa_tuple_list, isa_list_int, isa_list_bool, isa_list_str, isa_list_tuple, isa_list_list, isN_non, isN_bl, isN_int, isN_str, isN_tup, isN_lst, gEq_bl, gEq_int, gEq_str, gEq_nn, Bool.xor_false, Bool.xor_true, Bool.false_xor, Bool.true_xor, Bool.or_self, Bool.and_self, beq_self_eq_true, Nat.zero_le, Bool.not_not, ct_HeldError_BadEvent, ct_HeldError_BadItem, ct_HeldError_BadName, ct_HeldError_BadNote, ct_HeldError_BadNumber, ct_HeldError_NothingToUndo, ct_HeldError_Refused, ct_HeldError_Taken, ct_HeldError_TooMany, ct_HeldError_Unknown, kn_index_BadItem, xf_index_1, kn_limit_TooMany, xf_limit_1, kn_line_BadNote, xf_line_1, kn_names_Refused, xf_names_2, kn_reason_Refused, xf_reason_2, kn_value_BadEvent, xf_value_1, kn_value_BadName, kn_value_BadNumber, kn_value_Taken, kn_value_Unknown, $ys,*] $l:location)

theorem kinds (k : Nat) (r v n t : D) : lc_law_1 [.un, .own r, .val (.int k), .val v, .val n, .val t, .un, .un, .un] = .ok (flags k) [.un, .own r, .val (.int k), .val v, .val n, .val t, .un, .un, .un] := by
  have es : small 10 = true := rfl
  have ei : rngL 0 10 = (List.range 10).map fun (j : Nat) => D.int (j : Int) := rfl
  exact lcomp_all (fun (j : Nat) => D.int (j : Int)) (List.range 10) (fun (j : Nat) => .bl (decide ((j : Int) = (k : Int)))) (by dsimp?! only [es, ei]) rfl (by decide) fun j _ => by
    dsimp?! only [lturn, tyes]
    rfl
theorem okflags (k : Nat) : okd 20 (flags k) = true := rfl
theorem turn {r : D} (hr : Row r) {k : Nat} (hk : k < 10) : ∃ r', fturn (gnm 2) fb_law_1 (.int k) [.un, .own r, .un, .un, .un, .un, .un, .un, .un] = .nx [.un, .own r', .un, .un, .un, .un, .un, .un, .un] ∧ Row r' := by
  obtain ⟨x, r1, e1, k1, x0, x1⟩ := taken (m := 1000000000) hr (by decide) (by unfold bt; decide)
  obtain ⟨v, hv, r2, e2, k2⟩ := pick (ks := [.non, .int 7, .str "x", .tup [.int 1, .int 2], .bl true, .int x]) k1 (by simp) (by show 6 ≤ LIM; decide)
  obtain ⟨n, hn, r3, e3, k3⟩ := pick (ks := [.tup [], .tup [.str "a"]]) k2 (by simp) (by decide)
  have e4 := raised k hk v n
  have e5 := fun t => kinds k r3 v n t
  have he : gEq true (flags k) (flags k) = some (.bl false) := gEq_self (okflags k)
  have hv1 : okd 19 v = true := by
    simp only [List.mem_cons, List.not_mem_nil, or_false] at hv
    rcases hv with rfl | rfl | rfl | rfl | rfl | rfl <;> rfl
  have hn1 : okd 19 n = true := by
    simp only [List.mem_cons, List.not_mem_nil, or_false] at hn
    rcases hn with rfl | rfl <;> rfl
  have hv2 : gEq true v v = some (.bl false) := gEq_self (okd_mono 19 20 v (by decide) hv1)
  have hp : gEq true (.tup [v, n]) (.tup [v, n]) = some (.bl false) := gEq_self (by show (okd 19 v && (okd 19 n && true)) = true; rw [hv1, hn1]; rfl)
  obtain ⟨b, hb⟩ : ∃ b, gIsi "bool" v = some (.bl b) := by
    simp only [List.mem_cons, List.not_mem_nil, or_false] at hv
    rcases hv with rfl | rfl | rfl | rfl | rfl | rfl <;> exact ⟨_, rfl⟩
  have hbb : gEq true (.bl b) (.bl b) = some (.bl false) := gEq_self rfl
  have hpw : gPow (.int 10) (.int 9) = some (.int 1000000000) := rfl
  refine ⟨r3, ?_, k3⟩
  rcases (by omega : k = 0 ∨ k = 1 ∨ k = 2 ∨ k = 3 ∨ k = 4 ∨ k = 5 ∨ k = 6 ∨ k = 7 ∨ k = 8 ∨ k = 9) with rfl | rfl | rfl | rfl | rfl | rfl | rfl | rfl | rfl | rfl
  all_goals
    simp [dueOf] at e4
    dsimp only [nc_lit] at e5
    dsimp?! only [fturn, fb_law_1, hpw, e1, e2, e3, e4, e5, he, dueOf, hv2, hp, hb, hbb]
theorem loop {r : D} (hr : Row r) : ∃ r', forL ((List.range 10).map fun (j : Nat) => D.int (j : Int)) (gnm 2) fb_law_1 [.un, .own r, .un, .un, .un, .un, .un, .un, .un] = .nx [.un, .own r', .un, .un, .un, .un, .un, .un, .un] := by
  obtain ⟨s, e, _⟩ := forL_inv (g := gnm 2) (b := fb_law_1) (R := fun r : D => [.un, .own r, .un, .un, .un, .un, .un, .un, .un]) (I := fun _ r => Row r) ((List.range 10).map fun (j : Nat) => D.int (j : Int)) 0 r hr (fun i d s hd hs => by
    rw [List.getElem?_map, Option.map_eq_some_iff] at hd
    obtain ⟨j, hj, rfl⟩ := hd
    have hj' : j < 10 := List.mem_range.mp (List.mem_of_getElem? hj)
    exact turn hs hj')
  exact ⟨s, e⟩
theorem ends : ∃ q, (sseq (sasg 7 (mkLst (acons (kwf ["value"] "value" (acons (cst (.int 1)) anil)) (acons (kwf ["value"] "value" (acons (cst (.str "a")) anil)) (acons (kwf ["index"] "index" (acons (cst (.int 4)) anil)) (acons (kwf ["value"] "value" (acons (cst (.int 5)) anil)) (acons (kwf ["line"] "line" (acons (cst (.int 6)) anil)) anil))))))) (sseq (sasg 7 (bin gAdd (rd 7) (mkLst (acons (kwf ["limit"] "limit" (acons (cst (.int 7)) anil)) (acons (kwf ["value"] "value" (acons (cst (.int 8)) anil)) (acons (kwf ["value"] "value" (acons (cst (.int 9)) anil)) (acons (kwf ["reason", "names"] "names" (acons (cst (.str "r")) (acons (cst (.int 11)) anil))) (acons (kwf ["names", "reason"] "reason" (acons (cst (.int 1)) (acons (cst (.str "s")) anil))) anil)))))))) (sret (call (R__law_alike 24) (acons (rd 7) (acons (mkLst (acons (cst (.int 1)) (acons (cst (.str "a")) (acons (cst (.int 4)) (acons (cst (.int 5)) (acons (cst (.int 6)) (acons (cst (.int 7)) (acons (cst (.int 8)) (acons (cst (.int 9)) (acons (cst (.int 11)) (acons (cst (.str "s")) anil))))))))))) anil)))))) [.un, .un, .un, .un, .un, .un, .un, .un, .un] = .rt (.bl true) q := ⟨_, rfl⟩
theorem law_true : ∀ ns : List Int, ns.length ≤ 63 → ∃ io, R_law [.scr ns] = .ok (.bl true) io := by
  intro ns _
  refine law_of ?_
  unfold b_law
  refine go_nx (r' := [.un, .own (.lst [.scr ns, .int 0, .int 53, .int 0]), .un, .un, .un, .un, .un, .un, .un]) (by dsimp?! only []) ?_
  have hr0 := row_start ns (k := 53) (by decide) (by decide)
  generalize (D.lst [.scr ns, .int 0, .int 53, .int 0]) = r0 at *
  obtain ⟨r', e⟩ := loop hr0
  have es : small 10 = true := rfl
  have ei : rngL 0 10 = (List.range 10).map fun (j : Nat) => D.int (j : Int) := rfl
  refine go_nx (r' := [.un, .un, .un, .un, .un, .un, .un, .un, .un]) (by dsimp?! only [es, ei, e]) ?_
  exact ends
end K09

set_option Elab.async false
set_option linter.all false
set_option pp.maxSteps 60
set_option maxRecDepth 100000
set_option maxHeartbeats 8000000
set_option autoImplicit false
namespace K09
open PySem L2 DL KC
open PyProof.Rows
theorem all_mk {w : World} {K : PySem.W.Frag} {h : Heap} {mg : Str → Option Value} {fa : Addr} (X : K.In h) (G : h.Ns mainGlobals mg) (hfa : mg "law" = some (.ref fa)) {f0 f1 f2 f3 f4 C_BadEvent F_BadEvent N_BadEvent cda_BadEvent cc_BadEvent C_BadItem F_BadItem N_BadItem cda_BadItem cc_BadItem C_BadName F_BadName N_BadName cda_BadName cc_BadName C_BadNote F_BadNote N_BadNote cda_BadNote cc_BadNote C_BadNumber F_BadNumber N_BadNumber cda_BadNumber cc_BadNumber C_NothingToUndo C_Refused F_Refused N_Refused cda_Refused cc_Refused C_Taken F_Taken N_Taken cda_Taken cc_Taken C_TooMany F_TooMany N_TooMany cda_TooMany cc_TooMany C_Unknown F_Unknown N_Unknown cda_Unknown cc_Unknown C_HeldError : Addr} {oc0 kV0 dc0 pm0 cd0 ct0 oc1 kV1 dc1 pm1 cd1 ct1 oc2 kV2 dc2 pm2 cd2 ct2 oc3 kV3 dc3 pm3 cd3 ct3 oc4 kV4 dc4 pm4 cd4 ct4 oc_BadEvent doc_BadEvent pm_BadEvent ct_BadEvent ccl_BadEvent cl_BadEvent oc_BadItem doc_BadItem pm_BadItem ct_BadItem ccl_BadItem cl_BadItem oc_BadName doc_BadName pm_BadName ct_BadName ccl_BadName cl_BadName oc_BadNote doc_BadNote pm_BadNote ct_BadNote ccl_BadNote cl_BadNote oc_BadNumber doc_BadNumber pm_BadNumber ct_BadNumber ccl_BadNumber cl_BadNumber oc_Refused doc_Refused pm_Refused ct_Refused ccl_Refused cl_Refused oc_Taken doc_Taken pm_Taken ct_Taken ccl_Taken cl_Taken oc_TooMany doc_TooMany pm_TooMany ct_TooMany ccl_TooMany cl_TooMany oc_Unknown doc_Unknown pm_Unknown ct_Unknown ccl_Unknown cl_Unknown : Value} {od0 an0 od1 an1 od2 an2 od3 an3 od4 an4 dd_BadEvent od_BadEvent an_BadEvent cdd_BadEvent cld_BadEvent dd_BadItem od_BadItem an_BadItem cdd_BadItem cld_BadItem dd_BadName od_BadName an_BadName cdd_BadName cld_BadName dd_BadNote od_BadNote an_BadNote cdd_BadNote cld_BadNote dd_BadNumber od_BadNumber an_BadNumber cdd_BadNumber cld_BadNumber dd_Refused od_Refused an_Refused cdd_Refused cld_Refused dd_Taken od_Taken an_Taken cdd_Taken cld_Taken dd_TooMany od_TooMany an_TooMany cdd_TooMany cld_TooMany dd_Unknown od_Unknown an_Unknown cdd_Unknown cld_Unknown : Option Addr} {sl0 sl1 sl2 sl3 sl4 osl_BadEvent ccs_BadEvent csl_BadEvent osl_BadItem ccs_BadItem csl_BadItem osl_BadName ccs_BadName csl_BadName osl_BadNote ccs_BadNote csl_BadNote osl_BadNumber ccs_BadNumber csl_BadNumber osl_Refused ccs_Refused csl_Refused osl_Taken ccs_Taken csl_Taken osl_TooMany ccs_TooMany csl_TooMany osl_Unknown ccs_Unknown csl_Unknown : Array (Option Value)}  {nm_BadEvent q_BadEvent file_BadEvent : Str} {bs_BadEvent bm_BadEvent sub_BadEvent : List Value} {sn_BadEvent : List Str} {ab_BadEvent : Bool} {col_BadEvent : Option Bool} {m0_BadEvent m1_BadEvent m2_BadEvent m3_BadEvent m5_BadEvent : Option Value} {vs_BadEvent : Array Value} {tf_BadEvent : Tok} {nm_BadItem q_BadItem file_BadItem : Str} {bs_BadItem bm_BadItem sub_BadItem : List Value} {sn_BadItem : List Str} {ab_BadItem : Bool} {col_BadItem : Option Bool} {m0_BadItem m1_BadItem m2_BadItem m3_BadItem m5_BadItem : Option Value} {vs_BadItem : Array Value} {tf_BadItem : Tok} {nm_BadName q_BadName file_BadName : Str} {bs_BadName bm_BadName sub_BadName : List Value} {sn_BadName : List Str} {ab_BadName : Bool} {col_BadName : Option Bool} {m0_BadName m1_BadName m2_BadName m3_BadName m5_BadName : Option Value} {vs_BadName : Array Value} {tf_BadName : Tok} {nm_BadNote q_BadNote file_BadNote : Str} {bs_BadNote bm_BadNote sub_BadNote : List Value} {sn_BadNote : List Str} {ab_BadNote : Bool} {col_BadNote : Option Bool} {m0_BadNote m1_BadNote m2_BadNote m3_BadNote m5_BadNote : Option Value} {vs_BadNote : Array Value} {tf_BadNote : Tok} {nm_BadNumber q_BadNumber file_BadNumber : Str} {bs_BadNumber bm_BadNumber sub_BadNumber : List Value} {sn_BadNumber : List Str} {ab_BadNumber : Bool} {col_BadNumber : Option Bool} {m0_BadNumber m1_BadNumber m2_BadNumber m3_BadNumber m5_BadNumber : Option Value} {vs_BadNumber : Array Value} {tf_BadNumber : Tok} {nm_Refused q_Refused file_Refused : Str} {bs_Refused bm_Refused sub_Refused : List Value} {sn_Refused : List Str} {ab_Refused : Bool} {col_Refused : Option Bool} {m0_Refused m1_Refused m2_Refused m3_Refused m5_Refused : Option Value} {vs_Refused : Array Value} {tf_Refused : Tok} {nm_Taken q_Taken file_Taken : Str} {bs_Taken bm_Taken sub_Taken : List Value} {sn_Taken : List Str} {ab_Taken : Bool} {col_Taken : Option Bool} {m0_Taken m1_Taken m2_Taken m3_Taken m5_Taken : Option Value} {vs_Taken : Array Value} {tf_Taken : Tok} {nm_TooMany q_TooMany file_TooMany : Str} {bs_TooMany bm_TooMany sub_TooMany : List Value} {sn_TooMany : List Str} {ab_TooMany : Bool} {col_TooMany : Option Bool} {m0_TooMany m1_TooMany m2_TooMany m3_TooMany m5_TooMany : Option Value} {vs_TooMany : Array Value} {tf_TooMany : Tok} {nm_Unknown q_Unknown file_Unknown : Str} {bs_Unknown bm_Unknown sub_Unknown : List Value} {sn_Unknown : List Str} {ab_Unknown : Bool} {col_Unknown : Option Bool} {m0_Unknown m1_Unknown m2_Unknown m3_Unknown m5_Unknown : Option Value} {vs_Unknown : Array Value} {tf_Unknown : Tok}
    (a0 : PySem.W.nsIn K mainGlobals "_law_alike" = some (some (.ref f0)))
    (l0 : K.lookup f0 = some ⟨oc0, od0, .func (PySem.W.fnOf "_law_alike" "_law_alike" (defArgs s__law_alike) (defBody s__law_alike) (defScope s__law_alike) .none kV0 dc0 pm0 an0 cd0 ct0), sl0⟩)
    (c0 : PySem.W.codeIn K cd0 "_law_alike" = true)
    (k0 : PySem.W.keepIn K (.ref f0) = true)
    (a1 : PySem.W.nsIn K mainGlobals "_law_taken" = some (some (.ref f1)))
    (l1 : K.lookup f1 = some ⟨oc1, od1, .func (PySem.W.fnOf "_law_taken" "_law_taken" (defArgs s__law_taken) (defBody s__law_taken) (defScope s__law_taken) .none kV1 dc1 pm1 an1 cd1 ct1), sl1⟩)
    (c1 : PySem.W.codeIn K cd1 "_law_taken" = true)
    (k1 : PySem.W.keepIn K (.ref f1) = true)
    (a2 : PySem.W.nsIn K mainGlobals "_law_pick" = some (some (.ref f2)))
    (l2 : K.lookup f2 = some ⟨oc2, od2, .func (PySem.W.fnOf "_law_pick" "_law_pick" (defArgs s__law_pick) (defBody s__law_pick) (defScope s__law_pick) .none kV2 dc2 pm2 an2 cd2 ct2), sl2⟩)
    (c2 : PySem.W.codeIn K cd2 "_law_pick" = true)
    (k2 : PySem.W.keepIn K (.ref f2) = true)
    (a3 : PySem.W.nsIn K mainGlobals "_law_raised" = some (some (.ref f3)))
    (l3 : K.lookup f3 = some ⟨oc3, od3, .func (PySem.W.fnOf "_law_raised" "_law_raised" (defArgs s__law_raised) (defBody s__law_raised) (defScope s__law_raised) .none kV3 dc3 pm3 an3 cd3 ct3), sl3⟩)
    (c3 : PySem.W.codeIn K cd3 "_law_raised" = true)
    (k3 : PySem.W.keepIn K (.ref f3) = true)
    (a4 : PySem.W.nsIn K mainGlobals "law" = some (some (.ref f4)))
    (l4 : K.lookup f4 = some ⟨oc4, od4, .func (PySem.W.fnOf "law" "law" (defArgs s_law) (defBody s_law) (defScope s_law) .none kV4 dc4 pm4 an4 cd4 ct4), sl4⟩)
    (c4 : PySem.W.codeIn K cd4 "law" = true)
    (k4 : PySem.W.keepIn K (.ref f4) = true)
    (z_LookupError : PySem.W.nsIn K mainGlobals "LookupError" = some none)
    (z_RuntimeError : PySem.W.nsIn K mainGlobals "RuntimeError" = some none)
    (z_ValueError : PySem.W.nsIn K mainGlobals "ValueError" = some none)
    (z_bool : PySem.W.nsIn K mainGlobals "bool" = some none)
    (z_int : PySem.W.nsIn K mainGlobals "int" = some none)
    (z_isinstance : PySem.W.nsIn K mainGlobals "isinstance" = some none)
    (z_len : PySem.W.nsIn K mainGlobals "len" = some none)
    (z_list : PySem.W.nsIn K mainGlobals "list" = some none)
    (z_range : PySem.W.nsIn K mainGlobals "range" = some none)
    (z_str : PySem.W.nsIn K mainGlobals "str" = some none)
    (z_tuple : PySem.W.nsIn K mainGlobals "tuple" = some none)
    (op : PySem.W.nsIn K PySem.cStatics "thirdparty.any" = some none)
    (ms : PySem.W.nsIn K mainGlobals "super" = some none)
    (tops : (PySem.Challenge.pw_unitsheld_k09_errors.main.scope.names.lookup ("super" : Str)).isSome = false)
    (osp : PySem.W.specialIn K (.builtin "object.__class__") "__get__" = some (some (.builtin "getset_descriptor.__get__")))
    (otk : PySem.W.takesIn K (.builtin "object.__class__") = some true)
    (aC_BadEvent : PySem.W.nsIn K mainGlobals "BadEvent" = some (some (.ref C_BadEvent)))
    (xL_BadEvent : K.lookup C_BadEvent = some (excClassObj nm_BadEvent q_BadEvent C_BadEvent N_BadEvent bs_BadEvent bm_BadEvent true sn_BadEvent sub_BadEvent ab_BadEvent col_BadEvent dd_BadEvent m0_BadEvent m1_BadEvent m2_BadEvent m3_BadEvent m5_BadEvent "ValueError.__new__"))
    (rv_BadEvent : PySem.HandSPX.refsVE bm_BadEvent = true)
    (sa_BadEvent : PySem.W.findIn K (.ref C_BadEvent) "__setattr__" = some (some (.builtin "object.__setattr__")))
    (ga_BadEvent : PySem.W.findIn K (.ref C_BadEvent) "__getattribute__" = some (some (.builtin "BaseException.__getattribute__")))
    (gg_BadEvent : PySem.W.findIn K (.ref C_BadEvent) "__getattr__" = some none)
    (no_BadEvent_value : PySem.W.findIn K (.ref C_BadEvent) "value" = some none)
    (iC_BadEvent : PySem.W.findIn K (.ref C_BadEvent) "__init__" = some (some (.ref F_BadEvent)))
    (tC_BadEvent : PySem.W.typeIn K (.ref F_BadEvent) = some (.type "function"))
    (l_BadEvent : K.lookup F_BadEvent = some ⟨oc_BadEvent, od_BadEvent, .func (PySem.W.ksFn "__init__" "BadEvent.__init__" (defArgs (inClass (top 5) 0)) (defBody (inClass (top 5) 0)) (defScope (inClass (top 5) 0)) .none .none doc_BadEvent pm_BadEvent an_BadEvent (.ref cda_BadEvent) ct_BadEvent cc_BadEvent), osl_BadEvent⟩)
    (c_BadEvent : PySem.W.codeIn K (.ref cda_BadEvent) "BadEvent.__init__" = true)
    (d_BadEvent : K.lookup cda_BadEvent = some ⟨ccl_BadEvent, cdd_BadEvent, .fields vs_BadEvent, ccs_BadEvent⟩)
    (v_BadEvent : vs_BadEvent[2]? = some (.str file_BadEvent tf_BadEvent))
    (fi_BadEvent : ((PySem.Challenge.pw_unitsheld_k09_errors.main.file : Str) == file_BadEvent) = true)
    (ce_BadEvent : K.lookup cc_BadEvent = some ⟨cl_BadEvent, cld_BadEvent, .cell (some (.ref C_BadEvent)), csl_BadEvent⟩)
    (kC_BadEvent : PySem.W.keepIn K (.ref C_BadEvent) = true)
    (eC_BadEvent : PySem.W.subIn K (.ref C_BadEvent) (.type "BaseException") = some true)
    (vC_BadEvent : PySem.W.subIn K (.ref C_BadEvent) (.type "ValueError") = some true)
    (ty_BadEvent : PySem.W.typeIn K (.ref C_BadEvent) = some (.type "type"))
    (hd_BadEvent : PySem.W.hasDictIn K C_BadEvent = true)
    (se_BadEvent : PySem.W.mroIn K C_BadEvent (.ref C_BadEvent) = some true)
    (su_BadEvent : PySem.W.ks_superIn K C_BadEvent C_BadEvent "__init__" = some (some (.builtin "ValueError.__init__")))
    (xg_BadEvent : PySem.W.findIn K (.ref C_BadEvent) "__class__" = some (some (.builtin "object.__class__")))
    (xm_BadEvent : PySem.W.mroIn K C_BadEvent (.type "object") = some true)
    (aC_BadItem : PySem.W.nsIn K mainGlobals "BadItem" = some (some (.ref C_BadItem)))
    (xL_BadItem : K.lookup C_BadItem = some (excClassObj nm_BadItem q_BadItem C_BadItem N_BadItem bs_BadItem bm_BadItem true sn_BadItem sub_BadItem ab_BadItem col_BadItem dd_BadItem m0_BadItem m1_BadItem m2_BadItem m3_BadItem m5_BadItem "ValueError.__new__"))
    (rv_BadItem : PySem.HandSPX.refsVE bm_BadItem = true)
    (sa_BadItem : PySem.W.findIn K (.ref C_BadItem) "__setattr__" = some (some (.builtin "object.__setattr__")))
    (ga_BadItem : PySem.W.findIn K (.ref C_BadItem) "__getattribute__" = some (some (.builtin "BaseException.__getattribute__")))
    (gg_BadItem : PySem.W.findIn K (.ref C_BadItem) "__getattr__" = some none)
    (no_BadItem_index : PySem.W.findIn K (.ref C_BadItem) "index" = some none)
    (iC_BadItem : PySem.W.findIn K (.ref C_BadItem) "__init__" = some (some (.ref F_BadItem)))
    (tC_BadItem : PySem.W.typeIn K (.ref F_BadItem) = some (.type "function"))
    (l_BadItem : K.lookup F_BadItem = some ⟨oc_BadItem, od_BadItem, .func (PySem.W.ksFn "__init__" "BadItem.__init__" (defArgs (inClass (top 4) 0)) (defBody (inClass (top 4) 0)) (defScope (inClass (top 4) 0)) .none .none doc_BadItem pm_BadItem an_BadItem (.ref cda_BadItem) ct_BadItem cc_BadItem), osl_BadItem⟩)
    (c_BadItem : PySem.W.codeIn K (.ref cda_BadItem) "BadItem.__init__" = true)
    (d_BadItem : K.lookup cda_BadItem = some ⟨ccl_BadItem, cdd_BadItem, .fields vs_BadItem, ccs_BadItem⟩)
    (v_BadItem : vs_BadItem[2]? = some (.str file_BadItem tf_BadItem))
    (fi_BadItem : ((PySem.Challenge.pw_unitsheld_k09_errors.main.file : Str) == file_BadItem) = true)
    (ce_BadItem : K.lookup cc_BadItem = some ⟨cl_BadItem, cld_BadItem, .cell (some (.ref C_BadItem)), csl_BadItem⟩)
    (kC_BadItem : PySem.W.keepIn K (.ref C_BadItem) = true)
    (eC_BadItem : PySem.W.subIn K (.ref C_BadItem) (.type "BaseException") = some true)
    (vC_BadItem : PySem.W.subIn K (.ref C_BadItem) (.type "ValueError") = some true)
    (ty_BadItem : PySem.W.typeIn K (.ref C_BadItem) = some (.type "type"))
    (hd_BadItem : PySem.W.hasDictIn K C_BadItem = true)
    (se_BadItem : PySem.W.mroIn K C_BadItem (.ref C_BadItem) = some true)
    (su_BadItem : PySem.W.ks_superIn K C_BadItem C_BadItem "__init__" = some (some (.builtin "ValueError.__init__")))
    (xg_BadItem : PySem.W.findIn K (.ref C_BadItem) "__class__" = some (some (.builtin "object.__class__")))
    (xm_BadItem : PySem.W.mroIn K C_BadItem (.type "object") = some true)
    (aC_BadName : PySem.W.nsIn K mainGlobals "BadName" = some (some (.ref C_BadName)))
    (xL_BadName : K.lookup C_BadName = some (excClassObj nm_BadName q_BadName C_BadName N_BadName bs_BadName bm_BadName true sn_BadName sub_BadName ab_BadName col_BadName dd_BadName m0_BadName m1_BadName m2_BadName m3_BadName m5_BadName "ValueError.__new__"))
    (rv_BadName : PySem.HandSPX.refsVE bm_BadName = true)
    (sa_BadName : PySem.W.findIn K (.ref C_BadName) "__setattr__" = some (some (.builtin "object.__setattr__")))
    (ga_BadName : PySem.W.findIn K (.ref C_BadName) "__getattribute__" = some (some (.builtin "BaseException.__getattribute__")))
    (gg_BadName : PySem.W.findIn K (.ref C_BadName) "__getattr__" = some none)
    (no_BadName_value : PySem.W.findIn K (.ref C_BadName) "value" = some none)
    (iC_BadName : PySem.W.findIn K (.ref C_BadName) "__init__" = some (some (.ref F_BadName)))
    (tC_BadName : PySem.W.typeIn K (.ref F_BadName) = some (.type "function"))
    (l_BadName : K.lookup F_BadName = some ⟨oc_BadName, od_BadName, .func (PySem.W.ksFn "__init__" "BadName.__init__" (defArgs (inClass (top 3) 0)) (defBody (inClass (top 3) 0)) (defScope (inClass (top 3) 0)) .none .none doc_BadName pm_BadName an_BadName (.ref cda_BadName) ct_BadName cc_BadName), osl_BadName⟩)
    (c_BadName : PySem.W.codeIn K (.ref cda_BadName) "BadName.__init__" = true)
    (d_BadName : K.lookup cda_BadName = some ⟨ccl_BadName, cdd_BadName, .fields vs_BadName, ccs_BadName⟩)
    (v_BadName : vs_BadName[2]? = some (.str file_BadName tf_BadName))
    (fi_BadName : ((PySem.Challenge.pw_unitsheld_k09_errors.main.file : Str) == file_BadName) = true)
    (ce_BadName : K.lookup cc_BadName = some ⟨cl_BadName, cld_BadName, .cell (some (.ref C_BadName)), csl_BadName⟩)
    (kC_BadName : PySem.W.keepIn K (.ref C_BadName) = true)
    (eC_BadName : PySem.W.subIn K (.ref C_BadName) (.type "BaseException") = some true)
    (vC_BadName : PySem.W.subIn K (.ref C_BadName) (.type "ValueError") = some true)
    (ty_BadName : PySem.W.typeIn K (.ref C_BadName) = some (.type "type"))
    (hd_BadName : PySem.W.hasDictIn K C_BadName = true)
    (se_BadName : PySem.W.mroIn K C_BadName (.ref C_BadName) = some true)
    (su_BadName : PySem.W.ks_superIn K C_BadName C_BadName "__init__" = some (some (.builtin "ValueError.__init__")))
    (xg_BadName : PySem.W.findIn K (.ref C_BadName) "__class__" = some (some (.builtin "object.__class__")))
    (xm_BadName : PySem.W.mroIn K C_BadName (.type "object") = some true)
    (aC_BadNote : PySem.W.nsIn K mainGlobals "BadNote" = some (some (.ref C_BadNote)))
    (xL_BadNote : K.lookup C_BadNote = some (excClassObj nm_BadNote q_BadNote C_BadNote N_BadNote bs_BadNote bm_BadNote true sn_BadNote sub_BadNote ab_BadNote col_BadNote dd_BadNote m0_BadNote m1_BadNote m2_BadNote m3_BadNote m5_BadNote "ValueError.__new__"))
    (rv_BadNote : PySem.HandSPX.refsVE bm_BadNote = true)
    (sa_BadNote : PySem.W.findIn K (.ref C_BadNote) "__setattr__" = some (some (.builtin "object.__setattr__")))
    (ga_BadNote : PySem.W.findIn K (.ref C_BadNote) "__getattribute__" = some (some (.builtin "BaseException.__getattribute__")))
    (gg_BadNote : PySem.W.findIn K (.ref C_BadNote) "__getattr__" = some none)
    (no_BadNote_line : PySem.W.findIn K (.ref C_BadNote) "line" = some none)
    (iC_BadNote : PySem.W.findIn K (.ref C_BadNote) "__init__" = some (some (.ref F_BadNote)))
    (tC_BadNote : PySem.W.typeIn K (.ref F_BadNote) = some (.type "function"))
    (l_BadNote : K.lookup F_BadNote = some ⟨oc_BadNote, od_BadNote, .func (PySem.W.ksFn "__init__" "BadNote.__init__" (defArgs (inClass (top 6) 0)) (defBody (inClass (top 6) 0)) (defScope (inClass (top 6) 0)) .none .none doc_BadNote pm_BadNote an_BadNote (.ref cda_BadNote) ct_BadNote cc_BadNote), osl_BadNote⟩)
    (c_BadNote : PySem.W.codeIn K (.ref cda_BadNote) "BadNote.__init__" = true)
    (d_BadNote : K.lookup cda_BadNote = some ⟨ccl_BadNote, cdd_BadNote, .fields vs_BadNote, ccs_BadNote⟩)
    (v_BadNote : vs_BadNote[2]? = some (.str file_BadNote tf_BadNote))
    (fi_BadNote : ((PySem.Challenge.pw_unitsheld_k09_errors.main.file : Str) == file_BadNote) = true)
    (ce_BadNote : K.lookup cc_BadNote = some ⟨cl_BadNote, cld_BadNote, .cell (some (.ref C_BadNote)), csl_BadNote⟩)
    (kC_BadNote : PySem.W.keepIn K (.ref C_BadNote) = true)
    (eC_BadNote : PySem.W.subIn K (.ref C_BadNote) (.type "BaseException") = some true)
    (vC_BadNote : PySem.W.subIn K (.ref C_BadNote) (.type "ValueError") = some true)
    (ty_BadNote : PySem.W.typeIn K (.ref C_BadNote) = some (.type "type"))
    (hd_BadNote : PySem.W.hasDictIn K C_BadNote = true)
    (se_BadNote : PySem.W.mroIn K C_BadNote (.ref C_BadNote) = some true)
    (su_BadNote : PySem.W.ks_superIn K C_BadNote C_BadNote "__init__" = some (some (.builtin "ValueError.__init__")))
    (xg_BadNote : PySem.W.findIn K (.ref C_BadNote) "__class__" = some (some (.builtin "object.__class__")))
    (xm_BadNote : PySem.W.mroIn K C_BadNote (.type "object") = some true)
    (aC_BadNumber : PySem.W.nsIn K mainGlobals "BadNumber" = some (some (.ref C_BadNumber)))
    (xL_BadNumber : K.lookup C_BadNumber = some (excClassObj nm_BadNumber q_BadNumber C_BadNumber N_BadNumber bs_BadNumber bm_BadNumber true sn_BadNumber sub_BadNumber ab_BadNumber col_BadNumber dd_BadNumber m0_BadNumber m1_BadNumber m2_BadNumber m3_BadNumber m5_BadNumber "ValueError.__new__"))
    (rv_BadNumber : PySem.HandSPX.refsVE bm_BadNumber = true)
    (sa_BadNumber : PySem.W.findIn K (.ref C_BadNumber) "__setattr__" = some (some (.builtin "object.__setattr__")))
    (ga_BadNumber : PySem.W.findIn K (.ref C_BadNumber) "__getattribute__" = some (some (.builtin "BaseException.__getattribute__")))
    (gg_BadNumber : PySem.W.findIn K (.ref C_BadNumber) "__getattr__" = some none)
    (no_BadNumber_value : PySem.W.findIn K (.ref C_BadNumber) "value" = some none)
    (iC_BadNumber : PySem.W.findIn K (.ref C_BadNumber) "__init__" = some (some (.ref F_BadNumber)))
    (tC_BadNumber : PySem.W.typeIn K (.ref F_BadNumber) = some (.type "function"))
    (l_BadNumber : K.lookup F_BadNumber = some ⟨oc_BadNumber, od_BadNumber, .func (PySem.W.ksFn "__init__" "BadNumber.__init__" (defArgs (inClass (top 2) 0)) (defBody (inClass (top 2) 0)) (defScope (inClass (top 2) 0)) .none .none doc_BadNumber pm_BadNumber an_BadNumber (.ref cda_BadNumber) ct_BadNumber cc_BadNumber), osl_BadNumber⟩)
    (c_BadNumber : PySem.W.codeIn K (.ref cda_BadNumber) "BadNumber.__init__" = true)
    (d_BadNumber : K.lookup cda_BadNumber = some ⟨ccl_BadNumber, cdd_BadNumber, .fields vs_BadNumber, ccs_BadNumber⟩)
    (v_BadNumber : vs_BadNumber[2]? = some (.str file_BadNumber tf_BadNumber))
    (fi_BadNumber : ((PySem.Challenge.pw_unitsheld_k09_errors.main.file : Str) == file_BadNumber) = true)
    (ce_BadNumber : K.lookup cc_BadNumber = some ⟨cl_BadNumber, cld_BadNumber, .cell (some (.ref C_BadNumber)), csl_BadNumber⟩)
    (kC_BadNumber : PySem.W.keepIn K (.ref C_BadNumber) = true)
    (eC_BadNumber : PySem.W.subIn K (.ref C_BadNumber) (.type "BaseException") = some true)
    (vC_BadNumber : PySem.W.subIn K (.ref C_BadNumber) (.type "ValueError") = some true)
    (ty_BadNumber : PySem.W.typeIn K (.ref C_BadNumber) = some (.type "type"))
    (hd_BadNumber : PySem.W.hasDictIn K C_BadNumber = true)
    (se_BadNumber : PySem.W.mroIn K C_BadNumber (.ref C_BadNumber) = some true)
    (su_BadNumber : PySem.W.ks_superIn K C_BadNumber C_BadNumber "__init__" = some (some (.builtin "ValueError.__init__")))
    (xg_BadNumber : PySem.W.findIn K (.ref C_BadNumber) "__class__" = some (some (.builtin "object.__class__")))
    (xm_BadNumber : PySem.W.mroIn K C_BadNumber (.type "object") = some true)
    (aC_NothingToUndo : PySem.W.nsIn K mainGlobals "NothingToUndo" = some (some (.ref C_NothingToUndo)))
    (xi_NothingToUndo : PySem.W.excIn K C_NothingToUndo DL.bmVE "ValueError.__new__" = true)
    (kC_NothingToUndo : PySem.W.keepIn K (.ref C_NothingToUndo) = true)
    (eC_NothingToUndo : PySem.W.subIn K (.ref C_NothingToUndo) (.type "BaseException") = some true)
    (ty_NothingToUndo : PySem.W.typeIn K (.ref C_NothingToUndo) = some (.type "type"))
    (ga_NothingToUndo : PySem.W.findIn K (.ref C_NothingToUndo) "__getattribute__" = some (some (.builtin "BaseException.__getattribute__")))
    (gg_NothingToUndo : PySem.W.findIn K (.ref C_NothingToUndo) "__getattr__" = some none)
    (hd_NothingToUndo : PySem.W.hasDictIn K C_NothingToUndo = true)
    (xg_NothingToUndo : PySem.W.findIn K (.ref C_NothingToUndo) "__class__" = some (some (.builtin "object.__class__")))
    (xm_NothingToUndo : PySem.W.mroIn K C_NothingToUndo (.type "object") = some true)
    (aC_Refused : PySem.W.nsIn K mainGlobals "Refused" = some (some (.ref C_Refused)))
    (xL_Refused : K.lookup C_Refused = some (excClassObj nm_Refused q_Refused C_Refused N_Refused bs_Refused bm_Refused true sn_Refused sub_Refused ab_Refused col_Refused dd_Refused m0_Refused m1_Refused m2_Refused m3_Refused m5_Refused "ValueError.__new__"))
    (rv_Refused : PySem.HandSPX.refsVE bm_Refused = true)
    (sa_Refused : PySem.W.findIn K (.ref C_Refused) "__setattr__" = some (some (.builtin "object.__setattr__")))
    (ga_Refused : PySem.W.findIn K (.ref C_Refused) "__getattribute__" = some (some (.builtin "BaseException.__getattribute__")))
    (gg_Refused : PySem.W.findIn K (.ref C_Refused) "__getattr__" = some none)
    (no_Refused_reason : PySem.W.findIn K (.ref C_Refused) "reason" = some none)
    (no_Refused_names : PySem.W.findIn K (.ref C_Refused) "names" = some none)
    (iC_Refused : PySem.W.findIn K (.ref C_Refused) "__init__" = some (some (.ref F_Refused)))
    (tC_Refused : PySem.W.typeIn K (.ref F_Refused) = some (.type "function"))
    (l_Refused : K.lookup F_Refused = some ⟨oc_Refused, od_Refused, .func (PySem.W.ksFn "__init__" "Refused.__init__" (defArgs (inClass (top 10) 0)) (defBody (inClass (top 10) 0)) (defScope (inClass (top 10) 0)) .none .none doc_Refused pm_Refused an_Refused (.ref cda_Refused) ct_Refused cc_Refused), osl_Refused⟩)
    (c_Refused : PySem.W.codeIn K (.ref cda_Refused) "Refused.__init__" = true)
    (d_Refused : K.lookup cda_Refused = some ⟨ccl_Refused, cdd_Refused, .fields vs_Refused, ccs_Refused⟩)
    (v_Refused : vs_Refused[2]? = some (.str file_Refused tf_Refused))
    (fi_Refused : ((PySem.Challenge.pw_unitsheld_k09_errors.main.file : Str) == file_Refused) = true)
    (ce_Refused : K.lookup cc_Refused = some ⟨cl_Refused, cld_Refused, .cell (some (.ref C_Refused)), csl_Refused⟩)
    (kC_Refused : PySem.W.keepIn K (.ref C_Refused) = true)
    (eC_Refused : PySem.W.subIn K (.ref C_Refused) (.type "BaseException") = some true)
    (vC_Refused : PySem.W.subIn K (.ref C_Refused) (.type "ValueError") = some true)
    (ty_Refused : PySem.W.typeIn K (.ref C_Refused) = some (.type "type"))
    (hd_Refused : PySem.W.hasDictIn K C_Refused = true)
    (se_Refused : PySem.W.mroIn K C_Refused (.ref C_Refused) = some true)
    (su_Refused : PySem.W.ks_superIn K C_Refused C_Refused "__init__" = some (some (.builtin "ValueError.__init__")))
    (xg_Refused : PySem.W.findIn K (.ref C_Refused) "__class__" = some (some (.builtin "object.__class__")))
    (xm_Refused : PySem.W.mroIn K C_Refused (.type "object") = some true)
    (aC_Taken : PySem.W.nsIn K mainGlobals "Taken" = some (some (.ref C_Taken)))
    (xL_Taken : K.lookup C_Taken = some (excClassObj nm_Taken q_Taken C_Taken N_Taken bs_Taken bm_Taken true sn_Taken sub_Taken ab_Taken col_Taken dd_Taken m0_Taken m1_Taken m2_Taken m3_Taken m5_Taken "ValueError.__new__"))
    (rv_Taken : PySem.HandSPX.refsVE bm_Taken = true)
    (sa_Taken : PySem.W.findIn K (.ref C_Taken) "__setattr__" = some (some (.builtin "object.__setattr__")))
    (ga_Taken : PySem.W.findIn K (.ref C_Taken) "__getattribute__" = some (some (.builtin "BaseException.__getattribute__")))
    (gg_Taken : PySem.W.findIn K (.ref C_Taken) "__getattr__" = some none)
    (no_Taken_value : PySem.W.findIn K (.ref C_Taken) "value" = some none)
    (iC_Taken : PySem.W.findIn K (.ref C_Taken) "__init__" = some (some (.ref F_Taken)))
    (tC_Taken : PySem.W.typeIn K (.ref F_Taken) = some (.type "function"))
    (l_Taken : K.lookup F_Taken = some ⟨oc_Taken, od_Taken, .func (PySem.W.ksFn "__init__" "Taken.__init__" (defArgs (inClass (top 9) 0)) (defBody (inClass (top 9) 0)) (defScope (inClass (top 9) 0)) .none .none doc_Taken pm_Taken an_Taken (.ref cda_Taken) ct_Taken cc_Taken), osl_Taken⟩)
    (c_Taken : PySem.W.codeIn K (.ref cda_Taken) "Taken.__init__" = true)
    (d_Taken : K.lookup cda_Taken = some ⟨ccl_Taken, cdd_Taken, .fields vs_Taken, ccs_Taken⟩)
    (v_Taken : vs_Taken[2]? = some (.str file_Taken tf_Taken))
    (fi_Taken : ((PySem.Challenge.pw_unitsheld_k09_errors.main.file : Str) == file_Taken) = true)
    (ce_Taken : K.lookup cc_Taken = some ⟨cl_Taken, cld_Taken, .cell (some (.ref C_Taken)), csl_Taken⟩)
    (kC_Taken : PySem.W.keepIn K (.ref C_Taken) = true)
    (eC_Taken : PySem.W.subIn K (.ref C_Taken) (.type "BaseException") = some true)
    (vC_Taken : PySem.W.subIn K (.ref C_Taken) (.type "ValueError") = some true)
    (ty_Taken : PySem.W.typeIn K (.ref C_Taken) = some (.type "type"))
    (hd_Taken : PySem.W.hasDictIn K C_Taken = true)
    (se_Taken : PySem.W.mroIn K C_Taken (.ref C_Taken) = some true)
    (su_Taken : PySem.W.ks_superIn K C_Taken C_Taken "__init__" = some (some (.builtin "ValueError.__init__")))
    (xg_Taken : PySem.W.findIn K (.ref C_Taken) "__class__" = some (some (.builtin "object.__class__")))
    (xm_Taken : PySem.W.mroIn K C_Taken (.type "object") = some true)
    (aC_TooMany : PySem.W.nsIn K mainGlobals "TooMany" = some (some (.ref C_TooMany)))
    (xL_TooMany : K.lookup C_TooMany = some (excClassObj nm_TooMany q_TooMany C_TooMany N_TooMany bs_TooMany bm_TooMany true sn_TooMany sub_TooMany ab_TooMany col_TooMany dd_TooMany m0_TooMany m1_TooMany m2_TooMany m3_TooMany m5_TooMany "ValueError.__new__"))
    (rv_TooMany : PySem.HandSPX.refsVE bm_TooMany = true)
    (sa_TooMany : PySem.W.findIn K (.ref C_TooMany) "__setattr__" = some (some (.builtin "object.__setattr__")))
    (ga_TooMany : PySem.W.findIn K (.ref C_TooMany) "__getattribute__" = some (some (.builtin "BaseException.__getattribute__")))
    (gg_TooMany : PySem.W.findIn K (.ref C_TooMany) "__getattr__" = some none)
    (no_TooMany_limit : PySem.W.findIn K (.ref C_TooMany) "limit" = some none)
    (iC_TooMany : PySem.W.findIn K (.ref C_TooMany) "__init__" = some (some (.ref F_TooMany)))
    (tC_TooMany : PySem.W.typeIn K (.ref F_TooMany) = some (.type "function"))
    (l_TooMany : K.lookup F_TooMany = some ⟨oc_TooMany, od_TooMany, .func (PySem.W.ksFn "__init__" "TooMany.__init__" (defArgs (inClass (top 7) 0)) (defBody (inClass (top 7) 0)) (defScope (inClass (top 7) 0)) .none .none doc_TooMany pm_TooMany an_TooMany (.ref cda_TooMany) ct_TooMany cc_TooMany), osl_TooMany⟩)
    (c_TooMany : PySem.W.codeIn K (.ref cda_TooMany) "TooMany.__init__" = true)
    (d_TooMany : K.lookup cda_TooMany = some ⟨ccl_TooMany, cdd_TooMany, .fields vs_TooMany, ccs_TooMany⟩)
    (v_TooMany : vs_TooMany[2]? = some (.str file_TooMany tf_TooMany))
    (fi_TooMany : ((PySem.Challenge.pw_unitsheld_k09_errors.main.file : Str) == file_TooMany) = true)
    (ce_TooMany : K.lookup cc_TooMany = some ⟨cl_TooMany, cld_TooMany, .cell (some (.ref C_TooMany)), csl_TooMany⟩)
    (kC_TooMany : PySem.W.keepIn K (.ref C_TooMany) = true)
    (eC_TooMany : PySem.W.subIn K (.ref C_TooMany) (.type "BaseException") = some true)
    (vC_TooMany : PySem.W.subIn K (.ref C_TooMany) (.type "ValueError") = some true)
    (ty_TooMany : PySem.W.typeIn K (.ref C_TooMany) = some (.type "type"))
    (hd_TooMany : PySem.W.hasDictIn K C_TooMany = true)
    (se_TooMany : PySem.W.mroIn K C_TooMany (.ref C_TooMany) = some true)
    (su_TooMany : PySem.W.ks_superIn K C_TooMany C_TooMany "__init__" = some (some (.builtin "ValueError.__init__")))
    (xg_TooMany : PySem.W.findIn K (.ref C_TooMany) "__class__" = some (some (.builtin "object.__class__")))
    (xm_TooMany : PySem.W.mroIn K C_TooMany (.type "object") = some true)
    (aC_Unknown : PySem.W.nsIn K mainGlobals "Unknown" = some (some (.ref C_Unknown)))
    (xL_Unknown : K.lookup C_Unknown = some (excClassObj nm_Unknown q_Unknown C_Unknown N_Unknown bs_Unknown bm_Unknown true sn_Unknown sub_Unknown ab_Unknown col_Unknown dd_Unknown m0_Unknown m1_Unknown m2_Unknown m3_Unknown m5_Unknown "ValueError.__new__"))
    (rv_Unknown : PySem.HandSPX.refsVE bm_Unknown = true)
    (sa_Unknown : PySem.W.findIn K (.ref C_Unknown) "__setattr__" = some (some (.builtin "object.__setattr__")))
    (ga_Unknown : PySem.W.findIn K (.ref C_Unknown) "__getattribute__" = some (some (.builtin "BaseException.__getattribute__")))
    (gg_Unknown : PySem.W.findIn K (.ref C_Unknown) "__getattr__" = some none)
    (no_Unknown_value : PySem.W.findIn K (.ref C_Unknown) "value" = some none)
    (iC_Unknown : PySem.W.findIn K (.ref C_Unknown) "__init__" = some (some (.ref F_Unknown)))
    (tC_Unknown : PySem.W.typeIn K (.ref F_Unknown) = some (.type "function"))
    (l_Unknown : K.lookup F_Unknown = some ⟨oc_Unknown, od_Unknown, .func (PySem.W.ksFn "__init__" "Unknown.__init__" (defArgs (inClass (top 8) 0)) (defBody (inClass (top 8) 0)) (defScope (inClass (top 8) 0)) .none .none doc_Unknown pm_Unknown an_Unknown (.ref cda_Unknown) ct_Unknown cc_Unknown), osl_Unknown⟩)
    (c_Unknown : PySem.W.codeIn K (.ref cda_Unknown) "Unknown.__init__" = true)
    (d_Unknown : K.lookup cda_Unknown = some ⟨ccl_Unknown, cdd_Unknown, .fields vs_Unknown, ccs_Unknown⟩)
    (v_Unknown : vs_Unknown[2]? = some (.str file_Unknown tf_Unknown))
    (fi_Unknown : ((PySem.Challenge.pw_unitsheld_k09_errors.main.file : Str) == file_Unknown) = true)
    (ce_Unknown : K.lookup cc_Unknown = some ⟨cl_Unknown, cld_Unknown, .cell (some (.ref C_Unknown)), csl_Unknown⟩)
    (kC_Unknown : PySem.W.keepIn K (.ref C_Unknown) = true)
    (eC_Unknown : PySem.W.subIn K (.ref C_Unknown) (.type "BaseException") = some true)
    (vC_Unknown : PySem.W.subIn K (.ref C_Unknown) (.type "ValueError") = some true)
    (ty_Unknown : PySem.W.typeIn K (.ref C_Unknown) = some (.type "type"))
    (hd_Unknown : PySem.W.hasDictIn K C_Unknown = true)
    (se_Unknown : PySem.W.mroIn K C_Unknown (.ref C_Unknown) = some true)
    (su_Unknown : PySem.W.ks_superIn K C_Unknown C_Unknown "__init__" = some (some (.builtin "ValueError.__init__")))
    (xg_Unknown : PySem.W.findIn K (.ref C_Unknown) "__class__" = some (some (.builtin "object.__class__")))
    (xm_Unknown : PySem.W.mroIn K C_Unknown (.type "object") = some true)
    (ko_Unknown_BadEvent : PySem.W.kitOne K (.ref C_Unknown) (.ref C_BadEvent) = some false)
    (ko_TooMany_BadEvent : PySem.W.kitOne K (.ref C_TooMany) (.ref C_BadEvent) = some false)
    (ko_Taken_BadEvent : PySem.W.kitOne K (.ref C_Taken) (.ref C_BadEvent) = some false)
    (ko_Refused_BadEvent : PySem.W.kitOne K (.ref C_Refused) (.ref C_BadEvent) = some false)
    (ko_NothingToUndo_BadEvent : PySem.W.kitOne K (.ref C_NothingToUndo) (.ref C_BadEvent) = some false)
    (ko_BadNumber_BadEvent : PySem.W.kitOne K (.ref C_BadNumber) (.ref C_BadEvent) = some false)
    (ko_BadNote_BadEvent : PySem.W.kitOne K (.ref C_BadNote) (.ref C_BadEvent) = some false)
    (ko_BadName_BadEvent : PySem.W.kitOne K (.ref C_BadName) (.ref C_BadEvent) = some false)
    (ko_BadItem_BadEvent : PySem.W.kitOne K (.ref C_BadItem) (.ref C_BadEvent) = some false)
    (ko_BadEvent_BadEvent : PySem.W.kitOne K (.ref C_BadEvent) (.ref C_BadEvent) = some true)
    (ko_Unknown_BadItem : PySem.W.kitOne K (.ref C_Unknown) (.ref C_BadItem) = some false)
    (ko_TooMany_BadItem : PySem.W.kitOne K (.ref C_TooMany) (.ref C_BadItem) = some false)
    (ko_Taken_BadItem : PySem.W.kitOne K (.ref C_Taken) (.ref C_BadItem) = some false)
    (ko_Refused_BadItem : PySem.W.kitOne K (.ref C_Refused) (.ref C_BadItem) = some false)
    (ko_NothingToUndo_BadItem : PySem.W.kitOne K (.ref C_NothingToUndo) (.ref C_BadItem) = some false)
    (ko_BadNumber_BadItem : PySem.W.kitOne K (.ref C_BadNumber) (.ref C_BadItem) = some false)
    (ko_BadNote_BadItem : PySem.W.kitOne K (.ref C_BadNote) (.ref C_BadItem) = some false)
    (ko_BadName_BadItem : PySem.W.kitOne K (.ref C_BadName) (.ref C_BadItem) = some false)
    (ko_BadItem_BadItem : PySem.W.kitOne K (.ref C_BadItem) (.ref C_BadItem) = some true)
    (ko_BadEvent_BadItem : PySem.W.kitOne K (.ref C_BadEvent) (.ref C_BadItem) = some false)
    (ko_Unknown_BadName : PySem.W.kitOne K (.ref C_Unknown) (.ref C_BadName) = some false)
    (ko_TooMany_BadName : PySem.W.kitOne K (.ref C_TooMany) (.ref C_BadName) = some false)
    (ko_Taken_BadName : PySem.W.kitOne K (.ref C_Taken) (.ref C_BadName) = some false)
    (ko_Refused_BadName : PySem.W.kitOne K (.ref C_Refused) (.ref C_BadName) = some false)
    (ko_NothingToUndo_BadName : PySem.W.kitOne K (.ref C_NothingToUndo) (.ref C_BadName) = some false)
    (ko_BadNumber_BadName : PySem.W.kitOne K (.ref C_BadNumber) (.ref C_BadName) = some false)
    (ko_BadNote_BadName : PySem.W.kitOne K (.ref C_BadNote) (.ref C_BadName) = some false)
    (ko_BadName_BadName : PySem.W.kitOne K (.ref C_BadName) (.ref C_BadName) = some true)
    (ko_BadItem_BadName : PySem.W.kitOne K (.ref C_BadItem) (.ref C_BadName) = some false)
    (ko_BadEvent_BadName : PySem.W.kitOne K (.ref C_BadEvent) (.ref C_BadName) = some false)
    (ko_Unknown_BadNote : PySem.W.kitOne K (.ref C_Unknown) (.ref C_BadNote) = some false)
    (ko_TooMany_BadNote : PySem.W.kitOne K (.ref C_TooMany) (.ref C_BadNote) = some false)
    (ko_Taken_BadNote : PySem.W.kitOne K (.ref C_Taken) (.ref C_BadNote) = some false)
    (ko_Refused_BadNote : PySem.W.kitOne K (.ref C_Refused) (.ref C_BadNote) = some false)
    (ko_NothingToUndo_BadNote : PySem.W.kitOne K (.ref C_NothingToUndo) (.ref C_BadNote) = some false)
    (ko_BadNumber_BadNote : PySem.W.kitOne K (.ref C_BadNumber) (.ref C_BadNote) = some false)
    (ko_BadNote_BadNote : PySem.W.kitOne K (.ref C_BadNote) (.ref C_BadNote) = some true)
    (ko_BadName_BadNote : PySem.W.kitOne K (.ref C_BadName) (.ref C_BadNote) = some false)
    (ko_BadItem_BadNote : PySem.W.kitOne K (.ref C_BadItem) (.ref C_BadNote) = some false)
    (ko_BadEvent_BadNote : PySem.W.kitOne K (.ref C_BadEvent) (.ref C_BadNote) = some false)
    (ko_Unknown_BadNumber : PySem.W.kitOne K (.ref C_Unknown) (.ref C_BadNumber) = some false)
    (ko_TooMany_BadNumber : PySem.W.kitOne K (.ref C_TooMany) (.ref C_BadNumber) = some false)
    (ko_Taken_BadNumber : PySem.W.kitOne K (.ref C_Taken) (.ref C_BadNumber) = some false)
    (ko_Refused_BadNumber : PySem.W.kitOne K (.ref C_Refused) (.ref C_BadNumber) = some false)
    (ko_NothingToUndo_BadNumber : PySem.W.kitOne K (.ref C_NothingToUndo) (.ref C_BadNumber) = some false)
    (ko_BadNumber_BadNumber : PySem.W.kitOne K (.ref C_BadNumber) (.ref C_BadNumber) = some true)
    (ko_BadNote_BadNumber : PySem.W.kitOne K (.ref C_BadNote) (.ref C_BadNumber) = some false)
    (ko_BadName_BadNumber : PySem.W.kitOne K (.ref C_BadName) (.ref C_BadNumber) = some false)
    (ko_BadItem_BadNumber : PySem.W.kitOne K (.ref C_BadItem) (.ref C_BadNumber) = some false)
    (ko_BadEvent_BadNumber : PySem.W.kitOne K (.ref C_BadEvent) (.ref C_BadNumber) = some false)
    (ko_Unknown_LookupError : PySem.W.kitOne K (.ref C_Unknown) (.type "LookupError") = some false)
    (ko_TooMany_LookupError : PySem.W.kitOne K (.ref C_TooMany) (.type "LookupError") = some false)
    (ko_Taken_LookupError : PySem.W.kitOne K (.ref C_Taken) (.type "LookupError") = some false)
    (ko_Refused_LookupError : PySem.W.kitOne K (.ref C_Refused) (.type "LookupError") = some false)
    (ko_NothingToUndo_LookupError : PySem.W.kitOne K (.ref C_NothingToUndo) (.type "LookupError") = some false)
    (ko_BadNumber_LookupError : PySem.W.kitOne K (.ref C_BadNumber) (.type "LookupError") = some false)
    (ko_BadNote_LookupError : PySem.W.kitOne K (.ref C_BadNote) (.type "LookupError") = some false)
    (ko_BadName_LookupError : PySem.W.kitOne K (.ref C_BadName) (.type "LookupError") = some false)
    (ko_BadItem_LookupError : PySem.W.kitOne K (.ref C_BadItem) (.type "LookupError") = some false)
    (ko_BadEvent_LookupError : PySem.W.kitOne K (.ref C_BadEvent) (.type "LookupError") = some false)
    (ko_Unknown_NothingToUndo : PySem.W.kitOne K (.ref C_Unknown) (.ref C_NothingToUndo) = some false)
    (ko_TooMany_NothingToUndo : PySem.W.kitOne K (.ref C_TooMany) (.ref C_NothingToUndo) = some false)
    (ko_Taken_NothingToUndo : PySem.W.kitOne K (.ref C_Taken) (.ref C_NothingToUndo) = some false)
    (ko_Refused_NothingToUndo : PySem.W.kitOne K (.ref C_Refused) (.ref C_NothingToUndo) = some false)
    (ko_NothingToUndo_NothingToUndo : PySem.W.kitOne K (.ref C_NothingToUndo) (.ref C_NothingToUndo) = some true)
    (ko_BadNumber_NothingToUndo : PySem.W.kitOne K (.ref C_BadNumber) (.ref C_NothingToUndo) = some false)
    (ko_BadNote_NothingToUndo : PySem.W.kitOne K (.ref C_BadNote) (.ref C_NothingToUndo) = some false)
    (ko_BadName_NothingToUndo : PySem.W.kitOne K (.ref C_BadName) (.ref C_NothingToUndo) = some false)
    (ko_BadItem_NothingToUndo : PySem.W.kitOne K (.ref C_BadItem) (.ref C_NothingToUndo) = some false)
    (ko_BadEvent_NothingToUndo : PySem.W.kitOne K (.ref C_BadEvent) (.ref C_NothingToUndo) = some false)
    (ko_Unknown_Refused : PySem.W.kitOne K (.ref C_Unknown) (.ref C_Refused) = some false)
    (ko_TooMany_Refused : PySem.W.kitOne K (.ref C_TooMany) (.ref C_Refused) = some false)
    (ko_Taken_Refused : PySem.W.kitOne K (.ref C_Taken) (.ref C_Refused) = some false)
    (ko_Refused_Refused : PySem.W.kitOne K (.ref C_Refused) (.ref C_Refused) = some true)
    (ko_NothingToUndo_Refused : PySem.W.kitOne K (.ref C_NothingToUndo) (.ref C_Refused) = some false)
    (ko_BadNumber_Refused : PySem.W.kitOne K (.ref C_BadNumber) (.ref C_Refused) = some false)
    (ko_BadNote_Refused : PySem.W.kitOne K (.ref C_BadNote) (.ref C_Refused) = some false)
    (ko_BadName_Refused : PySem.W.kitOne K (.ref C_BadName) (.ref C_Refused) = some false)
    (ko_BadItem_Refused : PySem.W.kitOne K (.ref C_BadItem) (.ref C_Refused) = some false)
    (ko_BadEvent_Refused : PySem.W.kitOne K (.ref C_BadEvent) (.ref C_Refused) = some false)
    (ko_Unknown_RuntimeError : PySem.W.kitOne K (.ref C_Unknown) (.type "RuntimeError") = some false)
    (ko_TooMany_RuntimeError : PySem.W.kitOne K (.ref C_TooMany) (.type "RuntimeError") = some false)
    (ko_Taken_RuntimeError : PySem.W.kitOne K (.ref C_Taken) (.type "RuntimeError") = some false)
    (ko_Refused_RuntimeError : PySem.W.kitOne K (.ref C_Refused) (.type "RuntimeError") = some false)
    (ko_NothingToUndo_RuntimeError : PySem.W.kitOne K (.ref C_NothingToUndo) (.type "RuntimeError") = some false)
    (ko_BadNumber_RuntimeError : PySem.W.kitOne K (.ref C_BadNumber) (.type "RuntimeError") = some false)
    (ko_BadNote_RuntimeError : PySem.W.kitOne K (.ref C_BadNote) (.type "RuntimeError") = some false)
    (ko_BadName_RuntimeError : PySem.W.kitOne K (.ref C_BadName) (.type "RuntimeError") = some false)
    (ko_BadItem_RuntimeError : PySem.W.kitOne K (.ref C_BadItem) (.type "RuntimeError") = some false)
    (ko_BadEvent_RuntimeError : PySem.W.kitOne K (.ref C_BadEvent) (.type "RuntimeError") = some false)
    (ko_Unknown_Taken : PySem.W.kitOne K (.ref C_Unknown) (.ref C_Taken) = some false)
    (ko_TooMany_Taken : PySem.W.kitOne K (.ref C_TooMany) (.ref C_Taken) = some false)
    (ko_Taken_Taken : PySem.W.kitOne K (.ref C_Taken) (.ref C_Taken) = some true)
    (ko_Refused_Taken : PySem.W.kitOne K (.ref C_Refused) (.ref C_Taken) = some false)
    (ko_NothingToUndo_Taken : PySem.W.kitOne K (.ref C_NothingToUndo) (.ref C_Taken) = some false)
    (ko_BadNumber_Taken : PySem.W.kitOne K (.ref C_BadNumber) (.ref C_Taken) = some false)
    (ko_BadNote_Taken : PySem.W.kitOne K (.ref C_BadNote) (.ref C_Taken) = some false)
    (ko_BadName_Taken : PySem.W.kitOne K (.ref C_BadName) (.ref C_Taken) = some false)
    (ko_BadItem_Taken : PySem.W.kitOne K (.ref C_BadItem) (.ref C_Taken) = some false)
    (ko_BadEvent_Taken : PySem.W.kitOne K (.ref C_BadEvent) (.ref C_Taken) = some false)
    (ko_Unknown_TooMany : PySem.W.kitOne K (.ref C_Unknown) (.ref C_TooMany) = some false)
    (ko_TooMany_TooMany : PySem.W.kitOne K (.ref C_TooMany) (.ref C_TooMany) = some true)
    (ko_Taken_TooMany : PySem.W.kitOne K (.ref C_Taken) (.ref C_TooMany) = some false)
    (ko_Refused_TooMany : PySem.W.kitOne K (.ref C_Refused) (.ref C_TooMany) = some false)
    (ko_NothingToUndo_TooMany : PySem.W.kitOne K (.ref C_NothingToUndo) (.ref C_TooMany) = some false)
    (ko_BadNumber_TooMany : PySem.W.kitOne K (.ref C_BadNumber) (.ref C_TooMany) = some false)
    (ko_BadNote_TooMany : PySem.W.kitOne K (.ref C_BadNote) (.ref C_TooMany) = some false)
    (ko_BadName_TooMany : PySem.W.kitOne K (.ref C_BadName) (.ref C_TooMany) = some false)
    (ko_BadItem_TooMany : PySem.W.kitOne K (.ref C_BadItem) (.ref C_TooMany) = some false)
    (ko_BadEvent_TooMany : PySem.W.kitOne K (.ref C_BadEvent) (.ref C_TooMany) = some false)
    (ko_Unknown_Unknown : PySem.W.kitOne K (.ref C_Unknown) (.ref C_Unknown) = some true)
    (ko_TooMany_Unknown : PySem.W.kitOne K (.ref C_TooMany) (.ref C_Unknown) = some false)
    (ko_Taken_Unknown : PySem.W.kitOne K (.ref C_Taken) (.ref C_Unknown) = some false)
    (ko_Refused_Unknown : PySem.W.kitOne K (.ref C_Refused) (.ref C_Unknown) = some false)
    (ko_NothingToUndo_Unknown : PySem.W.kitOne K (.ref C_NothingToUndo) (.ref C_Unknown) = some false)
    (ko_BadNumber_Unknown : PySem.W.kitOne K (.ref C_BadNumber) (.ref C_Unknown) = some false)
    (ko_BadNote_Unknown : PySem.W.kitOne K (.ref C_BadNote) (.ref C_Unknown) = some false)
    (ko_BadName_Unknown : PySem.W.kitOne K (.ref C_BadName) (.ref C_Unknown) = some false)
    (ko_BadItem_Unknown : PySem.W.kitOne K (.ref C_BadItem) (.ref C_Unknown) = some false)
    (ko_BadEvent_Unknown : PySem.W.kitOne K (.ref C_BadEvent) (.ref C_Unknown) = some false)
    (ko_Unknown_ValueError : PySem.W.kitOne K (.ref C_Unknown) (.type "ValueError") = some true)
    (ko_TooMany_ValueError : PySem.W.kitOne K (.ref C_TooMany) (.type "ValueError") = some true)
    (ko_Taken_ValueError : PySem.W.kitOne K (.ref C_Taken) (.type "ValueError") = some true)
    (ko_Refused_ValueError : PySem.W.kitOne K (.ref C_Refused) (.type "ValueError") = some true)
    (ko_NothingToUndo_ValueError : PySem.W.kitOne K (.ref C_NothingToUndo) (.type "ValueError") = some true)
    (ko_BadNumber_ValueError : PySem.W.kitOne K (.ref C_BadNumber) (.type "ValueError") = some true)
    (ko_BadNote_ValueError : PySem.W.kitOne K (.ref C_BadNote) (.type "ValueError") = some true)
    (ko_BadName_ValueError : PySem.W.kitOne K (.ref C_BadName) (.type "ValueError") = some true)
    (ko_BadItem_ValueError : PySem.W.kitOne K (.ref C_BadItem) (.type "ValueError") = some true)
    (ko_BadEvent_ValueError : PySem.W.kitOne K (.ref C_BadEvent) (.type "ValueError") = some true)
    (aC_HeldError : PySem.W.nsIn K mainGlobals "HeldError" = some (some (.ref C_HeldError)))
    (eC_HeldError : PySem.W.subIn K (.ref C_HeldError) (.type "BaseException") = some true)
    (ty_HeldError : PySem.W.typeIn K (.ref C_HeldError) = some (.type "type"))
    (ic_HeldError : PySem.W.isClsIn K C_HeldError = true)
    (sub_Unknown_HeldError : PySem.W.subIn K (.ref C_Unknown) (.ref C_HeldError) = some true)
    (sub_TooMany_HeldError : PySem.W.subIn K (.ref C_TooMany) (.ref C_HeldError) = some true)
    (sub_Taken_HeldError : PySem.W.subIn K (.ref C_Taken) (.ref C_HeldError) = some true)
    (sub_Refused_HeldError : PySem.W.subIn K (.ref C_Refused) (.ref C_HeldError) = some true)
    (sub_NothingToUndo_HeldError : PySem.W.subIn K (.ref C_NothingToUndo) (.ref C_HeldError) = some true)
    (sub_BadNumber_HeldError : PySem.W.subIn K (.ref C_BadNumber) (.ref C_HeldError) = some true)
    (sub_BadNote_HeldError : PySem.W.subIn K (.ref C_BadNote) (.ref C_HeldError) = some true)
    (sub_BadName_HeldError : PySem.W.subIn K (.ref C_BadName) (.ref C_HeldError) = some true)
    (sub_BadItem_HeldError : PySem.W.subIn K (.ref C_BadItem) (.ref C_HeldError) = some true)
    (sub_BadEvent_HeldError : PySem.W.subIn K (.ref C_BadEvent) (.ref C_HeldError) = some true) :
    ∃ (fd : FuncData) (Fd : List D → RF), (∀ (s : Shared) (u : Value), BindsTo s fd ⟨[u], []⟩ [("script", u)]) ∧ (∀ ns : List Int, ns.length ≤ 63 → ∃ io, Fd [.scr ns] = .ok (.bl true) io) ∧ ∀ b : Heap, K.In b → b.Ns mainGlobals mg → FnG PySem.Challenge.pw_unitsheld_k09_errors w K mg b 25 fa fd ["script"] (spP ⟨K, mg⟩ Fd) := by
  have e := hfa.symm.trans (PySem.W.mg_of X G a4)
  cases e
  have T_BadEvent : DLX.Cl PySem.Challenge.pw_unitsheld_k09_errors K mg "BadEvent" C_BadEvent F_BadEvent ["value"] := ⟨PySem.W.mg_of X G aC_BadEvent, ⟨_, _, _, _, _, _, _, _, _, _, _, _, _, _, _, xL_BadEvent, rv_BadEvent⟩, sa_BadEvent, ga_BadEvent, gg_BadEvent, (by
      intro x hx
      rcases List.mem_cons.mp hx with rfl | hx
      · exact no_BadEvent_value
      cases hx), iC_BadEvent, tC_BadEvent, kC_BadEvent, eC_BadEvent, vC_BadEvent, ty_BadEvent, hd_BadEvent, se_BadEvent, su_BadEvent, op, ms, tops⟩
  have X_BadEvent : HasEx PySem.Challenge.pw_unitsheld_k09_errors w K mg "BadEvent" ["value"] := hasEx1 T_BadEvent ⟨⟨_, _, _, _, _, _, _, _, _, _, _, _, _, _, _, _, _, _, l_BadEvent, c_BadEvent, d_BadEvent, v_BadEvent, fi_BadEvent, ce_BadEvent⟩⟩
  have T_BadItem : DLX.Cl PySem.Challenge.pw_unitsheld_k09_errors K mg "BadItem" C_BadItem F_BadItem ["index"] := ⟨PySem.W.mg_of X G aC_BadItem, ⟨_, _, _, _, _, _, _, _, _, _, _, _, _, _, _, xL_BadItem, rv_BadItem⟩, sa_BadItem, ga_BadItem, gg_BadItem, (by
      intro x hx
      rcases List.mem_cons.mp hx with rfl | hx
      · exact no_BadItem_index
      cases hx), iC_BadItem, tC_BadItem, kC_BadItem, eC_BadItem, vC_BadItem, ty_BadItem, hd_BadItem, se_BadItem, su_BadItem, op, ms, tops⟩
  have X_BadItem : HasEx PySem.Challenge.pw_unitsheld_k09_errors w K mg "BadItem" ["index"] := hasEx1 T_BadItem ⟨⟨_, _, _, _, _, _, _, _, _, _, _, _, _, _, _, _, _, _, l_BadItem, c_BadItem, d_BadItem, v_BadItem, fi_BadItem, ce_BadItem⟩⟩
  have T_BadName : DLX.Cl PySem.Challenge.pw_unitsheld_k09_errors K mg "BadName" C_BadName F_BadName ["value"] := ⟨PySem.W.mg_of X G aC_BadName, ⟨_, _, _, _, _, _, _, _, _, _, _, _, _, _, _, xL_BadName, rv_BadName⟩, sa_BadName, ga_BadName, gg_BadName, (by
      intro x hx
      rcases List.mem_cons.mp hx with rfl | hx
      · exact no_BadName_value
      cases hx), iC_BadName, tC_BadName, kC_BadName, eC_BadName, vC_BadName, ty_BadName, hd_BadName, se_BadName, su_BadName, op, ms, tops⟩
  have X_BadName : HasEx PySem.Challenge.pw_unitsheld_k09_errors w K mg "BadName" ["value"] := hasEx1 T_BadName ⟨⟨_, _, _, _, _, _, _, _, _, _, _, _, _, _, _, _, _, _, l_BadName, c_BadName, d_BadName, v_BadName, fi_BadName, ce_BadName⟩⟩
  have T_BadNote : DLX.Cl PySem.Challenge.pw_unitsheld_k09_errors K mg "BadNote" C_BadNote F_BadNote ["line"] := ⟨PySem.W.mg_of X G aC_BadNote, ⟨_, _, _, _, _, _, _, _, _, _, _, _, _, _, _, xL_BadNote, rv_BadNote⟩, sa_BadNote, ga_BadNote, gg_BadNote, (by
      intro x hx
      rcases List.mem_cons.mp hx with rfl | hx
      · exact no_BadNote_line
      cases hx), iC_BadNote, tC_BadNote, kC_BadNote, eC_BadNote, vC_BadNote, ty_BadNote, hd_BadNote, se_BadNote, su_BadNote, op, ms, tops⟩
  have X_BadNote : HasEx PySem.Challenge.pw_unitsheld_k09_errors w K mg "BadNote" ["line"] := hasEx1 T_BadNote ⟨⟨_, _, _, _, _, _, _, _, _, _, _, _, _, _, _, _, _, _, l_BadNote, c_BadNote, d_BadNote, v_BadNote, fi_BadNote, ce_BadNote⟩⟩
  have T_BadNumber : DLX.Cl PySem.Challenge.pw_unitsheld_k09_errors K mg "BadNumber" C_BadNumber F_BadNumber ["value"] := ⟨PySem.W.mg_of X G aC_BadNumber, ⟨_, _, _, _, _, _, _, _, _, _, _, _, _, _, _, xL_BadNumber, rv_BadNumber⟩, sa_BadNumber, ga_BadNumber, gg_BadNumber, (by
      intro x hx
      rcases List.mem_cons.mp hx with rfl | hx
      · exact no_BadNumber_value
      cases hx), iC_BadNumber, tC_BadNumber, kC_BadNumber, eC_BadNumber, vC_BadNumber, ty_BadNumber, hd_BadNumber, se_BadNumber, su_BadNumber, op, ms, tops⟩
  have X_BadNumber : HasEx PySem.Challenge.pw_unitsheld_k09_errors w K mg "BadNumber" ["value"] := hasEx1 T_BadNumber ⟨⟨_, _, _, _, _, _, _, _, _, _, _, _, _, _, _, _, _, _, l_BadNumber, c_BadNumber, d_BadNumber, v_BadNumber, fi_BadNumber, ce_BadNumber⟩⟩
  have X_NothingToUndo : HasE0 K mg "NothingToUndo" := ⟨_, _, _, _, _, PySem.F.excBase_ValueError, PySem.W.mg_of X G aC_NothingToUndo, xi_NothingToUndo, kC_NothingToUndo, eC_NothingToUndo, ty_NothingToUndo⟩
  have T_Refused : DLX.Cl PySem.Challenge.pw_unitsheld_k09_errors K mg "Refused" C_Refused F_Refused ["reason", "names"] := ⟨PySem.W.mg_of X G aC_Refused, ⟨_, _, _, _, _, _, _, _, _, _, _, _, _, _, _, xL_Refused, rv_Refused⟩, sa_Refused, ga_Refused, gg_Refused, (by
      intro x hx
      rcases List.mem_cons.mp hx with rfl | hx
      · exact no_Refused_reason
      rcases List.mem_cons.mp hx with rfl | hx
      · exact no_Refused_names
      cases hx), iC_Refused, tC_Refused, kC_Refused, eC_Refused, vC_Refused, ty_Refused, hd_Refused, se_Refused, su_Refused, op, ms, tops⟩
  have X_Refused : HasEx PySem.Challenge.pw_unitsheld_k09_errors w K mg "Refused" ["reason", "names"] := hasEx2 T_Refused ⟨⟨_, _, _, _, _, _, _, _, _, _, _, _, _, _, _, _, _, _, l_Refused, c_Refused, d_Refused, v_Refused, fi_Refused, ce_Refused⟩⟩
  have T_Taken : DLX.Cl PySem.Challenge.pw_unitsheld_k09_errors K mg "Taken" C_Taken F_Taken ["value"] := ⟨PySem.W.mg_of X G aC_Taken, ⟨_, _, _, _, _, _, _, _, _, _, _, _, _, _, _, xL_Taken, rv_Taken⟩, sa_Taken, ga_Taken, gg_Taken, (by
      intro x hx
      rcases List.mem_cons.mp hx with rfl | hx
      · exact no_Taken_value
      cases hx), iC_Taken, tC_Taken, kC_Taken, eC_Taken, vC_Taken, ty_Taken, hd_Taken, se_Taken, su_Taken, op, ms, tops⟩
  have X_Taken : HasEx PySem.Challenge.pw_unitsheld_k09_errors w K mg "Taken" ["value"] := hasEx1 T_Taken ⟨⟨_, _, _, _, _, _, _, _, _, _, _, _, _, _, _, _, _, _, l_Taken, c_Taken, d_Taken, v_Taken, fi_Taken, ce_Taken⟩⟩
  have T_TooMany : DLX.Cl PySem.Challenge.pw_unitsheld_k09_errors K mg "TooMany" C_TooMany F_TooMany ["limit"] := ⟨PySem.W.mg_of X G aC_TooMany, ⟨_, _, _, _, _, _, _, _, _, _, _, _, _, _, _, xL_TooMany, rv_TooMany⟩, sa_TooMany, ga_TooMany, gg_TooMany, (by
      intro x hx
      rcases List.mem_cons.mp hx with rfl | hx
      · exact no_TooMany_limit
      cases hx), iC_TooMany, tC_TooMany, kC_TooMany, eC_TooMany, vC_TooMany, ty_TooMany, hd_TooMany, se_TooMany, su_TooMany, op, ms, tops⟩
  have X_TooMany : HasEx PySem.Challenge.pw_unitsheld_k09_errors w K mg "TooMany" ["limit"] := hasEx1 T_TooMany ⟨⟨_, _, _, _, _, _, _, _, _, _, _, _, _, _, _, _, _, _, l_TooMany, c_TooMany, d_TooMany, v_TooMany, fi_TooMany, ce_TooMany⟩⟩
  have T_Unknown : DLX.Cl PySem.Challenge.pw_unitsheld_k09_errors K mg "Unknown" C_Unknown F_Unknown ["value"] := ⟨PySem.W.mg_of X G aC_Unknown, ⟨_, _, _, _, _, _, _, _, _, _, _, _, _, _, _, xL_Unknown, rv_Unknown⟩, sa_Unknown, ga_Unknown, gg_Unknown, (by
      intro x hx
      rcases List.mem_cons.mp hx with rfl | hx
      · exact no_Unknown_value
      cases hx), iC_Unknown, tC_Unknown, kC_Unknown, eC_Unknown, vC_Unknown, ty_Unknown, hd_Unknown, se_Unknown, su_Unknown, op, ms, tops⟩
  have X_Unknown : HasEx PySem.Challenge.pw_unitsheld_k09_errors w K mg "Unknown" ["value"] := hasEx1 T_Unknown ⟨⟨_, _, _, _, _, _, _, _, _, _, _, _, _, _, _, _, _, _, l_Unknown, c_Unknown, d_Unknown, v_Unknown, fi_Unknown, ce_Unknown⟩⟩
  have W_BadEvent_value : HasKw PySem.Challenge.pw_unitsheld_k09_errors w K mg "BadEvent" ["value"] := hasKw1 T_BadEvent ⟨⟨_, _, _, _, _, _, _, _, _, _, _, _, _, _, _, _, _, _, l_BadEvent, c_BadEvent, d_BadEvent, v_BadEvent, fi_BadEvent, ce_BadEvent⟩⟩
  have W_BadItem_index : HasKw PySem.Challenge.pw_unitsheld_k09_errors w K mg "BadItem" ["index"] := hasKw1 T_BadItem ⟨⟨_, _, _, _, _, _, _, _, _, _, _, _, _, _, _, _, _, _, l_BadItem, c_BadItem, d_BadItem, v_BadItem, fi_BadItem, ce_BadItem⟩⟩
  have W_BadName_value : HasKw PySem.Challenge.pw_unitsheld_k09_errors w K mg "BadName" ["value"] := hasKw1 T_BadName ⟨⟨_, _, _, _, _, _, _, _, _, _, _, _, _, _, _, _, _, _, l_BadName, c_BadName, d_BadName, v_BadName, fi_BadName, ce_BadName⟩⟩
  have W_BadNote_line : HasKw PySem.Challenge.pw_unitsheld_k09_errors w K mg "BadNote" ["line"] := hasKw1 T_BadNote ⟨⟨_, _, _, _, _, _, _, _, _, _, _, _, _, _, _, _, _, _, l_BadNote, c_BadNote, d_BadNote, v_BadNote, fi_BadNote, ce_BadNote⟩⟩
  have W_BadNumber_value : HasKw PySem.Challenge.pw_unitsheld_k09_errors w K mg "BadNumber" ["value"] := hasKw1 T_BadNumber ⟨⟨_, _, _, _, _, _, _, _, _, _, _, _, _, _, _, _, _, _, l_BadNumber, c_BadNumber, d_BadNumber, v_BadNumber, fi_BadNumber, ce_BadNumber⟩⟩
  have W_Refused_names_reason : HasKw PySem.Challenge.pw_unitsheld_k09_errors w K mg "Refused" ["names", "reason"] := hasKw2r T_Refused ⟨⟨_, _, _, _, _, _, _, _, _, _, _, _, _, _, _, _, _, _, l_Refused, c_Refused, d_Refused, v_Refused, fi_Refused, ce_Refused⟩⟩
  have W_Refused_reason_names : HasKw PySem.Challenge.pw_unitsheld_k09_errors w K mg "Refused" ["reason", "names"] := hasKw2 T_Refused ⟨⟨_, _, _, _, _, _, _, _, _, _, _, _, _, _, _, _, _, _, l_Refused, c_Refused, d_Refused, v_Refused, fi_Refused, ce_Refused⟩⟩
  have W_Taken_value : HasKw PySem.Challenge.pw_unitsheld_k09_errors w K mg "Taken" ["value"] := hasKw1 T_Taken ⟨⟨_, _, _, _, _, _, _, _, _, _, _, _, _, _, _, _, _, _, l_Taken, c_Taken, d_Taken, v_Taken, fi_Taken, ce_Taken⟩⟩
  have W_TooMany_limit : HasKw PySem.Challenge.pw_unitsheld_k09_errors w K mg "TooMany" ["limit"] := hasKw1 T_TooMany ⟨⟨_, _, _, _, _, _, _, _, _, _, _, _, _, _, _, _, _, _, l_TooMany, c_TooMany, d_TooMany, v_TooMany, fi_TooMany, ce_TooMany⟩⟩
  have W_Unknown_value : HasKw PySem.Challenge.pw_unitsheld_k09_errors w K mg "Unknown" ["value"] := hasKw1 T_Unknown ⟨⟨_, _, _, _, _, _, _, _, _, _, _, _, _, _, _, _, _, _, l_Unknown, c_Unknown, d_Unknown, v_Unknown, fi_Unknown, ce_Unknown⟩⟩
  have Z_BadEvent : ∃ S, mg "BadEvent" = some (.ref S) ∧ IsX K mg (.ref S) tx_BadEvent := ⟨_, PySem.W.mg_of X G aC_BadEvent, (IsX.cons (PySem.W.mg_of X G aC_BadEvent) ⟨ga_BadEvent, gg_BadEvent, eC_BadEvent, hd_BadEvent, xg_BadEvent, osp, otk, xm_BadEvent⟩ ko_BadEvent_BadEvent (IsX.cons (PySem.W.mg_of X G aC_BadItem) ⟨ga_BadItem, gg_BadItem, eC_BadItem, hd_BadItem, xg_BadItem, osp, otk, xm_BadItem⟩ ko_BadItem_BadEvent (IsX.cons (PySem.W.mg_of X G aC_BadName) ⟨ga_BadName, gg_BadName, eC_BadName, hd_BadName, xg_BadName, osp, otk, xm_BadName⟩ ko_BadName_BadEvent (IsX.cons (PySem.W.mg_of X G aC_BadNote) ⟨ga_BadNote, gg_BadNote, eC_BadNote, hd_BadNote, xg_BadNote, osp, otk, xm_BadNote⟩ ko_BadNote_BadEvent (IsX.cons (PySem.W.mg_of X G aC_BadNumber) ⟨ga_BadNumber, gg_BadNumber, eC_BadNumber, hd_BadNumber, xg_BadNumber, osp, otk, xm_BadNumber⟩ ko_BadNumber_BadEvent (IsX.cons (PySem.W.mg_of X G aC_NothingToUndo) ⟨ga_NothingToUndo, gg_NothingToUndo, eC_NothingToUndo, hd_NothingToUndo, xg_NothingToUndo, osp, otk, xm_NothingToUndo⟩ ko_NothingToUndo_BadEvent (IsX.cons (PySem.W.mg_of X G aC_Refused) ⟨ga_Refused, gg_Refused, eC_Refused, hd_Refused, xg_Refused, osp, otk, xm_Refused⟩ ko_Refused_BadEvent (IsX.cons (PySem.W.mg_of X G aC_Taken) ⟨ga_Taken, gg_Taken, eC_Taken, hd_Taken, xg_Taken, osp, otk, xm_Taken⟩ ko_Taken_BadEvent (IsX.cons (PySem.W.mg_of X G aC_TooMany) ⟨ga_TooMany, gg_TooMany, eC_TooMany, hd_TooMany, xg_TooMany, osp, otk, xm_TooMany⟩ ko_TooMany_BadEvent (IsX.cons (PySem.W.mg_of X G aC_Unknown) ⟨ga_Unknown, gg_Unknown, eC_Unknown, hd_Unknown, xg_Unknown, osp, otk, xm_Unknown⟩ ko_Unknown_BadEvent IsX.nil))))))))))⟩
  have Z_BadItem : ∃ S, mg "BadItem" = some (.ref S) ∧ IsX K mg (.ref S) tx_BadItem := ⟨_, PySem.W.mg_of X G aC_BadItem, (IsX.cons (PySem.W.mg_of X G aC_BadEvent) ⟨ga_BadEvent, gg_BadEvent, eC_BadEvent, hd_BadEvent, xg_BadEvent, osp, otk, xm_BadEvent⟩ ko_BadEvent_BadItem (IsX.cons (PySem.W.mg_of X G aC_BadItem) ⟨ga_BadItem, gg_BadItem, eC_BadItem, hd_BadItem, xg_BadItem, osp, otk, xm_BadItem⟩ ko_BadItem_BadItem (IsX.cons (PySem.W.mg_of X G aC_BadName) ⟨ga_BadName, gg_BadName, eC_BadName, hd_BadName, xg_BadName, osp, otk, xm_BadName⟩ ko_BadName_BadItem (IsX.cons (PySem.W.mg_of X G aC_BadNote) ⟨ga_BadNote, gg_BadNote, eC_BadNote, hd_BadNote, xg_BadNote, osp, otk, xm_BadNote⟩ ko_BadNote_BadItem (IsX.cons (PySem.W.mg_of X G aC_BadNumber) ⟨ga_BadNumber, gg_BadNumber, eC_BadNumber, hd_BadNumber, xg_BadNumber, osp, otk, xm_BadNumber⟩ ko_BadNumber_BadItem (IsX.cons (PySem.W.mg_of X G aC_NothingToUndo) ⟨ga_NothingToUndo, gg_NothingToUndo, eC_NothingToUndo, hd_NothingToUndo, xg_NothingToUndo, osp, otk, xm_NothingToUndo⟩ ko_NothingToUndo_BadItem (IsX.cons (PySem.W.mg_of X G aC_Refused) ⟨ga_Refused, gg_Refused, eC_Refused, hd_Refused, xg_Refused, osp, otk, xm_Refused⟩ ko_Refused_BadItem (IsX.cons (PySem.W.mg_of X G aC_Taken) ⟨ga_Taken, gg_Taken, eC_Taken, hd_Taken, xg_Taken, osp, otk, xm_Taken⟩ ko_Taken_BadItem (IsX.cons (PySem.W.mg_of X G aC_TooMany) ⟨ga_TooMany, gg_TooMany, eC_TooMany, hd_TooMany, xg_TooMany, osp, otk, xm_TooMany⟩ ko_TooMany_BadItem (IsX.cons (PySem.W.mg_of X G aC_Unknown) ⟨ga_Unknown, gg_Unknown, eC_Unknown, hd_Unknown, xg_Unknown, osp, otk, xm_Unknown⟩ ko_Unknown_BadItem IsX.nil))))))))))⟩
  have Z_BadName : ∃ S, mg "BadName" = some (.ref S) ∧ IsX K mg (.ref S) tx_BadName := ⟨_, PySem.W.mg_of X G aC_BadName, (IsX.cons (PySem.W.mg_of X G aC_BadEvent) ⟨ga_BadEvent, gg_BadEvent, eC_BadEvent, hd_BadEvent, xg_BadEvent, osp, otk, xm_BadEvent⟩ ko_BadEvent_BadName (IsX.cons (PySem.W.mg_of X G aC_BadItem) ⟨ga_BadItem, gg_BadItem, eC_BadItem, hd_BadItem, xg_BadItem, osp, otk, xm_BadItem⟩ ko_BadItem_BadName (IsX.cons (PySem.W.mg_of X G aC_BadName) ⟨ga_BadName, gg_BadName, eC_BadName, hd_BadName, xg_BadName, osp, otk, xm_BadName⟩ ko_BadName_BadName (IsX.cons (PySem.W.mg_of X G aC_BadNote) ⟨ga_BadNote, gg_BadNote, eC_BadNote, hd_BadNote, xg_BadNote, osp, otk, xm_BadNote⟩ ko_BadNote_BadName (IsX.cons (PySem.W.mg_of X G aC_BadNumber) ⟨ga_BadNumber, gg_BadNumber, eC_BadNumber, hd_BadNumber, xg_BadNumber, osp, otk, xm_BadNumber⟩ ko_BadNumber_BadName (IsX.cons (PySem.W.mg_of X G aC_NothingToUndo) ⟨ga_NothingToUndo, gg_NothingToUndo, eC_NothingToUndo, hd_NothingToUndo, xg_NothingToUndo, osp, otk, xm_NothingToUndo⟩ ko_NothingToUndo_BadName (IsX.cons (PySem.W.mg_of X G aC_Refused) ⟨ga_Refused, gg_Refused, eC_Refused, hd_Refused, xg_Refused, osp, otk, xm_Refused⟩ ko_Refused_BadName (IsX.cons (PySem.W.mg_of X G aC_Taken) ⟨ga_Taken, gg_Taken, eC_Taken, hd_Taken, xg_Taken, osp, otk, xm_Taken⟩ ko_Taken_BadName (IsX.cons (PySem.W.mg_of X G aC_TooMany) ⟨ga_TooMany, gg_TooMany, eC_TooMany, hd_TooMany, xg_TooMany, osp, otk, xm_TooMany⟩ ko_TooMany_BadName (IsX.cons (PySem.W.mg_of X G aC_Unknown) ⟨ga_Unknown, gg_Unknown, eC_Unknown, hd_Unknown, xg_Unknown, osp, otk, xm_Unknown⟩ ko_Unknown_BadName IsX.nil))))))))))⟩
  have Z_BadNote : ∃ S, mg "BadNote" = some (.ref S) ∧ IsX K mg (.ref S) tx_BadNote := ⟨_, PySem.W.mg_of X G aC_BadNote, (IsX.cons (PySem.W.mg_of X G aC_BadEvent) ⟨ga_BadEvent, gg_BadEvent, eC_BadEvent, hd_BadEvent, xg_BadEvent, osp, otk, xm_BadEvent⟩ ko_BadEvent_BadNote (IsX.cons (PySem.W.mg_of X G aC_BadItem) ⟨ga_BadItem, gg_BadItem, eC_BadItem, hd_BadItem, xg_BadItem, osp, otk, xm_BadItem⟩ ko_BadItem_BadNote (IsX.cons (PySem.W.mg_of X G aC_BadName) ⟨ga_BadName, gg_BadName, eC_BadName, hd_BadName, xg_BadName, osp, otk, xm_BadName⟩ ko_BadName_BadNote (IsX.cons (PySem.W.mg_of X G aC_BadNote) ⟨ga_BadNote, gg_BadNote, eC_BadNote, hd_BadNote, xg_BadNote, osp, otk, xm_BadNote⟩ ko_BadNote_BadNote (IsX.cons (PySem.W.mg_of X G aC_BadNumber) ⟨ga_BadNumber, gg_BadNumber, eC_BadNumber, hd_BadNumber, xg_BadNumber, osp, otk, xm_BadNumber⟩ ko_BadNumber_BadNote (IsX.cons (PySem.W.mg_of X G aC_NothingToUndo) ⟨ga_NothingToUndo, gg_NothingToUndo, eC_NothingToUndo, hd_NothingToUndo, xg_NothingToUndo, osp, otk, xm_NothingToUndo⟩ ko_NothingToUndo_BadNote (IsX.cons (PySem.W.mg_of X G aC_Refused) ⟨ga_Refused, gg_Refused, eC_Refused, hd_Refused, xg_Refused, osp, otk, xm_Refused⟩ ko_Refused_BadNote (IsX.cons (PySem.W.mg_of X G aC_Taken) ⟨ga_Taken, gg_Taken, eC_Taken, hd_Taken, xg_Taken, osp, otk, xm_Taken⟩ ko_Taken_BadNote (IsX.cons (PySem.W.mg_of X G aC_TooMany) ⟨ga_TooMany, gg_TooMany, eC_TooMany, hd_TooMany, xg_TooMany, osp, otk, xm_TooMany⟩ ko_TooMany_BadNote (IsX.cons (PySem.W.mg_of X G aC_Unknown) ⟨ga_Unknown, gg_Unknown, eC_Unknown, hd_Unknown, xg_Unknown, osp, otk, xm_Unknown⟩ ko_Unknown_BadNote IsX.nil))))))))))⟩
  have Z_BadNumber : ∃ S, mg "BadNumber" = some (.ref S) ∧ IsX K mg (.ref S) tx_BadNumber := ⟨_, PySem.W.mg_of X G aC_BadNumber, (IsX.cons (PySem.W.mg_of X G aC_BadEvent) ⟨ga_BadEvent, gg_BadEvent, eC_BadEvent, hd_BadEvent, xg_BadEvent, osp, otk, xm_BadEvent⟩ ko_BadEvent_BadNumber (IsX.cons (PySem.W.mg_of X G aC_BadItem) ⟨ga_BadItem, gg_BadItem, eC_BadItem, hd_BadItem, xg_BadItem, osp, otk, xm_BadItem⟩ ko_BadItem_BadNumber (IsX.cons (PySem.W.mg_of X G aC_BadName) ⟨ga_BadName, gg_BadName, eC_BadName, hd_BadName, xg_BadName, osp, otk, xm_BadName⟩ ko_BadName_BadNumber (IsX.cons (PySem.W.mg_of X G aC_BadNote) ⟨ga_BadNote, gg_BadNote, eC_BadNote, hd_BadNote, xg_BadNote, osp, otk, xm_BadNote⟩ ko_BadNote_BadNumber (IsX.cons (PySem.W.mg_of X G aC_BadNumber) ⟨ga_BadNumber, gg_BadNumber, eC_BadNumber, hd_BadNumber, xg_BadNumber, osp, otk, xm_BadNumber⟩ ko_BadNumber_BadNumber (IsX.cons (PySem.W.mg_of X G aC_NothingToUndo) ⟨ga_NothingToUndo, gg_NothingToUndo, eC_NothingToUndo, hd_NothingToUndo, xg_NothingToUndo, osp, otk, xm_NothingToUndo⟩ ko_NothingToUndo_BadNumber (IsX.cons (PySem.W.mg_of X G aC_Refused) ⟨ga_Refused, gg_Refused, eC_Refused, hd_Refused, xg_Refused, osp, otk, xm_Refused⟩ ko_Refused_BadNumber (IsX.cons (PySem.W.mg_of X G aC_Taken) ⟨ga_Taken, gg_Taken, eC_Taken, hd_Taken, xg_Taken, osp, otk, xm_Taken⟩ ko_Taken_BadNumber (IsX.cons (PySem.W.mg_of X G aC_TooMany) ⟨ga_TooMany, gg_TooMany, eC_TooMany, hd_TooMany, xg_TooMany, osp, otk, xm_TooMany⟩ ko_TooMany_BadNumber (IsX.cons (PySem.W.mg_of X G aC_Unknown) ⟨ga_Unknown, gg_Unknown, eC_Unknown, hd_Unknown, xg_Unknown, osp, otk, xm_Unknown⟩ ko_Unknown_BadNumber IsX.nil))))))))))⟩
  have Z_LookupError : IsX K mg (.type "LookupError") tx_LookupError := (IsX.cons (PySem.W.mg_of X G aC_BadEvent) ⟨ga_BadEvent, gg_BadEvent, eC_BadEvent, hd_BadEvent, xg_BadEvent, osp, otk, xm_BadEvent⟩ ko_BadEvent_LookupError (IsX.cons (PySem.W.mg_of X G aC_BadItem) ⟨ga_BadItem, gg_BadItem, eC_BadItem, hd_BadItem, xg_BadItem, osp, otk, xm_BadItem⟩ ko_BadItem_LookupError (IsX.cons (PySem.W.mg_of X G aC_BadName) ⟨ga_BadName, gg_BadName, eC_BadName, hd_BadName, xg_BadName, osp, otk, xm_BadName⟩ ko_BadName_LookupError (IsX.cons (PySem.W.mg_of X G aC_BadNote) ⟨ga_BadNote, gg_BadNote, eC_BadNote, hd_BadNote, xg_BadNote, osp, otk, xm_BadNote⟩ ko_BadNote_LookupError (IsX.cons (PySem.W.mg_of X G aC_BadNumber) ⟨ga_BadNumber, gg_BadNumber, eC_BadNumber, hd_BadNumber, xg_BadNumber, osp, otk, xm_BadNumber⟩ ko_BadNumber_LookupError (IsX.cons (PySem.W.mg_of X G aC_NothingToUndo) ⟨ga_NothingToUndo, gg_NothingToUndo, eC_NothingToUndo, hd_NothingToUndo, xg_NothingToUndo, osp, otk, xm_NothingToUndo⟩ ko_NothingToUndo_LookupError (IsX.cons (PySem.W.mg_of X G aC_Refused) ⟨ga_Refused, gg_Refused, eC_Refused, hd_Refused, xg_Refused, osp, otk, xm_Refused⟩ ko_Refused_LookupError (IsX.cons (PySem.W.mg_of X G aC_Taken) ⟨ga_Taken, gg_Taken, eC_Taken, hd_Taken, xg_Taken, osp, otk, xm_Taken⟩ ko_Taken_LookupError (IsX.cons (PySem.W.mg_of X G aC_TooMany) ⟨ga_TooMany, gg_TooMany, eC_TooMany, hd_TooMany, xg_TooMany, osp, otk, xm_TooMany⟩ ko_TooMany_LookupError (IsX.cons (PySem.W.mg_of X G aC_Unknown) ⟨ga_Unknown, gg_Unknown, eC_Unknown, hd_Unknown, xg_Unknown, osp, otk, xm_Unknown⟩ ko_Unknown_LookupError IsX.nil))))))))))
  have Z_NothingToUndo : ∃ S, mg "NothingToUndo" = some (.ref S) ∧ IsX K mg (.ref S) tx_NothingToUndo := ⟨_, PySem.W.mg_of X G aC_NothingToUndo, (IsX.cons (PySem.W.mg_of X G aC_BadEvent) ⟨ga_BadEvent, gg_BadEvent, eC_BadEvent, hd_BadEvent, xg_BadEvent, osp, otk, xm_BadEvent⟩ ko_BadEvent_NothingToUndo (IsX.cons (PySem.W.mg_of X G aC_BadItem) ⟨ga_BadItem, gg_BadItem, eC_BadItem, hd_BadItem, xg_BadItem, osp, otk, xm_BadItem⟩ ko_BadItem_NothingToUndo (IsX.cons (PySem.W.mg_of X G aC_BadName) ⟨ga_BadName, gg_BadName, eC_BadName, hd_BadName, xg_BadName, osp, otk, xm_BadName⟩ ko_BadName_NothingToUndo (IsX.cons (PySem.W.mg_of X G aC_BadNote) ⟨ga_BadNote, gg_BadNote, eC_BadNote, hd_BadNote, xg_BadNote, osp, otk, xm_BadNote⟩ ko_BadNote_NothingToUndo (IsX.cons (PySem.W.mg_of X G aC_BadNumber) ⟨ga_BadNumber, gg_BadNumber, eC_BadNumber, hd_BadNumber, xg_BadNumber, osp, otk, xm_BadNumber⟩ ko_BadNumber_NothingToUndo (IsX.cons (PySem.W.mg_of X G aC_NothingToUndo) ⟨ga_NothingToUndo, gg_NothingToUndo, eC_NothingToUndo, hd_NothingToUndo, xg_NothingToUndo, osp, otk, xm_NothingToUndo⟩ ko_NothingToUndo_NothingToUndo (IsX.cons (PySem.W.mg_of X G aC_Refused) ⟨ga_Refused, gg_Refused, eC_Refused, hd_Refused, xg_Refused, osp, otk, xm_Refused⟩ ko_Refused_NothingToUndo (IsX.cons (PySem.W.mg_of X G aC_Taken) ⟨ga_Taken, gg_Taken, eC_Taken, hd_Taken, xg_Taken, osp, otk, xm_Taken⟩ ko_Taken_NothingToUndo (IsX.cons (PySem.W.mg_of X G aC_TooMany) ⟨ga_TooMany, gg_TooMany, eC_TooMany, hd_TooMany, xg_TooMany, osp, otk, xm_TooMany⟩ ko_TooMany_NothingToUndo (IsX.cons (PySem.W.mg_of X G aC_Unknown) ⟨ga_Unknown, gg_Unknown, eC_Unknown, hd_Unknown, xg_Unknown, osp, otk, xm_Unknown⟩ ko_Unknown_NothingToUndo IsX.nil))))))))))⟩
  have Z_Refused : ∃ S, mg "Refused" = some (.ref S) ∧ IsX K mg (.ref S) tx_Refused := ⟨_, PySem.W.mg_of X G aC_Refused, (IsX.cons (PySem.W.mg_of X G aC_BadEvent) ⟨ga_BadEvent, gg_BadEvent, eC_BadEvent, hd_BadEvent, xg_BadEvent, osp, otk, xm_BadEvent⟩ ko_BadEvent_Refused (IsX.cons (PySem.W.mg_of X G aC_BadItem) ⟨ga_BadItem, gg_BadItem, eC_BadItem, hd_BadItem, xg_BadItem, osp, otk, xm_BadItem⟩ ko_BadItem_Refused (IsX.cons (PySem.W.mg_of X G aC_BadName) ⟨ga_BadName, gg_BadName, eC_BadName, hd_BadName, xg_BadName, osp, otk, xm_BadName⟩ ko_BadName_Refused (IsX.cons (PySem.W.mg_of X G aC_BadNote) ⟨ga_BadNote, gg_BadNote, eC_BadNote, hd_BadNote, xg_BadNote, osp, otk, xm_BadNote⟩ ko_BadNote_Refused (IsX.cons (PySem.W.mg_of X G aC_BadNumber) ⟨ga_BadNumber, gg_BadNumber, eC_BadNumber, hd_BadNumber, xg_BadNumber, osp, otk, xm_BadNumber⟩ ko_BadNumber_Refused (IsX.cons (PySem.W.mg_of X G aC_NothingToUndo) ⟨ga_NothingToUndo, gg_NothingToUndo, eC_NothingToUndo, hd_NothingToUndo, xg_NothingToUndo, osp, otk, xm_NothingToUndo⟩ ko_NothingToUndo_Refused (IsX.cons (PySem.W.mg_of X G aC_Refused) ⟨ga_Refused, gg_Refused, eC_Refused, hd_Refused, xg_Refused, osp, otk, xm_Refused⟩ ko_Refused_Refused (IsX.cons (PySem.W.mg_of X G aC_Taken) ⟨ga_Taken, gg_Taken, eC_Taken, hd_Taken, xg_Taken, osp, otk, xm_Taken⟩ ko_Taken_Refused (IsX.cons (PySem.W.mg_of X G aC_TooMany) ⟨ga_TooMany, gg_TooMany, eC_TooMany, hd_TooMany, xg_TooMany, osp, otk, xm_TooMany⟩ ko_TooMany_Refused (IsX.cons (PySem.W.mg_of X G aC_Unknown) ⟨ga_Unknown, gg_Unknown, eC_Unknown, hd_Unknown, xg_Unknown, osp, otk, xm_Unknown⟩ ko_Unknown_Refused IsX.nil))))))))))⟩
  have Z_RuntimeError : IsX K mg (.type "RuntimeError") tx_RuntimeError := (IsX.cons (PySem.W.mg_of X G aC_BadEvent) ⟨ga_BadEvent, gg_BadEvent, eC_BadEvent, hd_BadEvent, xg_BadEvent, osp, otk, xm_BadEvent⟩ ko_BadEvent_RuntimeError (IsX.cons (PySem.W.mg_of X G aC_BadItem) ⟨ga_BadItem, gg_BadItem, eC_BadItem, hd_BadItem, xg_BadItem, osp, otk, xm_BadItem⟩ ko_BadItem_RuntimeError (IsX.cons (PySem.W.mg_of X G aC_BadName) ⟨ga_BadName, gg_BadName, eC_BadName, hd_BadName, xg_BadName, osp, otk, xm_BadName⟩ ko_BadName_RuntimeError (IsX.cons (PySem.W.mg_of X G aC_BadNote) ⟨ga_BadNote, gg_BadNote, eC_BadNote, hd_BadNote, xg_BadNote, osp, otk, xm_BadNote⟩ ko_BadNote_RuntimeError (IsX.cons (PySem.W.mg_of X G aC_BadNumber) ⟨ga_BadNumber, gg_BadNumber, eC_BadNumber, hd_BadNumber, xg_BadNumber, osp, otk, xm_BadNumber⟩ ko_BadNumber_RuntimeError (IsX.cons (PySem.W.mg_of X G aC_NothingToUndo) ⟨ga_NothingToUndo, gg_NothingToUndo, eC_NothingToUndo, hd_NothingToUndo, xg_NothingToUndo, osp, otk, xm_NothingToUndo⟩ ko_NothingToUndo_RuntimeError (IsX.cons (PySem.W.mg_of X G aC_Refused) ⟨ga_Refused, gg_Refused, eC_Refused, hd_Refused, xg_Refused, osp, otk, xm_Refused⟩ ko_Refused_RuntimeError (IsX.cons (PySem.W.mg_of X G aC_Taken) ⟨ga_Taken, gg_Taken, eC_Taken, hd_Taken, xg_Taken, osp, otk, xm_Taken⟩ ko_Taken_RuntimeError (IsX.cons (PySem.W.mg_of X G aC_TooMany) ⟨ga_TooMany, gg_TooMany, eC_TooMany, hd_TooMany, xg_TooMany, osp, otk, xm_TooMany⟩ ko_TooMany_RuntimeError (IsX.cons (PySem.W.mg_of X G aC_Unknown) ⟨ga_Unknown, gg_Unknown, eC_Unknown, hd_Unknown, xg_Unknown, osp, otk, xm_Unknown⟩ ko_Unknown_RuntimeError IsX.nil))))))))))
  have Z_Taken : ∃ S, mg "Taken" = some (.ref S) ∧ IsX K mg (.ref S) tx_Taken := ⟨_, PySem.W.mg_of X G aC_Taken, (IsX.cons (PySem.W.mg_of X G aC_BadEvent) ⟨ga_BadEvent, gg_BadEvent, eC_BadEvent, hd_BadEvent, xg_BadEvent, osp, otk, xm_BadEvent⟩ ko_BadEvent_Taken (IsX.cons (PySem.W.mg_of X G aC_BadItem) ⟨ga_BadItem, gg_BadItem, eC_BadItem, hd_BadItem, xg_BadItem, osp, otk, xm_BadItem⟩ ko_BadItem_Taken (IsX.cons (PySem.W.mg_of X G aC_BadName) ⟨ga_BadName, gg_BadName, eC_BadName, hd_BadName, xg_BadName, osp, otk, xm_BadName⟩ ko_BadName_Taken (IsX.cons (PySem.W.mg_of X G aC_BadNote) ⟨ga_BadNote, gg_BadNote, eC_BadNote, hd_BadNote, xg_BadNote, osp, otk, xm_BadNote⟩ ko_BadNote_Taken (IsX.cons (PySem.W.mg_of X G aC_BadNumber) ⟨ga_BadNumber, gg_BadNumber, eC_BadNumber, hd_BadNumber, xg_BadNumber, osp, otk, xm_BadNumber⟩ ko_BadNumber_Taken (IsX.cons (PySem.W.mg_of X G aC_NothingToUndo) ⟨ga_NothingToUndo, gg_NothingToUndo, eC_NothingToUndo, hd_NothingToUndo, xg_NothingToUndo, osp, otk, xm_NothingToUndo⟩ ko_NothingToUndo_Taken (IsX.cons (PySem.W.mg_of X G aC_Refused) ⟨ga_Refused, gg_Refused, eC_Refused, hd_Refused, xg_Refused, osp, otk, xm_Refused⟩ ko_Refused_Taken (IsX.cons (PySem.W.mg_of X G aC_Taken) ⟨ga_Taken, gg_Taken, eC_Taken, hd_Taken, xg_Taken, osp, otk, xm_Taken⟩ ko_Taken_Taken (IsX.cons (PySem.W.mg_of X G aC_TooMany) ⟨ga_TooMany, gg_TooMany, eC_TooMany, hd_TooMany, xg_TooMany, osp, otk, xm_TooMany⟩ ko_TooMany_Taken (IsX.cons (PySem.W.mg_of X G aC_Unknown) ⟨ga_Unknown, gg_Unknown, eC_Unknown, hd_Unknown, xg_Unknown, osp, otk, xm_Unknown⟩ ko_Unknown_Taken IsX.nil))))))))))⟩
  have Z_TooMany : ∃ S, mg "TooMany" = some (.ref S) ∧ IsX K mg (.ref S) tx_TooMany := ⟨_, PySem.W.mg_of X G aC_TooMany, (IsX.cons (PySem.W.mg_of X G aC_BadEvent) ⟨ga_BadEvent, gg_BadEvent, eC_BadEvent, hd_BadEvent, xg_BadEvent, osp, otk, xm_BadEvent⟩ ko_BadEvent_TooMany (IsX.cons (PySem.W.mg_of X G aC_BadItem) ⟨ga_BadItem, gg_BadItem, eC_BadItem, hd_BadItem, xg_BadItem, osp, otk, xm_BadItem⟩ ko_BadItem_TooMany (IsX.cons (PySem.W.mg_of X G aC_BadName) ⟨ga_BadName, gg_BadName, eC_BadName, hd_BadName, xg_BadName, osp, otk, xm_BadName⟩ ko_BadName_TooMany (IsX.cons (PySem.W.mg_of X G aC_BadNote) ⟨ga_BadNote, gg_BadNote, eC_BadNote, hd_BadNote, xg_BadNote, osp, otk, xm_BadNote⟩ ko_BadNote_TooMany (IsX.cons (PySem.W.mg_of X G aC_BadNumber) ⟨ga_BadNumber, gg_BadNumber, eC_BadNumber, hd_BadNumber, xg_BadNumber, osp, otk, xm_BadNumber⟩ ko_BadNumber_TooMany (IsX.cons (PySem.W.mg_of X G aC_NothingToUndo) ⟨ga_NothingToUndo, gg_NothingToUndo, eC_NothingToUndo, hd_NothingToUndo, xg_NothingToUndo, osp, otk, xm_NothingToUndo⟩ ko_NothingToUndo_TooMany (IsX.cons (PySem.W.mg_of X G aC_Refused) ⟨ga_Refused, gg_Refused, eC_Refused, hd_Refused, xg_Refused, osp, otk, xm_Refused⟩ ko_Refused_TooMany (IsX.cons (PySem.W.mg_of X G aC_Taken) ⟨ga_Taken, gg_Taken, eC_Taken, hd_Taken, xg_Taken, osp, otk, xm_Taken⟩ ko_Taken_TooMany (IsX.cons (PySem.W.mg_of X G aC_TooMany) ⟨ga_TooMany, gg_TooMany, eC_TooMany, hd_TooMany, xg_TooMany, osp, otk, xm_TooMany⟩ ko_TooMany_TooMany (IsX.cons (PySem.W.mg_of X G aC_Unknown) ⟨ga_Unknown, gg_Unknown, eC_Unknown, hd_Unknown, xg_Unknown, osp, otk, xm_Unknown⟩ ko_Unknown_TooMany IsX.nil))))))))))⟩
  have Z_Unknown : ∃ S, mg "Unknown" = some (.ref S) ∧ IsX K mg (.ref S) tx_Unknown := ⟨_, PySem.W.mg_of X G aC_Unknown, (IsX.cons (PySem.W.mg_of X G aC_BadEvent) ⟨ga_BadEvent, gg_BadEvent, eC_BadEvent, hd_BadEvent, xg_BadEvent, osp, otk, xm_BadEvent⟩ ko_BadEvent_Unknown (IsX.cons (PySem.W.mg_of X G aC_BadItem) ⟨ga_BadItem, gg_BadItem, eC_BadItem, hd_BadItem, xg_BadItem, osp, otk, xm_BadItem⟩ ko_BadItem_Unknown (IsX.cons (PySem.W.mg_of X G aC_BadName) ⟨ga_BadName, gg_BadName, eC_BadName, hd_BadName, xg_BadName, osp, otk, xm_BadName⟩ ko_BadName_Unknown (IsX.cons (PySem.W.mg_of X G aC_BadNote) ⟨ga_BadNote, gg_BadNote, eC_BadNote, hd_BadNote, xg_BadNote, osp, otk, xm_BadNote⟩ ko_BadNote_Unknown (IsX.cons (PySem.W.mg_of X G aC_BadNumber) ⟨ga_BadNumber, gg_BadNumber, eC_BadNumber, hd_BadNumber, xg_BadNumber, osp, otk, xm_BadNumber⟩ ko_BadNumber_Unknown (IsX.cons (PySem.W.mg_of X G aC_NothingToUndo) ⟨ga_NothingToUndo, gg_NothingToUndo, eC_NothingToUndo, hd_NothingToUndo, xg_NothingToUndo, osp, otk, xm_NothingToUndo⟩ ko_NothingToUndo_Unknown (IsX.cons (PySem.W.mg_of X G aC_Refused) ⟨ga_Refused, gg_Refused, eC_Refused, hd_Refused, xg_Refused, osp, otk, xm_Refused⟩ ko_Refused_Unknown (IsX.cons (PySem.W.mg_of X G aC_Taken) ⟨ga_Taken, gg_Taken, eC_Taken, hd_Taken, xg_Taken, osp, otk, xm_Taken⟩ ko_Taken_Unknown (IsX.cons (PySem.W.mg_of X G aC_TooMany) ⟨ga_TooMany, gg_TooMany, eC_TooMany, hd_TooMany, xg_TooMany, osp, otk, xm_TooMany⟩ ko_TooMany_Unknown (IsX.cons (PySem.W.mg_of X G aC_Unknown) ⟨ga_Unknown, gg_Unknown, eC_Unknown, hd_Unknown, xg_Unknown, osp, otk, xm_Unknown⟩ ko_Unknown_Unknown IsX.nil))))))))))⟩
  have Z_ValueError : IsX K mg (.type "ValueError") tx_ValueError := (IsX.cons (PySem.W.mg_of X G aC_BadEvent) ⟨ga_BadEvent, gg_BadEvent, eC_BadEvent, hd_BadEvent, xg_BadEvent, osp, otk, xm_BadEvent⟩ ko_BadEvent_ValueError (IsX.cons (PySem.W.mg_of X G aC_BadItem) ⟨ga_BadItem, gg_BadItem, eC_BadItem, hd_BadItem, xg_BadItem, osp, otk, xm_BadItem⟩ ko_BadItem_ValueError (IsX.cons (PySem.W.mg_of X G aC_BadName) ⟨ga_BadName, gg_BadName, eC_BadName, hd_BadName, xg_BadName, osp, otk, xm_BadName⟩ ko_BadName_ValueError (IsX.cons (PySem.W.mg_of X G aC_BadNote) ⟨ga_BadNote, gg_BadNote, eC_BadNote, hd_BadNote, xg_BadNote, osp, otk, xm_BadNote⟩ ko_BadNote_ValueError (IsX.cons (PySem.W.mg_of X G aC_BadNumber) ⟨ga_BadNumber, gg_BadNumber, eC_BadNumber, hd_BadNumber, xg_BadNumber, osp, otk, xm_BadNumber⟩ ko_BadNumber_ValueError (IsX.cons (PySem.W.mg_of X G aC_NothingToUndo) ⟨ga_NothingToUndo, gg_NothingToUndo, eC_NothingToUndo, hd_NothingToUndo, xg_NothingToUndo, osp, otk, xm_NothingToUndo⟩ ko_NothingToUndo_ValueError (IsX.cons (PySem.W.mg_of X G aC_Refused) ⟨ga_Refused, gg_Refused, eC_Refused, hd_Refused, xg_Refused, osp, otk, xm_Refused⟩ ko_Refused_ValueError (IsX.cons (PySem.W.mg_of X G aC_Taken) ⟨ga_Taken, gg_Taken, eC_Taken, hd_Taken, xg_Taken, osp, otk, xm_Taken⟩ ko_Taken_ValueError (IsX.cons (PySem.W.mg_of X G aC_TooMany) ⟨ga_TooMany, gg_TooMany, eC_TooMany, hd_TooMany, xg_TooMany, osp, otk, xm_TooMany⟩ ko_TooMany_ValueError (IsX.cons (PySem.W.mg_of X G aC_Unknown) ⟨ga_Unknown, gg_Unknown, eC_Unknown, hd_Unknown, xg_Unknown, osp, otk, xm_Unknown⟩ ko_Unknown_ValueError IsX.nil))))))))))
  have Y_HeldError : ∃ S, mg "HeldError" = some (.ref S) ∧ CatOk ⟨K, mg⟩ (.ref S) cat_HeldError := ⟨C_HeldError, PySem.W.mg_of X G aC_HeldError, (CatOk.cons (PySem.W.mg_of X G aC_BadEvent) (exm_of eC_HeldError ic_HeldError ty_HeldError sub_BadEvent_HeldError) (CatOk.cons (PySem.W.mg_of X G aC_BadItem) (exm_of eC_HeldError ic_HeldError ty_HeldError sub_BadItem_HeldError) (CatOk.cons (PySem.W.mg_of X G aC_BadName) (exm_of eC_HeldError ic_HeldError ty_HeldError sub_BadName_HeldError) (CatOk.cons (PySem.W.mg_of X G aC_BadNote) (exm_of eC_HeldError ic_HeldError ty_HeldError sub_BadNote_HeldError) (CatOk.cons (PySem.W.mg_of X G aC_BadNumber) (exm_of eC_HeldError ic_HeldError ty_HeldError sub_BadNumber_HeldError) (CatOk.cons (PySem.W.mg_of X G aC_NothingToUndo) (exm_of eC_HeldError ic_HeldError ty_HeldError sub_NothingToUndo_HeldError) (CatOk.cons (PySem.W.mg_of X G aC_Refused) (exm_of eC_HeldError ic_HeldError ty_HeldError sub_Refused_HeldError) (CatOk.cons (PySem.W.mg_of X G aC_Taken) (exm_of eC_HeldError ic_HeldError ty_HeldError sub_Taken_HeldError) (CatOk.cons (PySem.W.mg_of X G aC_TooMany) (exm_of eC_HeldError ic_HeldError ty_HeldError sub_TooMany_HeldError) (CatOk.cons (PySem.W.mg_of X G aC_Unknown) (exm_of eC_HeldError ic_HeldError ty_HeldError sub_Unknown_HeldError) CatOk.nil))))))))))⟩
  have K_index : ∀ c, kn_index c = true → ∃ C fI fs, DLX.Cl PySem.Challenge.pw_unitsheld_k09_errors K mg c C fI fs ∧ ("index" : Str) ∈ fs := by
    intro c h
    have h := of_decide_eq_true h
    rcases List.mem_cons.mp h with rfl | h
    · exact ⟨_, _, _, T_BadItem, by decide⟩
    cases h
  have K_limit : ∀ c, kn_limit c = true → ∃ C fI fs, DLX.Cl PySem.Challenge.pw_unitsheld_k09_errors K mg c C fI fs ∧ ("limit" : Str) ∈ fs := by
    intro c h
    have h := of_decide_eq_true h
    rcases List.mem_cons.mp h with rfl | h
    · exact ⟨_, _, _, T_TooMany, by decide⟩
    cases h
  have K_line : ∀ c, kn_line c = true → ∃ C fI fs, DLX.Cl PySem.Challenge.pw_unitsheld_k09_errors K mg c C fI fs ∧ ("line" : Str) ∈ fs := by
    intro c h
    have h := of_decide_eq_true h
    rcases List.mem_cons.mp h with rfl | h
    · exact ⟨_, _, _, T_BadNote, by decide⟩
    cases h
  have K_names : ∀ c, kn_names c = true → ∃ C fI fs, DLX.Cl PySem.Challenge.pw_unitsheld_k09_errors K mg c C fI fs ∧ ("names" : Str) ∈ fs := by
    intro c h
    have h := of_decide_eq_true h
    rcases List.mem_cons.mp h with rfl | h
    · exact ⟨_, _, _, T_Refused, by decide⟩
    cases h
  have K_reason : ∀ c, kn_reason c = true → ∃ C fI fs, DLX.Cl PySem.Challenge.pw_unitsheld_k09_errors K mg c C fI fs ∧ ("reason" : Str) ∈ fs := by
    intro c h
    have h := of_decide_eq_true h
    rcases List.mem_cons.mp h with rfl | h
    · exact ⟨_, _, _, T_Refused, by decide⟩
    cases h
  have K_value : ∀ c, kn_value c = true → ∃ C fI fs, DLX.Cl PySem.Challenge.pw_unitsheld_k09_errors K mg c C fI fs ∧ ("value" : Str) ∈ fs := by
    intro c h
    have h := of_decide_eq_true h
    rcases List.mem_cons.mp h with rfl | h
    · exact ⟨_, _, _, T_BadEvent, by decide⟩
    rcases List.mem_cons.mp h with rfl | h
    · exact ⟨_, _, _, T_BadName, by decide⟩
    rcases List.mem_cons.mp h with rfl | h
    · exact ⟨_, _, _, T_BadNumber, by decide⟩
    rcases List.mem_cons.mp h with rfl | h
    · exact ⟨_, _, _, T_Taken, by decide⟩
    rcases List.mem_cons.mp h with rfl | h
    · exact ⟨_, _, _, T_Unknown, by decide⟩
    cases h
  have T : Tx PySem.Challenge.pw_unitsheld_k09_errors w K mg := {
    n_LookupError := PySem.W.mg_none_of X G z_LookupError,
    n_RuntimeError := PySem.W.mg_none_of X G z_RuntimeError,
    n_ValueError := PySem.W.mg_none_of X G z_ValueError,
    n_bool := PySem.W.mg_none_of X G z_bool,
    n_int := PySem.W.mg_none_of X G z_int,
    n_isinstance := PySem.W.mg_none_of X G z_isinstance,
    n_len := PySem.W.mg_none_of X G z_len,
    n_list := PySem.W.mg_none_of X G z_list,
    n_range := PySem.W.mg_none_of X G z_range,
    n_str := PySem.W.mg_none_of X G z_str,
    n_tuple := PySem.W.mg_none_of X G z_tuple,
    x_BadEvent := X_BadEvent,
    x_BadItem := X_BadItem,
    x_BadName := X_BadName,
    x_BadNote := X_BadNote,
    x_BadNumber := X_BadNumber,
    y_NothingToUndo := X_NothingToUndo,
    x_Refused := X_Refused,
    x_Taken := X_Taken,
    x_TooMany := X_TooMany,
    x_Unknown := X_Unknown,
    w_BadEvent_value := W_BadEvent_value,
    w_BadItem_index := W_BadItem_index,
    w_BadName_value := W_BadName_value,
    w_BadNote_line := W_BadNote_line,
    w_BadNumber_value := W_BadNumber_value,
    w_Refused_names_reason := W_Refused_names_reason,
    w_Refused_reason_names := W_Refused_reason_names,
    w_Taken_value := W_Taken_value,
    w_TooMany_limit := W_TooMany_limit,
    w_Unknown_value := W_Unknown_value,
    s_BadEvent := Z_BadEvent,
    s_BadItem := Z_BadItem,
    s_BadName := Z_BadName,
    s_BadNote := Z_BadNote,
    s_BadNumber := Z_BadNumber,
    s_LookupError := Z_LookupError,
    s_NothingToUndo := Z_NothingToUndo,
    s_Refused := Z_Refused,
    s_RuntimeError := Z_RuntimeError,
    s_Taken := Z_Taken,
    s_TooMany := Z_TooMany,
    s_Unknown := Z_Unknown,
    s_ValueError := Z_ValueError,
    t_HeldError := Y_HeldError,
    k_index := K_index,
    k_limit := K_limit,
    k_line := K_line,
    k_names := K_names,
    k_reason := K_reason,
    k_value := K_value,
    a__law_alike := fnAt_mk X G a0 l0 c0 k0 fun _ _ _ _ _ _ us hl => match us, hl with | [_, _], _ => rfl,
    a__law_taken := fnAt_mk X G a1 l1 c1 k1 fun _ _ _ _ _ _ us hl => match us, hl with | [_, _], _ => rfl,
    a__law_pick := fnAt_mk X G a2 l2 c2 k2 fun _ _ _ _ _ _ us hl => match us, hl with | [_, _], _ => rfl,
    a__law_raised := fnAt_mk X G a3 l3 c3 k3 fun _ _ _ _ _ _ us hl => match us, hl with | [_, _, _], _ => rfl,
    a_law := fnAt_mk X G a4 l4 c4 k4 fun _ _ _ _ _ _ us hl => match us, hl with | [_], _ => rfl }
  exact ⟨_, R_law, fun s v => .of_eq rfl, law_true, fun b _ _ => o_law T (fun_mk (st := s_law) l4 c4 k4)⟩
end K09
open PySem PySem.W PyProof.Rows
set_option maxRecDepth 100000 in
set_option maxHeartbeats 0 in
theorem PySem.Challenge.cw_unitsheld_k09_errors_holds : PySem.Challenge.rw_unitsheld_k09_errors.Holds := by
  w_on; o_law; k_head; (case hw => w_witness2)
  k_fill
  refine DL.walkG (l := PySem.Challenge.rw_unitsheld_k09_errors) (k := 25) rfl rfl ⟨rfl, by decide, by decide⟩ (fun w h Y => PySem.W.kIn_of Y) ?F
  case F =>
    intro w mg fa h KX G hmg
    refine' K09.all_mk KX G hmg ?a0 ?l0 ?c0 ?k0 ?a1 ?l1 ?c1 ?k1 ?a2 ?l2 ?c2 ?k2 ?a3 ?l3 ?c3 ?k3 ?a4 ?l4 ?c4 ?k4 ?z_LookupError ?z_RuntimeError ?z_ValueError ?z_bool ?z_int ?z_isinstance ?z_len ?z_list ?z_range ?z_str ?z_tuple ?op ?ms ?tops ?osp ?otk ?aC_BadEvent ?xL_BadEvent ?rv_BadEvent ?sa_BadEvent ?ga_BadEvent ?gg_BadEvent ?no_BadEvent_value ?iC_BadEvent ?tC_BadEvent ?l_BadEvent ?c_BadEvent ?d_BadEvent ?v_BadEvent ?fi_BadEvent ?ce_BadEvent ?kC_BadEvent ?eC_BadEvent ?vC_BadEvent ?ty_BadEvent ?hd_BadEvent ?se_BadEvent ?su_BadEvent ?xg_BadEvent ?xm_BadEvent ?aC_BadItem ?xL_BadItem ?rv_BadItem ?sa_BadItem ?ga_BadItem ?gg_BadItem ?no_BadItem_index ?iC_BadItem ?tC_BadItem ?l_BadItem ?c_BadItem ?d_BadItem ?v_BadItem ?fi_BadItem ?ce_BadItem ?kC_BadItem ?eC_BadItem ?vC_BadItem ?ty_BadItem ?hd_BadItem ?se_BadItem ?su_BadItem ?xg_BadItem ?xm_BadItem ?aC_BadName ?xL_BadName ?rv_BadName ?sa_BadName ?ga_BadName ?gg_BadName ?no_BadName_value ?iC_BadName ?tC_BadName ?l_BadName ?c_BadName ?d_BadName ?v_BadName ?fi_BadName ?ce_BadName ?kC_BadName ?eC_BadName ?vC_BadName ?ty_BadName ?hd_BadName ?se_BadName ?su_BadName ?xg_BadName ?xm_BadName ?aC_BadNote ?xL_BadNote ?rv_BadNote ?sa_BadNote ?ga_BadNote ?gg_BadNote ?no_BadNote_line ?iC_BadNote ?tC_BadNote ?l_BadNote ?c_BadNote ?d_BadNote ?v_BadNote ?fi_BadNote ?ce_BadNote ?kC_BadNote ?eC_BadNote ?vC_BadNote ?ty_BadNote ?hd_BadNote ?se_BadNote ?su_BadNote ?xg_BadNote ?xm_BadNote ?aC_BadNumber ?xL_BadNumber ?rv_BadNumber ?sa_BadNumber ?ga_BadNumber ?gg_BadNumber ?no_BadNumber_value ?iC_BadNumber ?tC_BadNumber ?l_BadNumber ?c_BadNumber ?d_BadNumber ?v_BadNumber ?fi_BadNumber ?ce_BadNumber ?kC_BadNumber ?eC_BadNumber ?vC_BadNumber ?ty_BadNumber ?hd_BadNumber ?se_BadNumber ?su_BadNumber ?xg_BadNumber ?xm_BadNumber ?aC_NothingToUndo ?xi_NothingToUndo ?kC_NothingToUndo ?eC_NothingToUndo ?ty_NothingToUndo ?ga_NothingToUndo ?gg_NothingToUndo ?hd_NothingToUndo ?xg_NothingToUndo ?xm_NothingToUndo ?aC_Refused ?xL_Refused ?rv_Refused ?sa_Refused ?ga_Refused ?gg_Refused ?no_Refused_reason ?no_Refused_names ?iC_Refused ?tC_Refused ?l_Refused ?c_Refused ?d_Refused ?v_Refused ?fi_Refused ?ce_Refused ?kC_Refused ?eC_Refused ?vC_Refused ?ty_Refused ?hd_Refused ?se_Refused ?su_Refused ?xg_Refused ?xm_Refused ?aC_Taken ?xL_Taken ?rv_Taken ?sa_Taken ?ga_Taken ?gg_Taken ?no_Taken_value ?iC_Taken ?tC_Taken ?l_Taken ?c_Taken ?d_Taken ?v_Taken ?fi_Taken ?ce_Taken ?kC_Taken ?eC_Taken ?vC_Taken ?ty_Taken ?hd_Taken ?se_Taken ?su_Taken ?xg_Taken ?xm_Taken ?aC_TooMany ?xL_TooMany ?rv_TooMany ?sa_TooMany ?ga_TooMany ?gg_TooMany ?no_TooMany_limit ?iC_TooMany ?tC_TooMany ?l_TooMany ?c_TooMany ?d_TooMany ?v_TooMany ?fi_TooMany ?ce_TooMany ?kC_TooMany ?eC_TooMany ?vC_TooMany ?ty_TooMany ?hd_TooMany ?se_TooMany ?su_TooMany ?xg_TooMany ?xm_TooMany ?aC_Unknown ?xL_Unknown ?rv_Unknown ?sa_Unknown ?ga_Unknown ?gg_Unknown ?no_Unknown_value ?iC_Unknown ?tC_Unknown ?l_Unknown ?c_Unknown ?d_Unknown ?v_Unknown ?fi_Unknown ?ce_Unknown ?kC_Unknown ?eC_Unknown ?vC_Unknown ?ty_Unknown ?hd_Unknown ?se_Unknown ?su_Unknown ?xg_Unknown ?xm_Unknown ?ko_Unknown_BadEvent ?ko_TooMany_BadEvent ?ko_Taken_BadEvent ?ko_Refused_BadEvent ?ko_NothingToUndo_BadEvent ?ko_BadNumber_BadEvent ?ko_BadNote_BadEvent ?ko_BadName_BadEvent ?ko_BadItem_BadEvent ?ko_BadEvent_BadEvent ?ko_Unknown_BadItem ?ko_TooMany_BadItem ?ko_Taken_BadItem ?ko_Refused_BadItem ?ko_NothingToUndo_BadItem ?ko_BadNumber_BadItem ?ko_BadNote_BadItem ?ko_BadName_BadItem ?ko_BadItem_BadItem ?ko_BadEvent_BadItem ?ko_Unknown_BadName ?ko_TooMany_BadName ?ko_Taken_BadName ?ko_Refused_BadName ?ko_NothingToUndo_BadName ?ko_BadNumber_BadName ?ko_BadNote_BadName ?ko_BadName_BadName ?ko_BadItem_BadName ?ko_BadEvent_BadName ?ko_Unknown_BadNote ?ko_TooMany_BadNote ?ko_Taken_BadNote ?ko_Refused_BadNote ?ko_NothingToUndo_BadNote ?ko_BadNumber_BadNote ?ko_BadNote_BadNote ?ko_BadName_BadNote ?ko_BadItem_BadNote ?ko_BadEvent_BadNote ?ko_Unknown_BadNumber ?ko_TooMany_BadNumber ?ko_Taken_BadNumber ?ko_Refused_BadNumber ?ko_NothingToUndo_BadNumber ?ko_BadNumber_BadNumber ?ko_BadNote_BadNumber ?ko_BadName_BadNumber ?ko_BadItem_BadNumber ?ko_BadEvent_BadNumber ?ko_Unknown_LookupError ?ko_TooMany_LookupError ?ko_Taken_LookupError ?ko_Refused_LookupError ?ko_NothingToUndo_LookupError ?ko_BadNumber_LookupError ?ko_BadNote_LookupError ?ko_BadName_LookupError ?ko_BadItem_LookupError ?ko_BadEvent_LookupError ?ko_Unknown_NothingToUndo ?ko_TooMany_NothingToUndo ?ko_Taken_NothingToUndo ?ko_Refused_NothingToUndo ?ko_NothingToUndo_NothingToUndo ?ko_BadNumber_NothingToUndo ?ko_BadNote_NothingToUndo ?ko_BadName_NothingToUndo ?ko_BadItem_NothingToUndo ?ko_BadEvent_NothingToUndo ?ko_Unknown_Refused ?ko_TooMany_Refused ?ko_Taken_Refused ?ko_Refused_Refused ?ko_NothingToUndo_Refused ?ko_BadNumber_Refused ?ko_BadNote_Refused ?ko_BadName_Refused ?ko_BadItem_Refused ?ko_BadEvent_Refused ?ko_Unknown_RuntimeError ?ko_TooMany_RuntimeError ?ko_Taken_RuntimeError ?ko_Refused_RuntimeError ?ko_NothingToUndo_RuntimeError ?ko_BadNumber_RuntimeError ?ko_BadNote_RuntimeError ?ko_BadName_RuntimeError ?ko_BadItem_RuntimeError ?ko_BadEvent_RuntimeError ?ko_Unknown_Taken ?ko_TooMany_Taken ?ko_Taken_Taken ?ko_Refused_Taken ?ko_NothingToUndo_Taken ?ko_BadNumber_Taken ?ko_BadNote_Taken ?ko_BadName_Taken ?ko_BadItem_Taken ?ko_BadEvent_Taken ?ko_Unknown_TooMany ?ko_TooMany_TooMany ?ko_Taken_TooMany ?ko_Refused_TooMany ?ko_NothingToUndo_TooMany ?ko_BadNumber_TooMany ?ko_BadNote_TooMany ?ko_BadName_TooMany ?ko_BadItem_TooMany ?ko_BadEvent_TooMany ?ko_Unknown_Unknown ?ko_TooMany_Unknown ?ko_Taken_Unknown ?ko_Refused_Unknown ?ko_NothingToUndo_Unknown ?ko_BadNumber_Unknown ?ko_BadNote_Unknown ?ko_BadName_Unknown ?ko_BadItem_Unknown ?ko_BadEvent_Unknown ?ko_Unknown_ValueError ?ko_TooMany_ValueError ?ko_Taken_ValueError ?ko_Refused_ValueError ?ko_NothingToUndo_ValueError ?ko_BadNumber_ValueError ?ko_BadNote_ValueError ?ko_BadName_ValueError ?ko_BadItem_ValueError ?ko_BadEvent_ValueError ?aC_HeldError ?eC_HeldError ?ty_HeldError ?ic_HeldError ?sub_Unknown_HeldError ?sub_TooMany_HeldError ?sub_Taken_HeldError ?sub_Refused_HeldError ?sub_NothingToUndo_HeldError ?sub_BadNumber_HeldError ?sub_BadNote_HeldError ?sub_BadName_HeldError ?sub_BadItem_HeldError ?sub_BadEvent_HeldError
    (case a0 => k_is)
    (case l0 => k_is)
    (case c0 => k_is)
    (case k0 => k_is)
    (case a1 => k_is)
    (case l1 => k_is)
    (case c1 => k_is)
    (case k1 => k_is)
    (case a2 => k_is)
    (case l2 => k_is)
    (case c2 => k_is)
    (case k2 => k_is)
    (case a3 => k_is)
    (case l3 => k_is)
    (case c3 => k_is)
    (case k3 => k_is)
    (case a4 => k_is)
    (case l4 => k_is)
    (case c4 => k_is)
    (case k4 => k_is)
    (case z_LookupError => k_is)
    (case z_RuntimeError => k_is)
    (case z_ValueError => k_is)
    (case z_bool => k_is)
    (case z_int => k_is)
    (case z_isinstance => k_is)
    (case z_len => k_is)
    (case z_list => k_is)
    (case z_range => k_is)
    (case z_str => k_is)
    (case z_tuple => k_is)
    (case op => k_is)
    (case ms => k_is)
    (case tops => first | rfl | decide +kernel)
    (case osp => k_is)
    (case otk => k_is)
    (case aC_BadEvent => k_is)
    (case xL_BadEvent => k_is)
    (case rv_BadEvent => decide +kernel)
    (case sa_BadEvent => k_is)
    (case ga_BadEvent => k_is)
    (case gg_BadEvent => k_is)
    (case no_BadEvent_value => k_is)
    (case iC_BadEvent => k_is)
    (case tC_BadEvent => k_is)
    (case l_BadEvent => k_is)
    (case c_BadEvent => k_is)
    (case d_BadEvent => k_is)
    (case v_BadEvent => rfl)
    (case fi_BadEvent => first | rfl | decide +kernel)
    (case ce_BadEvent => k_is)
    (case kC_BadEvent => k_is)
    (case eC_BadEvent => k_is)
    (case vC_BadEvent => k_is)
    (case ty_BadEvent => k_is)
    (case hd_BadEvent => k_is)
    (case se_BadEvent => first | k_is | kernel_rfl)
    (case su_BadEvent => ks_is)
    (case xg_BadEvent => k_is)
    (case xm_BadEvent => k_is)
    (case aC_BadItem => k_is)
    (case xL_BadItem => k_is)
    (case rv_BadItem => decide +kernel)
    (case sa_BadItem => k_is)
    (case ga_BadItem => k_is)
    (case gg_BadItem => k_is)
    (case no_BadItem_index => k_is)
    (case iC_BadItem => k_is)
    (case tC_BadItem => k_is)
    (case l_BadItem => k_is)
    (case c_BadItem => k_is)
    (case d_BadItem => k_is)
    (case v_BadItem => rfl)
    (case fi_BadItem => first | rfl | decide +kernel)
    (case ce_BadItem => k_is)
    (case kC_BadItem => k_is)
    (case eC_BadItem => k_is)
    (case vC_BadItem => k_is)
    (case ty_BadItem => k_is)
    (case hd_BadItem => k_is)
    (case se_BadItem => first | k_is | kernel_rfl)
    (case su_BadItem => ks_is)
    (case xg_BadItem => k_is)
    (case xm_BadItem => k_is)
    (case aC_BadName => k_is)
    (case xL_BadName => k_is)
    (case rv_BadName => decide +kernel)
    (case sa_BadName => k_is)
    (case ga_BadName => k_is)
    (case gg_BadName => k_is)
    (case no_BadName_value => k_is)
    (case iC_BadName => k_is)
    (case tC_BadName => k_is)
    (case l_BadName => k_is)
    (case c_BadName => k_is)
    (case d_BadName => k_is)
    (case v_BadName => rfl)
    (case fi_BadName => first | rfl | decide +kernel)
    (case ce_BadName => k_is)
    (case kC_BadName => k_is)
    (case eC_BadName => k_is)
    (case vC_BadName => k_is)
    (case ty_BadName => k_is)
    (case hd_BadName => k_is)
    (case se_BadName => first | k_is | kernel_rfl)
    (case su_BadName => ks_is)
    (case xg_BadName => k_is)
    (case xm_BadName => k_is)
    (case aC_BadNote => k_is)
    (case xL_BadNote => k_is)
    (case rv_BadNote => decide +kernel)
    (case sa_BadNote => k_is)
    (case ga_BadNote => k_is)
    (case gg_BadNote => k_is)
    (case no_BadNote_line => k_is)
    (case iC_BadNote => k_is)
    (case tC_BadNote => k_is)
    (case l_BadNote => k_is)
    (case c_BadNote => k_is)
    (case d_BadNote => k_is)
    (case v_BadNote => rfl)
    (case fi_BadNote => first | rfl | decide +kernel)
    (case ce_BadNote => k_is)
    (case kC_BadNote => k_is)
    (case eC_BadNote => k_is)
    (case vC_BadNote => k_is)
    (case ty_BadNote => k_is)
    (case hd_BadNote => k_is)
    (case se_BadNote => first | k_is | kernel_rfl)
    (case su_BadNote => ks_is)
    (case xg_BadNote => k_is)
    (case xm_BadNote => k_is)
    (case aC_BadNumber => k_is)
    (case xL_BadNumber => k_is)
    (case rv_BadNumber => decide +kernel)
    (case sa_BadNumber => k_is)
    (case ga_BadNumber => k_is)
    (case gg_BadNumber => k_is)
    (case no_BadNumber_value => k_is)
    (case iC_BadNumber => k_is)
    (case tC_BadNumber => k_is)
    (case l_BadNumber => k_is)
    (case c_BadNumber => k_is)
    (case d_BadNumber => k_is)
    (case v_BadNumber => rfl)
    (case fi_BadNumber => first | rfl | decide +kernel)
    (case ce_BadNumber => k_is)
    (case kC_BadNumber => k_is)
    (case eC_BadNumber => k_is)
    (case vC_BadNumber => k_is)
    (case ty_BadNumber => k_is)
    (case hd_BadNumber => k_is)
    (case se_BadNumber => first | k_is | kernel_rfl)
    (case su_BadNumber => ks_is)
    (case xg_BadNumber => k_is)
    (case xm_BadNumber => k_is)
    (case aC_NothingToUndo => k_is)
    (case xi_NothingToUndo => first | k_exc | k_is | decide +kernel)
    (case kC_NothingToUndo => k_is)
    (case eC_NothingToUndo => k_is)
    (case ty_NothingToUndo => k_is)
    (case ga_NothingToUndo => k_is)
    (case gg_NothingToUndo => k_is)
    (case hd_NothingToUndo => k_is)
    (case xg_NothingToUndo => k_is)
    (case xm_NothingToUndo => k_is)
    (case aC_Refused => k_is)
    (case xL_Refused => k_is)
    (case rv_Refused => decide +kernel)
    (case sa_Refused => k_is)
    (case ga_Refused => k_is)
    (case gg_Refused => k_is)
    (case no_Refused_reason => k_is)
    (case no_Refused_names => k_is)
    (case iC_Refused => k_is)
    (case tC_Refused => k_is)
    (case l_Refused => k_is)
    (case c_Refused => k_is)
    (case d_Refused => k_is)
    (case v_Refused => rfl)
    (case fi_Refused => first | rfl | decide +kernel)
    (case ce_Refused => k_is)
    (case kC_Refused => k_is)
    (case eC_Refused => k_is)
    (case vC_Refused => k_is)
    (case ty_Refused => k_is)
    (case hd_Refused => k_is)
    (case se_Refused => first | k_is | kernel_rfl)
    (case su_Refused => ks_is)
    (case xg_Refused => k_is)
    (case xm_Refused => k_is)
    (case aC_Taken => k_is)
    (case xL_Taken => k_is)
    (case rv_Taken => decide +kernel)
    (case sa_Taken => k_is)
    (case ga_Taken => k_is)
    (case gg_Taken => k_is)
    (case no_Taken_value => k_is)
    (case iC_Taken => k_is)
    (case tC_Taken => k_is)
    (case l_Taken => k_is)
    (case c_Taken => k_is)
    (case d_Taken => k_is)
    (case v_Taken => rfl)
    (case fi_Taken => first | rfl | decide +kernel)
    (case ce_Taken => k_is)
    (case kC_Taken => k_is)
    (case eC_Taken => k_is)
    (case vC_Taken => k_is)
    (case ty_Taken => k_is)
    (case hd_Taken => k_is)
    (case se_Taken => first | k_is | kernel_rfl)
    (case su_Taken => ks_is)
    (case xg_Taken => k_is)
    (case xm_Taken => k_is)
    (case aC_TooMany => k_is)
    (case xL_TooMany => k_is)
    (case rv_TooMany => decide +kernel)
    (case sa_TooMany => k_is)
    (case ga_TooMany => k_is)
    (case gg_TooMany => k_is)
    (case no_TooMany_limit => k_is)
    (case iC_TooMany => k_is)
    (case tC_TooMany => k_is)
    (case l_TooMany => k_is)
    (case c_TooMany => k_is)
    (case d_TooMany => k_is)
    (case v_TooMany => rfl)
    (case fi_TooMany => first | rfl | decide +kernel)
    (case ce_TooMany => k_is)
    (case kC_TooMany => k_is)
    (case eC_TooMany => k_is)
    (case vC_TooMany => k_is)
    (case ty_TooMany => k_is)
    (case hd_TooMany => k_is)
    (case se_TooMany => first | k_is | kernel_rfl)
    (case su_TooMany => ks_is)
    (case xg_TooMany => k_is)
    (case xm_TooMany => k_is)
    (case aC_Unknown => k_is)
    (case xL_Unknown => k_is)
    (case rv_Unknown => decide +kernel)
    (case sa_Unknown => k_is)
    (case ga_Unknown => k_is)
    (case gg_Unknown => k_is)
    (case no_Unknown_value => k_is)
    (case iC_Unknown => k_is)
    (case tC_Unknown => k_is)
    (case l_Unknown => k_is)
    (case c_Unknown => k_is)
    (case d_Unknown => k_is)
    (case v_Unknown => rfl)
    (case fi_Unknown => first | rfl | decide +kernel)
    (case ce_Unknown => k_is)
    (case kC_Unknown => k_is)
    (case eC_Unknown => k_is)
    (case vC_Unknown => k_is)
    (case ty_Unknown => k_is)
    (case hd_Unknown => k_is)
    (case se_Unknown => first | k_is | kernel_rfl)
    (case su_Unknown => ks_is)
    (case xg_Unknown => k_is)
    (case xm_Unknown => k_is)
    (case ko_Unknown_BadEvent => first | kit_is | rfl | kernel_rfl)
    (case ko_TooMany_BadEvent => first | kit_is | rfl | kernel_rfl)
    (case ko_Taken_BadEvent => first | kit_is | rfl | kernel_rfl)
    (case ko_Refused_BadEvent => first | kit_is | rfl | kernel_rfl)
    (case ko_NothingToUndo_BadEvent => first | kit_is | rfl | kernel_rfl)
    (case ko_BadNumber_BadEvent => first | kit_is | rfl | kernel_rfl)
    (case ko_BadNote_BadEvent => first | kit_is | rfl | kernel_rfl)
    (case ko_BadName_BadEvent => first | kit_is | rfl | kernel_rfl)
    (case ko_BadItem_BadEvent => first | kit_is | rfl | kernel_rfl)
    (case ko_BadEvent_BadEvent => first | kit_is | rfl | kernel_rfl)
    (case ko_Unknown_BadItem => first | kit_is | rfl | kernel_rfl)
    (case ko_TooMany_BadItem => first | kit_is | rfl | kernel_rfl)
    (case ko_Taken_BadItem => first | kit_is | rfl | kernel_rfl)
    (case ko_Refused_BadItem => first | kit_is | rfl | kernel_rfl)
    (case ko_NothingToUndo_BadItem => first | kit_is | rfl | kernel_rfl)
    (case ko_BadNumber_BadItem => first | kit_is | rfl | kernel_rfl)
    (case ko_BadNote_BadItem => first | kit_is | rfl | kernel_rfl)
    (case ko_BadName_BadItem => first | kit_is | rfl | kernel_rfl)
    (case ko_BadItem_BadItem => first | kit_is | rfl | kernel_rfl)
    (case ko_BadEvent_BadItem => first | kit_is | rfl | kernel_rfl)
    (case ko_Unknown_BadName => first | kit_is | rfl | kernel_rfl)
    (case ko_TooMany_BadName => first | kit_is | rfl | kernel_rfl)
    (case ko_Taken_BadName => first | kit_is | rfl | kernel_rfl)
    (case ko_Refused_BadName => first | kit_is | rfl | kernel_rfl)
    (case ko_NothingToUndo_BadName => first | kit_is | rfl | kernel_rfl)
    (case ko_BadNumber_BadName => first | kit_is | rfl | kernel_rfl)
    (case ko_BadNote_BadName => first | kit_is | rfl | kernel_rfl)
    (case ko_BadName_BadName => first | kit_is | rfl | kernel_rfl)
    (case ko_BadItem_BadName => first | kit_is | rfl | kernel_rfl)
    (case ko_BadEvent_BadName => first | kit_is | rfl | kernel_rfl)
    (case ko_Unknown_BadNote => first | kit_is | rfl | kernel_rfl)
    (case ko_TooMany_BadNote => first | kit_is | rfl | kernel_rfl)
    (case ko_Taken_BadNote => first | kit_is | rfl | kernel_rfl)
    (case ko_Refused_BadNote => first | kit_is | rfl | kernel_rfl)
    (case ko_NothingToUndo_BadNote => first | kit_is | rfl | kernel_rfl)
    (case ko_BadNumber_BadNote => first | kit_is | rfl | kernel_rfl)
    (case ko_BadNote_BadNote => first | kit_is | rfl | kernel_rfl)
    (case ko_BadName_BadNote => first | kit_is | rfl | kernel_rfl)
    (case ko_BadItem_BadNote => first | kit_is | rfl | kernel_rfl)
    (case ko_BadEvent_BadNote => first | kit_is | rfl | kernel_rfl)
    (case ko_Unknown_BadNumber => first | kit_is | rfl | kernel_rfl)
    (case ko_TooMany_BadNumber => first | kit_is | rfl | kernel_rfl)
    (case ko_Taken_BadNumber => first | kit_is | rfl | kernel_rfl)
    (case ko_Refused_BadNumber => first | kit_is | rfl | kernel_rfl)
    (case ko_NothingToUndo_BadNumber => first | kit_is | rfl | kernel_rfl)
    (case ko_BadNumber_BadNumber => first | kit_is | rfl | kernel_rfl)
    (case ko_BadNote_BadNumber => first | kit_is | rfl | kernel_rfl)
    (case ko_BadName_BadNumber => first | kit_is | rfl | kernel_rfl)
    (case ko_BadItem_BadNumber => first | kit_is | rfl | kernel_rfl)
    (case ko_BadEvent_BadNumber => first | kit_is | rfl | kernel_rfl)
    (case ko_Unknown_LookupError => first | kit_is | rfl | kernel_rfl)
    (case ko_TooMany_LookupError => first | kit_is | rfl | kernel_rfl)
    (case ko_Taken_LookupError => first | kit_is | rfl | kernel_rfl)
    (case ko_Refused_LookupError => first | kit_is | rfl | kernel_rfl)
    (case ko_NothingToUndo_LookupError => first | kit_is | rfl | kernel_rfl)
    (case ko_BadNumber_LookupError => first | kit_is | rfl | kernel_rfl)
    (case ko_BadNote_LookupError => first | kit_is | rfl | kernel_rfl)
    (case ko_BadName_LookupError => first | kit_is | rfl | kernel_rfl)
    (case ko_BadItem_LookupError => first | kit_is | rfl | kernel_rfl)
    (case ko_BadEvent_LookupError => first | kit_is | rfl | kernel_rfl)
    (case ko_Unknown_NothingToUndo => first | kit_is | rfl | kernel_rfl)
    (case ko_TooMany_NothingToUndo => first | kit_is | rfl | kernel_rfl)
    (case ko_Taken_NothingToUndo => first | kit_is | rfl | kernel_rfl)
    (case ko_Refused_NothingToUndo => first | kit_is | rfl | kernel_rfl)
    (case ko_NothingToUndo_NothingToUndo => first | kit_is | rfl | kernel_rfl)
    (case ko_BadNumber_NothingToUndo => first | kit_is | rfl | kernel_rfl)
    (case ko_BadNote_NothingToUndo => first | kit_is | rfl | kernel_rfl)
    (case ko_BadName_NothingToUndo => first | kit_is | rfl | kernel_rfl)
    (case ko_BadItem_NothingToUndo => first | kit_is | rfl | kernel_rfl)
    (case ko_BadEvent_NothingToUndo => first | kit_is | rfl | kernel_rfl)
    (case ko_Unknown_Refused => first | kit_is | rfl | kernel_rfl)
    (case ko_TooMany_Refused => first | kit_is | rfl | kernel_rfl)
    (case ko_Taken_Refused => first | kit_is | rfl | kernel_rfl)
    (case ko_Refused_Refused => first | kit_is | rfl | kernel_rfl)
    (case ko_NothingToUndo_Refused => first | kit_is | rfl | kernel_rfl)
    (case ko_BadNumber_Refused => first | kit_is | rfl | kernel_rfl)
    (case ko_BadNote_Refused => first | kit_is | rfl | kernel_rfl)
    (case ko_BadName_Refused => first | kit_is | rfl | kernel_rfl)
    (case ko_BadItem_Refused => first | kit_is | rfl | kernel_rfl)
    (case ko_BadEvent_Refused => first | kit_is | rfl | kernel_rfl)
    (case ko_Unknown_RuntimeError => first | kit_is | rfl | kernel_rfl)
    (case ko_TooMany_RuntimeError => first | kit_is | rfl | kernel_rfl)
    (case ko_Taken_RuntimeError => first | kit_is | rfl | kernel_rfl)
    (case ko_Refused_RuntimeError => first | kit_is | rfl | kernel_rfl)
    (case ko_NothingToUndo_RuntimeError => first | kit_is | rfl | kernel_rfl)
    (case ko_BadNumber_RuntimeError => first | kit_is | rfl | kernel_rfl)
    (case ko_BadNote_RuntimeError => first | kit_is | rfl | kernel_rfl)
    (case ko_BadName_RuntimeError => first | kit_is | rfl | kernel_rfl)
    (case ko_BadItem_RuntimeError => first | kit_is | rfl | kernel_rfl)
    (case ko_BadEvent_RuntimeError => first | kit_is | rfl | kernel_rfl)
    (case ko_Unknown_Taken => first | kit_is | rfl | kernel_rfl)
    (case ko_TooMany_Taken => first | kit_is | rfl | kernel_rfl)
    (case ko_Taken_Taken => first | kit_is | rfl | kernel_rfl)
    (case ko_Refused_Taken => first | kit_is | rfl | kernel_rfl)
    (case ko_NothingToUndo_Taken => first | kit_is | rfl | kernel_rfl)
    (case ko_BadNumber_Taken => first | kit_is | rfl | kernel_rfl)
    (case ko_BadNote_Taken => first | kit_is | rfl | kernel_rfl)
    (case ko_BadName_Taken => first | kit_is | rfl | kernel_rfl)
    (case ko_BadItem_Taken => first | kit_is | rfl | kernel_rfl)
    (case ko_BadEvent_Taken => first | kit_is | rfl | kernel_rfl)
    (case ko_Unknown_TooMany => first | kit_is | rfl | kernel_rfl)
    (case ko_TooMany_TooMany => first | kit_is | rfl | kernel_rfl)
    (case ko_Taken_TooMany => first | kit_is | rfl | kernel_rfl)
    (case ko_Refused_TooMany => first | kit_is | rfl | kernel_rfl)
    (case ko_NothingToUndo_TooMany => first | kit_is | rfl | kernel_rfl)
    (case ko_BadNumber_TooMany => first | kit_is | rfl | kernel_rfl)
    (case ko_BadNote_TooMany => first | kit_is | rfl | kernel_rfl)
    (case ko_BadName_TooMany => first | kit_is | rfl | kernel_rfl)
    (case ko_BadItem_TooMany => first | kit_is | rfl | kernel_rfl)
    (case ko_BadEvent_TooMany => first | kit_is | rfl | kernel_rfl)
    (case ko_Unknown_Unknown => first | kit_is | rfl | kernel_rfl)
    (case ko_TooMany_Unknown => first | kit_is | rfl | kernel_rfl)
    (case ko_Taken_Unknown => first | kit_is | rfl | kernel_rfl)
    (case ko_Refused_Unknown => first | kit_is | rfl | kernel_rfl)
    (case ko_NothingToUndo_Unknown => first | kit_is | rfl | kernel_rfl)
    (case ko_BadNumber_Unknown => first | kit_is | rfl | kernel_rfl)
    (case ko_BadNote_Unknown => first | kit_is | rfl | kernel_rfl)
    (case ko_BadName_Unknown => first | kit_is | rfl | kernel_rfl)
    (case ko_BadItem_Unknown => first | kit_is | rfl | kernel_rfl)
    (case ko_BadEvent_Unknown => first | kit_is | rfl | kernel_rfl)
    (case ko_Unknown_ValueError => first | kit_is | rfl | kernel_rfl)
    (case ko_TooMany_ValueError => first | kit_is | rfl | kernel_rfl)
    (case ko_Taken_ValueError => first | kit_is | rfl | kernel_rfl)
    (case ko_Refused_ValueError => first | kit_is | rfl | kernel_rfl)
    (case ko_NothingToUndo_ValueError => first | kit_is | rfl | kernel_rfl)
    (case ko_BadNumber_ValueError => first | kit_is | rfl | kernel_rfl)
    (case ko_BadNote_ValueError => first | kit_is | rfl | kernel_rfl)
    (case ko_BadName_ValueError => first | kit_is | rfl | kernel_rfl)
    (case ko_BadItem_ValueError => first | kit_is | rfl | kernel_rfl)
    (case ko_BadEvent_ValueError => first | kit_is | rfl | kernel_rfl)
    (case aC_HeldError => k_is)
    (case eC_HeldError => k_is)
    (case ty_HeldError => k_is)
    (case ic_HeldError => k_is)
    (case sub_Unknown_HeldError => first | rfl | k_is)
    (case sub_TooMany_HeldError => first | rfl | k_is)
    (case sub_Taken_HeldError => first | rfl | k_is)
    (case sub_Refused_HeldError => first | rfl | k_is)
    (case sub_NothingToUndo_HeldError => first | rfl | k_is)
    (case sub_BadNumber_HeldError => first | rfl | k_is)
    (case sub_BadNote_HeldError => first | rfl | k_is)
    (case sub_BadName_HeldError => first | rfl | k_is)
    (case sub_BadItem_HeldError => first | rfl | k_is)
    (case sub_BadEvent_HeldError => first | rfl | k_is)

