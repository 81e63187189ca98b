import PyProof.Rows.All
import Wide.All
import OpenK.AllK
import Wide.FinOn
import HandS.ForMost
import HandS.Exc
import HandS.ExcOwn
import KE.KeyNested
import KE.KDictKeyed
import HandS.Lambda
import HandS.TupAny
import HandS.TupMul
import HandS.TupLe
import HandS.Deep
import HandS.Style
import HandS.Walk
import HandS.Zip
import HandS.IsInst
import HandS.Star
import HandS.WordsDict
import HandS.SortRule
import HandS.SortInts
import HandS.RaiseMore
import HandS.Small
import HandS.StrSplit
import KE.GoesEnum
import HandS.Conv
import HandS.DictTup
import HandS.ListItems
import PyProof.ReprRoads
import HandS.SortKw
import KE.KLam
import KE.KMinKey
import PyProof.ReprBulk
import PyProof.Rows.StrJoinMade
import HandS.EndBits
import HandS.EndTab
import PySem.Challenge.RW_flatforest_k47_sure_lengths_by_formula
set_option Elab.async false
set_option linter.all false
set_option maxRecDepth 100000
set_option maxHeartbeats 2000000
set_option autoImplicit false
/-! The D-layer: Python values by value, a heap of mutable objects, mirrors in combinators. -/
namespace DL
open PySem L2

/-- a value; ref: an object of the heap by its number; scr: the script -/
inductive D where
  | non | bl (b : Bool) | int (i : Int) | str (x : Str)
  | tup (ds : List D) | lst (ds : List D) | dic (ks vs : List D) | ins (c : Nat) (ds : List D)
  | ref (i : Nat)
  | scr (ns : List Int)

/-- the mutable objects, by their numbers; (tup [o]): o, locked -/
abbrev GH := List D
structure Exn where
  c : Nat
  ds : List D
inductive R (α : Type) where
  | ok (a : α) (G : GH)
  | ex (e : Exn) (G : GH)
  | st
def R.bnd {α β : Type} (x : R α) (f : α → GH → R β) : R β := match x with
  | .ok a G => f a G
  | .ex e G => .ex e G
  | .st => .st
abbrev Env := List (Option D)
abbrev F := Env → GH → R D
abbrev FT := Env → GH → R Bool
abbrev FA := Env → GH → R (List D)
/-- a statement's outcome -/
inductive RS where
  | nx (e : Env) (G : GH)
  | rt (d : D) (G : GH)
  | bk (e : Env) (G : GH)
  | ct (e : Env) (G : GH)
  | ex (x : Exn) (e : Env) (G : GH)
  | st
abbrev FS := Env → GH → RS

/-- what of the text the layer knows: the written part, the classes by number, their fields in the order in which __init__ stores them -/
structure TC where
  K : PySem.W.Frag
  P : Program
  w : World
  cls : Nat → Addr
  fld : Nat → List Str
  nd : ∀ c, (fld c).Nodup
  lt : ∀ c, (fld c).length < 1000
  tbs : List (Addr × Str)

/-- the addresses of the heap's objects, by number; others that are being filled -/
structure Ms where
  nm : List Addr
  hid : List Addr
def Out (ms : Ms) (a : Addr) : Prop := a ∉ ms.nm ∧ a ∉ ms.hid
/-! ### values and what stands for them -/
/-- the dict object: keys and values as they lie -/
def DObj (H : Hp) (a : Addr) (kv ws : List V) : Prop :=
  ∃ kvs : List (Key × V), H a = some (.dK kvs) ∧ kv = kvs.map (fun p => kV p.1) ∧ ws = kvs.map (·.2)
mutual
def Rep (T : TC) (ms : Ms) (H : Hp) : D → V → Prop
  | .non, v => v = .non
  | .bl b, v => v = .bl b
  | .int i, v => v = .int i
  | .str x, v => v = .str x
  | .tup ds, v => ∃ a vs, v = .ref a ∧ H a = some (.tup vs) ∧ Reps T ms H ds vs
  | .lst ds, v => ∃ a vs, v = .ref a ∧ Out ms a ∧ H a = some (.lst vs) ∧ Reps T ms H ds vs
  | .dic ks ds, v => ∃ a kv ws, v = .ref a ∧ Out ms a ∧ DObj H a kv ws ∧ Reps T ms H ks kv ∧ Reps T ms H ds ws
  | .ins c ds, v => ∃ a dx vs, v = .ref a ∧ Out ms a ∧ H a = some (.ins (T.cls c) dx ((T.fld c).zip vs)) ∧ vs.length ≤ (T.fld c).length ∧ Reps T ms H ds vs
  | .ref i, v => ∃ a, v = .ref a ∧ ms.nm[i]? = some a
  | .scr ns, v => ∃ a, v = .ref a ∧ ((∃ o, H a = some (.frz o (.lst (ns.map V.int))) ∧ Out ms a) ∨ (∀ H', SqL T.K H' a (ns.map V.int)))
def Reps (T : TC) (ms : Ms) (H : Hp) : List D → List V → Prop
  | [], vs => vs = []
  | d :: ds, vs => ∃ v r, vs = v :: r ∧ Rep T ms H d v ∧ Reps T ms H ds r
end
/-- no table of code objects -/
abbrev NT (o : HO) : Prop := ∀ ps, o ≠ .tbl ps
/-- what a step does to what is tracked -/
structure Stp (ms : Ms) (H : Hp) (ms' : Ms) (H' : Hp) : Prop where
  ext : ∃ e, ms'.nm = ms.nm ++ e ∧ ∀ a ∈ e, H a = none
  hid : (∀ a ∈ ms.hid, a ∈ ms'.hid) ∧ ∀ a ∈ ms'.hid, a ∈ ms.hid ∨ H a = none
  keep : ∀ a o, H a = some o → a ∉ ms.nm → NT o → H' a = some o
  tups : ∀ a vs, H a = some (.tup vs) → H' a = some (.tup vs)
  there : ∀ a, H' a = none → H a = none
theorem Stp.refl (ms : Ms) (H : Hp) : Stp ms H ms H := ⟨⟨[], by simp, fun _ h => by cases h⟩, ⟨fun _ h => h, fun _ h => .inl h⟩, fun _ _ h _ _ => h, fun _ _ h => h, fun _ h => h⟩
theorem Stp.outN {ms ms' : Ms} {H H' : Hp} (s : Stp ms H ms' H') {a : Addr} {o : HO} (h : H a = some o) (n : a ∉ ms.nm) : a ∉ ms'.nm := by
  obtain ⟨e, q, he⟩ := s.ext
  rw [q]
  intro z
  rcases List.mem_append.mp z with z | z
  · exact n z
  · rw [he a z] at h; cases h
theorem Stp.out {ms ms' : Ms} {H H' : Hp} (s : Stp ms H ms' H') {a : Addr} {o : HO} (h : H a = some o) (n : Out ms a) : Out ms' a := ⟨s.outN h n.1, fun z => (s.hid.2 a z).elim n.2 fun q => by rw [q] at h; cases h⟩
theorem Stp.trans {ms ms1 ms2 : Ms} {H H1 H2 : Hp} (a : Stp ms H ms1 H1) (b : Stp ms1 H1 ms2 H2) : Stp ms H ms2 H2 := by
  refine ⟨?_, ⟨fun c h => b.hid.1 c (a.hid.1 c h), fun c h => (b.hid.2 c h).elim (a.hid.2 c) fun q => .inr (a.there c q)⟩, fun c o h n nt => b.keep c o (a.keep c o h n nt) (a.outN h n) nt, fun c vs h => b.tups c vs (a.tups c vs h), fun c h => a.there c (b.there c h)⟩
  obtain ⟨e, e1, he⟩ := a.ext
  obtain ⟨e', e2, he'⟩ := b.ext
  refine ⟨e ++ e', by rw [e2, e1, List.append_assoc], fun c hc => ?_⟩
  rcases List.mem_append.mp hc with hc | hc
  · exact he c hc
  · exact a.there c (he' c hc)
theorem upd_none {H : Hp} {p a : Addr} {o : HO} (e : upd H p o a = none) : H a = none := by
  by_cases q : a = p
  · subst q; rw [upd_same] at e; cases e
  · rw [upd_ne q] at e; exact e
/-- a new object, not of the heap's numbers | of them -/
theorem Stp.new {ms : Ms} {H : Hp} {p : Addr} {o : HO} (h : H p = none) : Stp ms H ms (upd H p o) :=
  ⟨⟨[], by simp, fun _ h => by cases h⟩, ⟨fun _ h => h, fun _ h => .inl h⟩, fun a u e _ _ => by rw [upd_ne (ne_of_none e h)]; exact e, fun a vs e => by rw [upd_ne (ne_of_none e h)]; exact e, fun a e => upd_none e⟩
abbrev Ms.add (ms : Ms) (p : Addr) : Ms := ⟨ms.nm ++ [p], ms.hid⟩
theorem Stp.newR {ms : Ms} {H : Hp} {p : Addr} {o : HO} (h : H p = none) : Stp ms H (ms.add p) (upd H p o) :=
  ⟨⟨[p], rfl, fun a z => by rw [List.mem_singleton.mp z]; exact h⟩, ⟨fun _ h => h, fun _ h => .inl h⟩, (Stp.new (ms := ms) h).keep, (Stp.new (ms := ms) h).tups, (Stp.new (ms := ms) h).there⟩
/-- an object of the heap's numbers is changed -/
theorem Stp.wr {ms : Ms} {H : Hp} {p : Addr} {o u : HO} (h : p ∈ ms.nm) (hp : H p = some u) (ht : ∀ vs, u ≠ .tup vs) : Stp ms H ms (upd H p o) :=
  ⟨⟨[], by simp, fun _ h => by cases h⟩, ⟨fun _ h => h, fun _ h => .inl h⟩, fun a w e n _ => by rw [upd_ne (fun q => n (by rw [q]; exact h))]; exact e, fun a vs e => by
    rw [upd_ne (fun q => ?_)]
    · exact e
    · subst q; rw [hp] at e; exact ht vs (Option.some.inj e), fun a e => upd_none e⟩

theorem DObj.mono {ms ms' : Ms} {H H' : Hp} {a : Addr} {kv ws : List V} (s : Stp ms H ms' H') (n : a ∉ ms.nm) (h : DObj H a kv ws) : DObj H' a kv ws := by
  obtain ⟨kvs, h1, h2⟩ := h
  exact ⟨kvs, s.keep a _ h1 n (by intro _ z; cases z), h2⟩
theorem DObj.has {H : Hp} {a : Addr} {kv ws : List V} (h : DObj H a kv ws) : ∃ o, H a = some o := by
  obtain ⟨kvs, h1, _⟩ := h
  exact ⟨_, h1⟩
theorem getE_app {ms e : List Addr} {i : Nat} {a : Addr} (h : ms[i]? = some a) : (ms ++ e)[i]? = some a := by
  have := (List.getElem?_eq_some_iff.mp h).1
  rw [List.getElem?_append_left this]; exact h
/-- what keeps the meaning of values -/
structure Tr (ms : Ms) (H : Hp) (ms' : Ms) (H' : Hp) : Prop where
  out : ∀ a o, H a = some o → NT o → Out ms a → H' a = some o ∧ Out ms' a
  tups : ∀ a vs, H a = some (.tup vs) → H' a = some (.tup vs)
  nm : ∀ (i : Nat) (a : Addr), ms.nm[i]? = some a → ms'.nm[i]? = some a
theorem Stp.tr {ms ms' : Ms} {H H' : Hp} (s : Stp ms H ms' H') : Tr ms H ms' H' := ⟨fun a o h nt n => ⟨s.keep a o h n.1 nt, s.out h n⟩, s.tups, fun i a h => by
  obtain ⟨e, q, _⟩ := s.ext
  rw [q]
  exact getE_app h⟩
mutual
theorem Rep.tr {T : TC} {ms ms' : Ms} {H H' : Hp} (s : Tr ms H ms' H') : ∀ (d : D) (v : V), Rep T ms H d v → Rep T ms' H' d v
  | .non, _, h => h
  | .bl _, _, h => h
  | .int _, _, h => h
  | .str _, _, h => h
  | .tup ds, v, h => by
    obtain ⟨a, vs, e, h1, h2⟩ := h
    exact ⟨a, vs, e, s.tups a vs h1, Reps.tr s ds vs h2⟩
  | .lst ds, v, h => by
    obtain ⟨a, vs, e, n, h1, h2⟩ := h
    obtain ⟨q1, q2⟩ := s.out a _ h1 (by intro _ z; cases z) n
    exact ⟨a, vs, e, q2, q1, Reps.tr s ds vs h2⟩
  | .dic ks ds, v, h => by
    obtain ⟨a, kv, ws, e, n, ⟨kvs, h1, h2⟩, h3, h4⟩ := h
    obtain ⟨q1, q2⟩ := s.out a _ h1 (by intro _ z; cases z) n
    exact ⟨a, kv, ws, e, q2, ⟨kvs, q1, h2⟩, Reps.tr s ks kv h3, Reps.tr s ds ws h4⟩
  | .ins c ds, v, h => by
    obtain ⟨a, dx, vs, e, n, h1, h2, h3⟩ := h
    obtain ⟨q1, q2⟩ := s.out a _ h1 (by intro _ z; cases z) n
    exact ⟨a, dx, vs, e, q2, q1, h2, Reps.tr s ds vs h3⟩
  | .ref i, v, h => by
    obtain ⟨a, e, h1⟩ := h
    exact ⟨a, e, s.nm i a h1⟩
  | .scr ns, v, h => by
    obtain ⟨a, e, h1⟩ := h
    rcases h1 with ⟨o, h1, n⟩ | h1
    · obtain ⟨q1, q2⟩ := s.out a _ h1 (by intro _ z; cases z) n
      exact ⟨a, e, .inl ⟨o, q1, q2⟩⟩
    · exact ⟨a, e, .inr h1⟩
theorem Reps.tr {T : TC} {ms ms' : Ms} {H H' : Hp} (s : Tr ms H ms' H') : ∀ (ds : List D) (vs : List V), Reps T ms H ds vs → Reps T ms' H' ds vs
  | [], _, h => h
  | d :: ds, vs, h => by
    obtain ⟨v, r, e, h1, h2⟩ := h
    exact ⟨v, r, e, Rep.tr s d v h1, Reps.tr s ds r h2⟩
end
theorem Rep.mono {T : TC} {ms ms' : Ms} {H H' : Hp} (s : Stp ms H ms' H') (d : D) (v : V) (h : Rep T ms H d v) : Rep T ms' H' d v := Rep.tr s.tr d v h
theorem Reps.mono {T : TC} {ms ms' : Ms} {H H' : Hp} (s : Stp ms H ms' H') (ds : List D) (vs : List V) (h : Reps T ms H ds vs) : Reps T ms' H' ds vs := Reps.tr s.tr ds vs h
section
variable {T : TC} {ms : Ms} {H : Hp}
theorem Reps.len : ∀ {ds : List D} {vs : List V}, Reps T ms H ds vs → vs.length = ds.length
  | [], _, h => by cases h; rfl
  | d :: ds, vs, h => by
    obtain ⟨v, r, rfl, _, h2⟩ := h
    simp [h2.len]
theorem Reps.nil : Reps T ms H [] [] := rfl
theorem Reps.cons {d : D} {v : V} {ds : List D} {vs : List V} (h : Rep T ms H d v) (t : Reps T ms H ds vs) : Reps T ms H (d :: ds) (v :: vs) := ⟨v, vs, rfl, h, t⟩
theorem Reps.at : ∀ {ds : List D} {vs : List V} {i : Nat} {d : D}, Reps T ms H ds vs → ds[i]? = some d → ∃ v, vs[i]? = some v ∧ Rep T ms H d v
  | [], _, _, _, _, h => by simp at h
  | x :: ds, vs, 0, d, h, e => by
    obtain ⟨v, r, rfl, h1, _⟩ := h
    simp at e; subst e
    exact ⟨v, rfl, h1⟩
  | x :: ds, vs, i + 1, d, h, e => by
    obtain ⟨v, r, rfl, _, h2⟩ := h
    obtain ⟨u, h3, h4⟩ := Reps.at (i := i) (d := d) h2 (by simpa using e)
    exact ⟨u, by simpa using h3, h4⟩
theorem Reps.of : ∀ {ds : List D} {vs : List V} {i : Nat} {v : V}, Reps T ms H ds vs → vs[i]? = some v → ∃ d, ds[i]? = some d ∧ Rep T ms H d v
  | [], _, _, _, h, e => by cases h; simp at e
  | x :: ds, vs, 0, v, h, e => by
    obtain ⟨u, r, rfl, h1, _⟩ := h
    simp at e; subst e
    exact ⟨x, rfl, h1⟩
  | x :: ds, vs, i + 1, v, h, e => by
    obtain ⟨u, r, rfl, _, h2⟩ := h
    obtain ⟨d, h3, h4⟩ := Reps.of (vs := r) (i := i) (v := v) h2 (by simpa using e)
    exact ⟨d, by simpa using h3, h4⟩
theorem Reps.app : ∀ {ds es : List D} {vs ws : List V}, Reps T ms H ds vs → Reps T ms H es ws → Reps T ms H (ds ++ es) (vs ++ ws)
  | [], _, _, _, h, t => by cases h; exact t
  | d :: ds, es, vs, ws, h, t => by
    obtain ⟨v, r, rfl, h1, h2⟩ := h
    exact ⟨v, r ++ ws, rfl, h1, Reps.app h2 t⟩
theorem Reps.set {d : D} {v : V} (h : Rep T ms H d v) : ∀ {ds : List D} {vs : List V} (i : Nat), Reps T ms H ds vs → Reps T ms H (ds.set i d) (vs.set i v)
  | [], _, _, t => by cases t; exact rfl
  | x :: ds, vs, 0, t => by
    obtain ⟨u, r, rfl, h1, h2⟩ := t
    exact ⟨v, r, rfl, h, h2⟩
  | x :: ds, vs, i + 1, t => by
    obtain ⟨u, r, rfl, h1, h2⟩ := t
    exact ⟨u, r.set i v, rfl, h1, Reps.set h i h2⟩
theorem Reps.take (n : Nat) : ∀ {ds : List D} {vs : List V}, Reps T ms H ds vs → Reps T ms H (ds.take n) (vs.take n) := by
  induction n with
  | zero => intro ds vs _; rw [List.take_zero, List.take_zero]; exact rfl
  | succ n ih =>
    intro ds vs h
    cases ds with
    | nil => cases h; rw [List.take_nil, List.take_nil]; exact rfl
    | cons d ds =>
      obtain ⟨v, r, rfl, h1, h2⟩ := h
      exact ⟨v, r.take n, rfl, h1, ih h2⟩
theorem Reps.drop (n : Nat) : ∀ {ds : List D} {vs : List V}, Reps T ms H ds vs → Reps T ms H (ds.drop n) (vs.drop n) := by
  induction n with
  | zero => intro ds vs h; simpa using h
  | succ n ih =>
    intro ds vs h
    cases ds with
    | nil => cases h; rw [List.drop_nil, List.drop_nil]; exact rfl
    | cons d ds =>
      obtain ⟨v, r, rfl, h1, h2⟩ := h
      exact ih h2
theorem Reps.one {d : D} {vs : List V} (h : Reps T ms H [d] vs) : ∃ v, vs = [v] ∧ Rep T ms H d v := by
  obtain ⟨v, r, rfl, h1, h2⟩ := h
  cases h2
  exact ⟨v, rfl, h1⟩
theorem Reps.two {d e : D} {vs : List V} (h : Reps T ms H [d, e] vs) : ∃ v u, vs = [v, u] ∧ Rep T ms H d v ∧ Rep T ms H e u := by
  obtain ⟨v, r, rfl, h1, h2⟩ := h
  obtain ⟨u, rfl, h3⟩ := h2.one
  exact ⟨v, u, rfl, h1, h3⟩
theorem Reps.ints (ns : List Int) : Reps T ms H (ns.map D.int) (ns.map V.int) := by
  induction ns with
  | nil => rfl
  | cons n ns ih => exact ⟨_, _, rfl, rfl, ih⟩
theorem Reps.rev : ∀ {ds : List D} {vs : List V}, Reps T ms H ds vs → Reps T ms H ds.reverse vs.reverse
  | [], _, h => by cases h; exact rfl
  | d :: ds, vs, h => by
    obtain ⟨v, r, rfl, h1, h2⟩ := h
    rw [List.reverse_cons, List.reverse_cons]
    exact (h2.rev).app ⟨v, [], rfl, h1, rfl⟩
end

/-! ### dicts whose keys are tuples -/
-- a key: whole numbers, texts, None, tuples of such
mutual
def nkO : D → Option NestedKey
  | .non => some .none
  | .int i => some (.num i)
  | .str x => some (.text x)
  | .tup ds => (match nksO ds with
    | some ks => some (.tup ks)
    | none => none)
  | _ => none
def nksO : List D → Option (List NestedKey)
  | [] => some []
  | d :: ds => (match nkO d, nksO ds with
    | some k, some ks => some (k :: ks)
    | _, _ => none)
end
/-- the dict at a by its entries -/
def NDO (a : Addr) (es : Array DictEntry) : HO := .ext fun h => (a == sysModules) = false ∧ ∃ o ep, h.get? a = some o ∧ o.ExactDict ∧ o.data = .dict es ep
/-- .. and what they are: (key, its tuple's address, value) -/
def NObj (T : TC) (H : Hp) (a : Addr) (ks : List D) (kv ws : List V) : Prop :=
  ∃ (xs : List (NestedKey × Addr × Value)) (es : Array DictEntry), H a = some (NDO a es) ∧ nksO ks = some (xs.map (·.1)) ∧ kv = xs.map (fun x => V.ref x.2.1) ∧ Vals ws (xs.map (·.2.2)) ∧
    es.toList = xs.map (entryOfKey (nestedKind T.P T.w)) ∧ (xs.map (·.1)).Nodup ∧ (∀ x ∈ xs, x.1.depth ≤ 8) ∧ xs.length ≤ sizeLine ∧ (a == sysModules) = false
/-! ### the heap -/
/-- an object of the heap at its address -/
def MRep (T : TC) (ms : Ms) (H : Hp) (a : Addr) : D → Prop
  | .lst ds => ∃ vs, H a = some (.lst vs) ∧ Reps T ms H ds vs
  | .tup [.lst ds] => ∃ vs, H a = some (.lst vs) ∧ Reps T ms H ds vs
  | .dic ks ds => ∃ kv ws, DObj H a kv ws ∧ Reps T ms H ks kv ∧ Reps T ms H ds ws
  | .tup [.dic ks ds] => ∃ kv ws, DObj H a kv ws ∧ Reps T ms H ks kv ∧ Reps T ms H ds ws
  | .ins c ds => ∃ dx vs, H a = some (.ins (T.cls c) dx ((T.fld c).zip vs)) ∧ vs.length ≤ (T.fld c).length ∧ Reps T ms H ds vs
  | .tup [.tup ks, .tup ds] => ∃ kv ws, NObj T H a ks kv ws ∧ Reps T ms H ks kv ∧ Reps T ms H ds ws
  | _ => False
structure Cf (T : TC) (ms : Ms) (H : Hp) (G : GH) : Prop where
  nd : ms.nm.Nodup
  len : ms.nm.length = G.length
  hd : ∀ a ∈ ms.hid, H a ≠ none
  obj : ∀ (i : Nat) (o : D) (a : Addr), G[i]? = some o → ms.nm[i]? = some a → MRep T ms H a o
  tb : LamX.Tabs T.tbs H
theorem Cf.nil {T : TC} {H : Hp} (tb : LamX.Tabs T.tbs H) : Cf T ⟨[], []⟩ H [] := ⟨List.nodup_nil, rfl, fun a h => by simp at h, fun i o a h => by simp at h, tb⟩
/-- what may be written: no table, no code object -/
structure Wrt (p : Addr) (u : HO) : Prop where
  nt : NT u
  nc : ∀ q, u ≠ LamX.CodeO p q
theorem wrt_lst {p : Addr} {xs : List V} : Wrt p (.lst xs) := ⟨fun _ z => (by cases z), fun q z => (by unfold LamX.CodeO at z; cases z)⟩
theorem wrt_dK {p : Addr} {xs : List (Key × V)} : Wrt p (.dK xs) := ⟨fun _ z => (by cases z), fun q z => (by unfold LamX.CodeO at z; cases z)⟩
theorem wrt_ins {p C dx : Addr} {fs : List (Str × V)} : Wrt p (.ins C dx fs) := ⟨fun _ z => (by cases z), fun q z => (by unfold LamX.CodeO at z; cases z)⟩
theorem nd_code {a : Addr} {es : Array DictEntry} {q : Str} (hs : (a == sysModules) = false) : NDO a es ≠ LamX.CodeO a q := fun z => by
  unfold NDO LamX.CodeO at z
  have e := HO.ext.inj z
  have h1 : ((⟨Array.replicate a { cls := .type "dict", data := .dict es }, {}⟩ : Heap).push { cls := .type "dict", data := .dict es }).get? a = some { cls := .type "dict", data := .dict es } := by
    have := Heap.get?_push_size (⟨Array.replicate a { cls := .type "dict", data := .dict es }, {}⟩ : Heap) (o := { cls := .type "dict", data := .dict es }) rfl
    rw [show (⟨Array.replicate a { cls := .type "dict", data := .dict es }, {}⟩ : Heap).objs.size = a from Array.size_replicate] at this
    exact this
  have h2 := (congrFun e ((⟨Array.replicate a { cls := .type "dict", data := .dict es }, {}⟩ : Heap).push { cls := .type "dict", data := .dict es })).mp ⟨hs, _, _, h1, ⟨rfl, rfl, rfl⟩, rfl⟩
  obtain ⟨oc, vs, t, g1, g2, _⟩ := h2
  rw [h1] at g1
  cases g1
  cases g2
theorem wrt_nd {a : Addr} {es : Array DictEntry} (hs : (a == sysModules) = false) : Wrt a (NDO a es) := ⟨fun _ z => (by unfold NDO at z; cases z), fun q z => nd_code hs z⟩
/-- a write at p that is no table, no code object keeps the tables -/
theorem tabs_wr {Tb : List (Addr × Str)} {H : Hp} {p : Addr} {o u : HO} (t : LamX.Tabs Tb H) (hp : H p = some u) (w : Wrt p u) : LamX.Tabs Tb (upd H p o) := fun q hq => by
  obtain ⟨ps, h1, h2, h3⟩ := t q hq
  refine ⟨ps, by rw [upd_ne (fun z => w.nt ps (by rw [z] at h1; exact Option.some.inj (hp.symm.trans h1)))]; exact h1, h2, fun pos cv hc => ?_⟩
  obtain ⟨c, e1, e2⟩ := h3 pos cv hc
  have hne : c ≠ p := fun z => by
    subst z
    exact w.nc _ (Option.some.inj (hp.symm.trans e2))
  exact ⟨c, e1, by rw [upd_ne hne]; exact e2⟩
theorem MRep.wrt {T : TC} {ms : Ms} {H : Hp} {a : Addr} {d : D} (h : MRep T ms H a d) : ∃ u, H a = some u ∧ Wrt a u := by
  match d, h with
  | .lst ds, ⟨vs, h1, h2⟩ => exact ⟨_, h1, wrt_lst⟩
  | .tup [.lst ds], ⟨vs, h1, h2⟩ => exact ⟨_, h1, wrt_lst⟩
  | .dic ks ds, ⟨kv, ws, ⟨kvs, h1, h4⟩, h2, h3⟩ => exact ⟨_, h1, wrt_dK⟩
  | .tup [.dic ks ds], ⟨kv, ws, ⟨kvs, h1, h4⟩, h2, h3⟩ => exact ⟨_, h1, wrt_dK⟩
  | .ins c ds, ⟨dx, vs, h1, h2, h3⟩ => exact ⟨_, h1, wrt_ins⟩
  | .tup [.tup ks, .tup ds], ⟨kv, ws, ⟨xs, es, h1, h4⟩, h2, h3⟩ => exact ⟨_, h1, wrt_nd h4.2.2.2.2.2.2.2⟩
theorem Cf.wrt {T : TC} {ms : Ms} {H : Hp} {G : GH} {i : Nat} {p : Addr} {u : HO} (c : Cf T ms H G) (hi : ms.nm[i]? = some p) (hp : H p = some u) : Wrt p u := by
  have h1 := (List.getElem?_eq_some_iff.mp hi).1
  have h2 : i < G.length := by rw [← c.len]; exact h1
  obtain ⟨w, e, k⟩ := (c.obj i G[i] p (List.getElem?_eq_getElem h2) hi).wrt
  rw [hp] at e
  cases e
  exact k
theorem tabs_new {Tb : List (Addr × Str)} {H : Hp} {p : Addr} {o : HO} (t : LamX.Tabs Tb H) (hp : H p = none) : LamX.Tabs Tb (upd H p o) := t.ext fun b u e => by rw [upd_ne (ne_of_none e hp)]; exact e
/-- the slots -/
structure REnv (T : TC) (ms : Ms) (H : Hp) (σ : St) (ρ : Env) : Prop where
  len : σ.length = ρ.length
  at_ : ∀ (i : Nat) (d : D), ρ[i]? = some (some d) → ∃ v, σ[i]? = some (some v) ∧ Rep T ms H d v
theorem REnv.tr {T : TC} {ms ms' : Ms} {H H' : Hp} {σ : St} {ρ : Env} (s : Tr ms H ms' H') (h : REnv T ms H σ ρ) : REnv T ms' H' σ ρ :=
  ⟨h.len, fun i d e => by
    obtain ⟨v, h1, h2⟩ := h.at_ i d e
    exact ⟨v, h1, Rep.tr s d v h2⟩⟩
/-- an object of the heap, where its own object is kept -/
theorem MRep.tr {T : TC} {ms ms' : Ms} {H H' : Hp} {a : Addr} {d : D} (s : Tr ms H ms' H') (k : ∀ o, H a = some o → NT o → H' a = some o) (h : MRep T ms H a d) : MRep T ms' H' a d := by
  match d, h with
  | .lst ds, ⟨vs, h1, h2⟩ => exact ⟨vs, k _ h1 (by intro _ z; cases z), Reps.tr s _ _ h2⟩
  | .tup [.lst ds], ⟨vs, h1, h2⟩ => exact ⟨vs, k _ h1 (by intro _ z; cases z), Reps.tr s _ _ h2⟩
  | .dic ks ds, ⟨kv, ws, ⟨kvs, h1, h4⟩, h2, h3⟩ => exact ⟨kv, ws, ⟨kvs, k _ h1 (by intro _ z; cases z), h4⟩, Reps.tr s _ _ h2, Reps.tr s _ _ h3⟩
  | .tup [.dic ks ds], ⟨kv, ws, ⟨kvs, h1, h4⟩, h2, h3⟩ => exact ⟨kv, ws, ⟨kvs, k _ h1 (by intro _ z; cases z), h4⟩, Reps.tr s _ _ h2, Reps.tr s _ _ h3⟩
  | .ins c ds, ⟨dx, vs, h1, h2, h3⟩ => exact ⟨dx, vs, k _ h1 (by intro _ z; cases z), h2, Reps.tr s _ _ h3⟩
  | .tup [.tup ks, .tup ds], ⟨kv, ws, ⟨xs, es, h1, h4⟩, h2, h3⟩ => exact ⟨kv, ws, ⟨xs, es, k _ h1 (by intro _ z; cases z), h4⟩, Reps.tr s _ _ h2, Reps.tr s _ _ h3⟩
theorem REnv.mono {T : TC} {ms ms' : Ms} {H H' : Hp} {σ : St} {ρ : Env} (s : Stp ms H ms' H') (h : REnv T ms H σ ρ) : REnv T ms' H' σ ρ :=
  ⟨h.len, fun i d e => by
    obtain ⟨v, h1, h2⟩ := h.at_ i d e
    exact ⟨v, h1, Rep.mono s d v h2⟩⟩
theorem REnv.set {T : TC} {ms : Ms} {H : Hp} {σ : St} {ρ : Env} {d : D} {v : V} (h : REnv T ms H σ ρ) (r : Rep T ms H d v) (i : Nat) : REnv T ms H (σ.set i (some v)) (ρ.set i (some d)) :=
  ⟨by rw [List.length_set, List.length_set]; exact h.len, fun j e hj => by
    by_cases q : i = j
    · subst q
      rw [List.getElem?_set_self'] at hj ⊢
      cases p : ρ[i]? with
      | none => rw [p] at hj; cases hj
      | some x =>
        rw [p] at hj
        cases hj
        have hi := (List.getElem?_eq_some_iff.mp p).1
        rw [List.getElem?_eq_getElem (by rw [h.len]; exact hi)]
        exact ⟨v, rfl, r⟩
    · rw [List.getElem?_set_ne q] at hj ⊢
      exact h.at_ j e hj⟩

/-! ### outcomes -/
/-- an exception's class and own dict -/
def XRep (T : TC) (ms : Ms) (H : Hp) (e : Exn) (cls : Value) (dx : Option Addr) : Prop :=
  cls = .ref (T.cls e.c) ∧ match dx with
    | none => e.ds = []
    | some x => ∃ vs, H x = some (.xd ((T.fld e.c).zip vs)) ∧ vs.length = (T.fld e.c).length ∧ Out ms x ∧ Reps T ms H e.ds vs
def OkG {α β : Type} (T : TC) (W : Value → Option Addr → Hp → Prop) (rel : Ms → Hp → α → β → Prop) (r : R α) (ms : Ms) (H : Hp) (Q : β → Hp → Prop) : Prop :=
  match r with
  | .ok a G => ∀ v H' ms', Stp ms H ms' H' → rel ms' H' a v → Cf T ms' H' G → Q v H'
  | .ex e G => ∀ cls dx H' ms', Stp ms H ms' H' → XRep T ms' H' e cls dx → Cf T ms' H' G → W cls dx H'
  | .st => False
abbrev OkE (T : TC) (W : Value → Option Addr → Hp → Prop) (r : R D) (ms : Ms) (H : Hp) (Q : VK) : Prop := OkG T W (Rep T) r ms H Q
abbrev OkB (T : TC) (W : Value → Option Addr → Hp → Prop) (r : R Bool) (ms : Ms) (H : Hp) (Q : Bool → Hp → Prop) : Prop := OkG T W (fun _ _ a b => a = b) r ms H Q
abbrev OkA (T : TC) (W : Value → Option Addr → Hp → Prop) (r : R (List D)) (ms : Ms) (H : Hp) (Q : List V → Hp → Prop) : Prop := OkG T W (Reps T) r ms H Q
section
variable {T : TC} {W : Value → Option Addr → Hp → Prop} {α β γ δ : Type} {rel : Ms → Hp → α → β → Prop} {rel2 : Ms → Hp → γ → δ → Prop} {ms ms' : Ms} {H H' : Hp} {r : R α} {Q Q' : β → Hp → Prop}
/-- from a later state -/
theorem OkG.later (s : Stp ms H ms' H') (h : OkG T W rel r ms H Q) : OkG T W rel r ms' H' Q := by
  cases r with
  | ok a G => exact fun v H2 ms2 s2 h2 c => h v H2 ms2 (s.trans s2) h2 c
  | ex e G => exact fun cls dx H2 ms2 s2 h2 c => h cls dx H2 ms2 (s.trans s2) h2 c
  | st => exact h
theorem OkG.imp (h : OkG T W rel r ms H Q) (k : ∀ v H', Q v H' → Q' v H') : OkG T W rel r ms H Q' := by
  cases r with
  | ok a G => exact fun v H2 ms2 s2 h2 c => k _ _ (h v H2 ms2 s2 h2 c)
  | ex e G => exact h
  | st => exact h
/-- then: the first part is an outcome r, the second one of what it gives -/
theorem OkG.bnd {f : α → GH → R γ} {Q2 : δ → Hp → Prop} (h : OkG T W rel2 (r.bnd f) ms H Q2) : OkG T W rel r ms H
    (fun v H1 => ∃ (a : α) (G : GH) (ms1 : Ms), r = .ok a G ∧ Stp ms H ms1 H1 ∧ rel ms1 H1 a v ∧ Cf T ms1 H1 G ∧ OkG T W rel2 (f a G) ms1 H1 Q2) := by
  cases r with
  | ok a G => exact fun v H2 ms2 s2 h2 c => ⟨a, G, ms2, rfl, s2, h2, c, OkG.later s2 h⟩
  | ex e G => exact h
  | st => exact h
end

/-! ### readings of mirrors -/
/-- what is wanted of an exception at the slots as they are -/
abbrev wat (W : WX) (σ : St) : Value → Option Addr → Hp → Prop := fun cls dx H => W cls dx σ H
def tOf (T : TC) (W : WX) (f : F) : TE := fun σ H Q => ∃ ρ ms G, REnv T ms H σ ρ ∧ Cf T ms H G ∧ OkE T (wat W σ) (f ρ G) ms H Q
def ttOf (T : TC) (W : WX) (f : FT) : TT := fun σ H Q => ∃ ρ ms G, REnv T ms H σ ρ ∧ Cf T ms H G ∧ OkB T (wat W σ) (f ρ G) ms H Q
def taOf (T : TC) (W : WX) (f : FA) : TA := fun σ H Q => ∃ ρ ms G, REnv T ms H σ ρ ∧ Cf T ms H G ∧ OkA T (wat W σ) (f ρ G) ms H Q
def OkS (T : TC) (W : WX) (r : RS) (ms : Ms) (H : Hp) (D : Ends) : Prop :=
  match r with
  | .nx ρ G => ∀ σ H' ms', Stp ms H ms' H' → REnv T ms' H' σ ρ → Cf T ms' H' G → D.nx σ H'
  | .bk ρ G => ∀ σ H' ms', Stp ms H ms' H' → REnv T ms' H' σ ρ → Cf T ms' H' G → D.bk σ H'
  | .ct ρ G => ∀ σ H' ms', Stp ms H ms' H' → REnv T ms' H' σ ρ → Cf T ms' H' G → D.ct σ H'
  | .rt d G => ∀ v H' ms', Stp ms H ms' H' → Rep T ms' H' d v → Cf T ms' H' G → D.rt v H'
  | .ex e ρ G => ∀ cls dx σ H' ms', Stp ms H ms' H' → REnv T ms' H' σ ρ → XRep T ms' H' e cls dx → Cf T ms' H' G → W cls dx σ H'
  | .st => False
def tsOf (T : TC) (W : WX) (f : FS) : TS := fun D σ H => ∃ ρ ms G, REnv T ms H σ ρ ∧ Cf T ms H G ∧ OkS T W (f ρ G) ms H D
theorem OkS.later {T : TC} {W : WX} {r : RS} {ms ms' : Ms} {H H' : Hp} {D : Ends} (s : Stp ms H ms' H') (h : OkS T W r ms H D) : OkS T W r ms' H' D := by
  cases r with
  | nx ρ G => exact fun σ H2 ms2 s2 h2 c => h σ H2 ms2 (s.trans s2) h2 c
  | bk ρ G => exact fun σ H2 ms2 s2 h2 c => h σ H2 ms2 (s.trans s2) h2 c
  | ct ρ G => exact fun σ H2 ms2 s2 h2 c => h σ H2 ms2 (s.trans s2) h2 c
  | rt d G => exact fun σ H2 ms2 s2 h2 c => h σ H2 ms2 (s.trans s2) h2 c
  | ex e ρ G => exact fun cls dx σ H2 ms2 s2 h2 h3 c => h cls dx σ H2 ms2 (s.trans s2) h2 h3 c
  | st => exact h
/-- a mirror of an expression | a test | arguments | a statement | a block -/
abbrev JE (X : Cx) (T : TC) (W : WX) (e : Expr) (f : F) : Prop := PE X e (tOf T W f)
abbrev JT (X : Cx) (T : TC) (W : WX) (e : Expr) (f : FT) : Prop := PT X e (ttOf T W f)
abbrev JA (X : Cx) (T : TC) (W : WX) (es : List Expr) (f : FA) : Prop := PA X es (taOf T W f)
abbrev JS (X : Cx) (T : TC) (W : WX) (st : Stmt) (f : FS) : Prop := PS X st (tsOf T W f)
abbrev JB (X : Cx) (T : TC) (W : WX) (st : List Stmt) (f : FS) : Prop := PSs X st (tsOf T W f)
section
variable {X : Cx} {e : Expr} {es : List Expr} {st : Stmt} {sts : List Stmt}
theorem PE.imp {t t' : TE} (h : PE X e t) (k : ∀ σ H Q, t' σ H Q → t σ H Q) : PE X e t' := ⟨fun pins s σ H Q I q => h.run pins s σ H Q I (k σ H Q q)⟩
theorem PT.imp {t t' : TT} (h : PT X e t) (k : ∀ σ H Q, t' σ H Q → t σ H Q) : PT X e t' := ⟨fun pins s σ H Q I q => h.run pins s σ H Q I (k σ H Q q)⟩
theorem PW.imp {t t' : TT} (h : PW X e t) (k : ∀ σ H Q, t' σ H Q → t σ H Q) : PW X e t' := ⟨fun wh pins s σ H Q I q => h.run wh pins s σ H Q I (k σ H Q q)⟩
theorem PA.imp {t t' : TA} (h : PA X es t) (k : ∀ σ H Q, t' σ H Q → t σ H Q) : PA X es t' := ⟨fun pos pins s σ H Q I q => h.run pos pins s σ H Q I (k σ H Q q)⟩
theorem PS.imp {t t' : TS} (h : PS X st t) (k : ∀ D σ H, t' D σ H → t D σ H) : PS X st t' := ⟨fun pins s σ H D I q => h.run pins s σ H D I (k D σ H q)⟩
theorem PSs.imp {t t' : TS} (h : PSs X sts t) (k : ∀ D σ H, t' D σ H → t D σ H) : PSs X sts t' := ⟨fun pins s σ H D I q => h.run pins s σ H D I (k D σ H q)⟩
end
end DL

set_option Elab.async false
set_option linter.all false
set_option maxRecDepth 100000
set_option maxHeartbeats 2000000
set_option autoImplicit false
namespace DL
open PySem L2
variable {X : Cx} {T : TC} {W : WX} {a b c e : Expr} {es : List Expr} {fa fb fc : F} {ga gb gc : FT} {pos : Pos}

/-! ### names, constants -/
def fVar (i : Nat) : F := fun ρ G => match ρ[i]? with
  | some (some d) => .ok d G
  | _ => .st
def fC (d : D) : F := fun _ G => .ok d G
theorem je_var {i : Nat} {x : Str} (h : PE X (.Name x pos) (tVar i)) : JE X T W (.Name x pos) (fVar i) := PE.imp h fun σ H Q ⟨ρ, ms, G, he, hc, q⟩ => by
  unfold fVar at q
  cases e : ρ[i]? with
  | none => rw [e] at q; exact q.elim
  | some o =>
    cases o with
    | none => rw [e] at q; exact q.elim
    | some d =>
      rw [e] at q
      obtain ⟨v, h1, h2⟩ := he.at_ i d e
      exact ⟨v, h1, q v H ms (Stp.refl _ _) h2 hc⟩
/-- the name in slot i -/
theorem jv (i : Nat) {x : Str} (hN : X.N[i]? = some x := by rfl) (hv : Vis X.env.scope x := by first | exact Or.inl rfl | exact Or.inr (Or.inl rfl) | exact Or.inr (Or.inr rfl)) (hd : (x == ("__debug__" : Str)) = false := by decide)
    (hcd : (x == ("__classdict__" : Str)) = false := by decide) : JE X T W (.Name x pos) (fVar i) := je_var (pe_var hN hv hd hcd)
theorem je_c {v : V} {d : D} (h : PE X e (tC v)) (r : ∀ ms H, Rep T ms H d v) : JE X T W e (fC d) := PE.imp h fun σ H Q ⟨ρ, ms, G, he, hc, q⟩ => q v H ms (Stp.refl _ _) (r ms H) hc
theorem ji {i : Int} {j} : JE X T W (.Constant (.int i) j pos) (fC (.int i)) := je_c pe_int fun _ _ => rfl
theorem jbl {i : Bool} {j} : JE X T W (.Constant (.bool i) j pos) (fC (.bl i)) := je_c pe_bl fun _ _ => rfl
theorem jnon {j} : JE X T W (.Constant .none j pos) (fC .non) := je_c pe_non fun _ _ => rfl
theorem jstr {x : Str} {j} : JE X T W (.Constant (.str x) j pos) (fC (.str x)) := je_c pe_str fun _ _ => rfl
/-- a constant of the module: an int, a text -/
theorem jgi {x : Str} {i : Int} (hg : Gl X x) (hm : ∃ t, X.mg x = some (.int i t)) (hd : (x == ("__debug__" : Str)) = false := by decide) : JE X T W (.Name x pos) (fC (.int i)) := by
  obtain ⟨t, hm⟩ := hm
  exact je_c (pe_glob (v := .int i) hg hm ⟨t, rfl⟩ hd) fun _ _ => rfl
theorem jgs {x : Str} {i : Str} (hg : Gl X x) (hm : ∃ t, X.mg x = some (.str i t)) (hd : (x == ("__debug__" : Str)) = false := by decide) : JE X T W (.Name x pos) (fC (.str i)) := by
  obtain ⟨t, hm⟩ := hm
  exact je_c (pe_glob (v := .str i) hg hm ⟨t, rfl⟩ hd) fun _ _ => rfl

/-! ### two operands, by values -/
def fBin (g : D → D → GH → R D) (fa fb : F) : F := fun ρ G => (fa ρ G).bnd fun x G1 => (fb ρ G1).bnd fun y G2 => g x y G2
def OpD (T : TC) (r : R2) (g : D → D → GH → R D) : Prop := ∀ (W : Value → Option Addr → Hp → Prop) (ms : Ms) (H : Hp) (G : GH) (x y : V) (dx dy : D) (Q : VK),
  Rep T ms H dx x → Rep T ms H dy y → Cf T ms H G → OkE T W (g dx dy G) ms H Q → r x y H Q
theorem t_bin {r : R2} {g : D → D → GH → R D} (hd : OpD T r g) {σ : St} {H : Hp} {Q : VK} (h : tOf T W (fBin g fa fb) σ H Q) : tOp r (tOf T W fa) (tOf T W fb) σ H Q := by
  obtain ⟨ρ, ms, G, he, hc, h⟩ := h
  refine ⟨ρ, ms, G, he, hc, (OkG.bnd h).imp fun x H1 ⟨dx, G1, ms1, _, s1, r1, c1, h1⟩ => ?_⟩
  refine ⟨ρ, ms1, G1, he.mono s1, c1, (OkG.bnd h1).imp fun y H2 ⟨dy, G2, ms2, _, s2, r2, c2, h2⟩ => ?_⟩
  exact hd _ ms2 H2 G2 x y dx dy Q (Rep.mono s2 _ _ r1) r2 c2 h2
theorem j_op {op : Operator} {r : R2} {g : D → D → GH → R D} (ho : OpR X (binaryOp op) r) (hd : OpD T r g) (ha : JE X T W a fa) (hb : JE X T W b fb) : JE X T W (.BinOp a op b pos) (fBin g fa fb) :=
  PE.imp (pe_op ho ha hb) fun _ _ _ h => t_bin hd h
theorem OpD.or {r r' : R2} {g : D → D → GH → R D} (h : OpD T (fun x y H Q => r x y H Q ∨ r' x y H Q) g) : OpD T (fun x y H Q => r x y H Q ∨ r' x y H Q) g := h
/-- a value that must be a bool, as a test -/
def fB (f : F) : FT := fun ρ G => (f ρ G).bnd fun d G1 => match d with
  | .bl b => .ok b G1
  | _ => .st
theorem t_B {f : F} {σ : St} {H : Hp} {Q : Bool → Hp → Prop} (h : ttOf T W (fB f) σ H Q) : tOf T W f σ H fun x H' => ∃ k, x = .bl k ∧ Q k H' := by
  obtain ⟨ρ, ms, G, he, hc, h⟩ := h
  refine ⟨ρ, ms, G, he, hc, (OkG.bnd h).imp fun x H1 ⟨dx, G1, ms1, _, s1, r1, c1, h1⟩ => ?_⟩
  cases dx with
  | bl b => exact ⟨b, r1, h1 b H1 ms1 (Stp.refl _ _) rfl c1⟩
  | _ => exact h1.elim
theorem j_cmp {op : CmpOp} {r : R2} {g : D → D → GH → R D} (ho : OpR X (compareOp op) r) (hd : OpD T r g) (ha : JE X T W a fa) (hb : JE X T W b fb) (hm : behindInMarks op b = false := by first | exact nomark _ | rfl) :
    JE X T W (.Compare a [op] [b] pos) (fBin g fa fb) := PE.imp (pe_cmpR ho ha hb hm) fun _ _ _ h => t_bin hd h
theorem jt_cmp {op : CmpOp} {r : R2} {g : D → D → GH → R D} (ho : OpR X (compareOp op) r) (hd : OpD T r g) (ha : JE X T W a fa) (hb : JE X T W b fb) (hm : behindInMarks op b = false := by first | exact nomark _ | rfl) :
    JT X T W (.Compare a [op] [b] pos) (fB (fBin g fa fb)) := PT.imp (pt_cmpR ho ha hb hm) fun σ H Q h => t_bin hd (t_B h)
/-- a op1 b op2 c -/
def fChain (g g' : D → D → GH → R D) (fa fb fc : F) : F := fun ρ G => (fa ρ G).bnd fun x G1 => (fb ρ G1).bnd fun y G2 => (g x y G2).bnd fun z G3 => match z with
  | .bl true => (fc ρ G3).bnd fun w G4 => g' y w G4
  | .bl false => .ok (.bl false) G3
  | _ => .st
theorem t_chain {r r' : R2} {g g' : D → D → GH → R D} (hd : OpD T r g) (hd' : OpD T r' g') {σ : St} {H : Hp} {Q : VK} (h : tOf T W (fChain g g' fa fb fc) σ H Q) : tChain r r' (tOf T W fa) (tOf T W fb) (tOf T W fc) σ H Q := by
  obtain ⟨ρ, ms, G, he, hc, h⟩ := h
  refine ⟨ρ, ms, G, he, hc, (OkG.bnd h).imp fun x H1 ⟨dx, G1, ms1, _, s1, r1, c1, h1⟩ => ?_⟩
  refine ⟨ρ, ms1, G1, he.mono s1, c1, (OkG.bnd h1).imp fun y H2 ⟨dy, G2, ms2, _, s2, r2, c2, h2⟩ => ?_⟩
  refine hd _ ms2 H2 G2 x y dx dy _ (Rep.mono s2 _ _ r1) r2 c2 ((OkG.bnd h2).imp fun z H3 ⟨dz, G3, ms3, _, s3, r3, c3, h3⟩ => ?_)
  cases dz with
  | bl k =>
    refine ⟨k, r3, ?_⟩
    cases k with
    | true =>
      rw [if_pos rfl]
      refine ⟨ρ, ms3, G3, he.mono (s1.trans (s2.trans s3)), c3, (OkG.bnd h3).imp fun w H4 ⟨dw, G4, ms4, _, s4, r4, c4, h4⟩ => ?_⟩
      exact hd' _ ms4 H4 G4 y w dy dw Q (Rep.mono (s3.trans s4) _ _ r2) r4 c4 h4
    | false =>
      rw [if_neg Bool.false_ne_true]
      exact h3 (.bl false) H3 ms3 (Stp.refl _ _) rfl c3
  | _ => exact h3.elim
theorem j_chain {op op' : CmpOp} {r r' : R2} {g g' : D → D → GH → R D} (ho : OpR X (compareOp op) r) (hd : OpD T r g) (ho' : OpR X (compareOp op') r') (hd' : OpD T r' g') (ha : JE X T W a fa) (hb : JE X T W b fb) (hc : JE X T W c fc)
    (hm : lastMarks [op, op'] [b, c] = false := by with_unfolding_all rfl) : JE X T W (.Compare a [op, op'] [b, c] pos) (fChain g g' fa fb fc) :=
  PE.imp (pe_chain ho ho' ha hb hc hm) fun _ _ _ h => t_chain hd hd' h
theorem jt_chain {op op' : CmpOp} {r r' : R2} {g g' : D → D → GH → R D} (ho : OpR X (compareOp op) r) (hd : OpD T r g) (ho' : OpR X (compareOp op') r') (hd' : OpD T r' g') (ha : JE X T W a fa) (hb : JE X T W b fb) (hc : JE X T W c fc)
    (hm : lastMarks [op, op'] [b, c] = false := by with_unfolding_all rfl) : JT X T W (.Compare a [op, op'] [b, c] pos) (fB (fChain g g' fa fb fc)) :=
  PT.imp (pt_chain ho ho' ha hb hc hm) fun σ H Q h => t_chain hd hd' (t_B h)

/-! ### and, or, not, if -/
def gAnd (ga gb : FT) : FT := fun ρ G => (ga ρ G).bnd fun b G1 => match b with
  | true => gb ρ G1
  | false => .ok false G1
def gOr (ga gb : FT) : FT := fun ρ G => (ga ρ G).bnd fun b G1 => match b with
  | true => .ok true G1
  | false => gb ρ G1
def gNot (ga : FT) : FT := fun ρ G => (ga ρ G).bnd fun b G1 => .ok (!b) G1
abbrev JW (X : Cx) (T : TC) (W : WX) (e : Expr) (f : FT) : Prop := PW X e (ttOf T W f)
theorem jt_w {g : FT} (h : JW X T W e g) : JT X T W e g := PW.pt h
theorem jw_and1 (ha : JT X T W a ga) : JW X T W (.BoolOp .And [a] pos) ga := pw_and1 ha
theorem jw_or1 (ha : JT X T W a ga) : JW X T W (.BoolOp .Or [a] pos) ga := pw_or1 ha
theorem jw_and {rest : List Expr} (ha : JT X T W a ga) (hb : JW X T W (.BoolOp .And (b :: rest) pos) gb) : JW X T W (.BoolOp .And (a :: b :: rest) pos) (gAnd ga gb) :=
  PW.imp (pw_and ha hb) fun σ H Q ⟨ρ, ms, G, he, hc, h⟩ => ⟨ρ, ms, G, he, hc, (OkG.bnd h).imp fun x H1 ⟨k, G1, ms1, _, s1, r1, c1, h1⟩ => by
    subst r1
    cases k with
    | true => rw [if_pos rfl]; exact ⟨ρ, ms1, G1, he.mono s1, c1, h1⟩
    | false => rw [if_neg Bool.false_ne_true]; exact h1 false H1 ms1 (Stp.refl _ _) rfl c1⟩
theorem jw_or {rest : List Expr} (ha : JT X T W a ga) (hb : JW X T W (.BoolOp .Or (b :: rest) pos) gb) : JW X T W (.BoolOp .Or (a :: b :: rest) pos) (gOr ga gb) :=
  PW.imp (pw_or ha hb) fun σ H Q ⟨ρ, ms, G, he, hc, h⟩ => ⟨ρ, ms, G, he, hc, (OkG.bnd h).imp fun x H1 ⟨k, G1, ms1, _, s1, r1, c1, h1⟩ => by
    subst r1
    cases k with
    | true => rw [if_pos rfl]; exact h1 true H1 ms1 (Stp.refl _ _) rfl c1
    | false => rw [if_neg Bool.false_ne_true]; exact ⟨ρ, ms1, G1, he.mono s1, c1, h1⟩⟩
theorem jt_not (ha : JT X T W a ga) : JT X T W (.UnaryOp .Not a pos) (gNot ga) :=
  PT.imp (pt_not ha) fun σ H Q ⟨ρ, ms, G, he, hc, h⟩ => ⟨ρ, ms, G, he, hc, (OkG.bnd h).imp fun x H1 ⟨k, G1, ms1, _, s1, r1, c1, h1⟩ => by
    subst r1
    exact h1 (!k) H1 ms1 (Stp.refl _ _) rfl c1⟩
/-- as values; the parts are bools -/
def fV (g : FT) : F := fun ρ G => (g ρ G).bnd fun b G1 => .ok (.bl b) G1
/-- a bool, then | as it is -/
def fAndV (fa fb : F) : F := fun ρ G => (fa ρ G).bnd fun x G1 => match x with
  | .bl true => fb ρ G1
  | .bl false => .ok (.bl false) G1
  | _ => .st
def fOrV (fa fb : F) : F := fun ρ G => (fa ρ G).bnd fun x G1 => match x with
  | .bl true => .ok (.bl true) G1
  | .bl false => fb ρ G1
  | _ => .st
def fNotV (fa : F) : F := fun ρ G => (fa ρ G).bnd fun x G1 => match x with
  | .bl b => .ok (.bl (!b)) G1
  | _ => .st
theorem j_one {op} (ha : JE X T W a fa) : JE X T W (.BoolOp op [a] pos) fa := pe_one ha
theorem j_and {rest : List Expr} (ha : JE X T W a fa) (hb : JE X T W (.BoolOp .And (b :: rest) pos) fb) : JE X T W (.BoolOp .And (a :: b :: rest) pos) (fAndV fa fb) :=
  PE.imp (pe_and ha hb) fun σ H Q ⟨ρ, ms, G, he, hc, h⟩ => ⟨ρ, ms, G, he, hc, (OkG.bnd h).imp fun x H1 ⟨k, G1, ms1, _, s1, r1, c1, h1⟩ => by
    cases k with
    | bl k =>
      refine ⟨k, r1, ?_⟩
      cases k with
      | true => rw [if_pos rfl]; exact ⟨ρ, ms1, G1, he.mono s1, c1, h1⟩
      | false => rw [if_neg Bool.false_ne_true]; exact h1 _ H1 ms1 (Stp.refl _ _) rfl c1
    | _ => exact h1.elim⟩
theorem j_or {rest : List Expr} (ha : JE X T W a fa) (hb : JE X T W (.BoolOp .Or (b :: rest) pos) fb) : JE X T W (.BoolOp .Or (a :: b :: rest) pos) (fOrV fa fb) :=
  PE.imp (pe_or ha hb) fun σ H Q ⟨ρ, ms, G, he, hc, h⟩ => ⟨ρ, ms, G, he, hc, (OkG.bnd h).imp fun x H1 ⟨k, G1, ms1, _, s1, r1, c1, h1⟩ => by
    cases k with
    | bl k =>
      refine ⟨k, r1, ?_⟩
      cases k with
      | true => rw [if_pos rfl]; exact h1 _ H1 ms1 (Stp.refl _ _) rfl c1
      | false => rw [if_neg Bool.false_ne_true]; exact ⟨ρ, ms1, G1, he.mono s1, c1, h1⟩
    | _ => exact h1.elim⟩
theorem j_not (ha : JE X T W a fa) : JE X T W (.UnaryOp .Not a pos) (fNotV fa) :=
  PE.imp (pe_not ha) fun σ H Q ⟨ρ, ms, G, he, hc, h⟩ => ⟨ρ, ms, G, he, hc, (OkG.bnd h).imp fun x H1 ⟨k, G1, ms1, _, s1, r1, c1, h1⟩ => by
    cases k with
    | bl k => exact ⟨k, r1, h1 _ H1 ms1 (Stp.refl _ _) rfl c1⟩
    | _ => exact h1.elim⟩
def fIf (g : FT) (fa fb : F) : F := fun ρ G => (g ρ G).bnd fun b G1 => match b with
  | true => fa ρ G1
  | false => fb ρ G1
theorem j_if {g : FT} (hc : JT X T W c g) (ha : JE X T W a fa) (hb : JE X T W b fb) : JE X T W (.IfExp c a b pos) (fIf g fa fb) :=
  PE.imp (pe_ifExp hc ha hb) fun σ H Q ⟨ρ, ms, G, he, hc, h⟩ => ⟨ρ, ms, G, he, hc, (OkG.bnd h).imp fun x H1 ⟨k, G1, ms1, _, s1, r1, c1, h1⟩ => by
    subst r1
    cases k with
    | true => rw [if_pos rfl]; exact ⟨ρ, ms1, G1, he.mono s1, c1, h1⟩
    | false => rw [if_neg Bool.false_ne_true]; exact ⟨ρ, ms1, G1, he.mono s1, c1, h1⟩⟩

/-! ### arguments, displays -/
def fNil : FA := fun _ G => .ok [] G
def fCons (fa : F) (fr : FA) : FA := fun ρ G => (fa ρ G).bnd fun x G1 => (fr ρ G1).bnd fun xs G2 => .ok (x :: xs) G2
theorem ja_nil : JA X T W [] fNil := PA.imp pa_nil fun σ H Q ⟨ρ, ms, G, he, hc, h⟩ => h [] H ms (Stp.refl _ _) rfl hc
theorem ja_cons {fr : FA} (ha : JE X T W e fa) (hr : JA X T W es fr) (hs : starEach (e :: es) X.env = (false, eval e X.env) :: starEach es X.env := by rfl) : JA X T W (e :: es) (fCons fa fr) :=
  PA.imp (pa_cons ha hr hs) fun σ H Q ⟨ρ, ms, G, he, hc, h⟩ => ⟨ρ, ms, G, he, hc, (OkG.bnd h).imp fun x H1 ⟨k, G1, ms1, _, s1, r1, c1, h1⟩ =>
    ⟨ρ, ms1, G1, he.mono s1, c1, (OkG.bnd h1).imp fun xs H2 ⟨ks, G2, ms2, _, s2, r2, c2, h2⟩ => h2 (x :: xs) H2 ms2 (Stp.refl _ _) ⟨x, xs, rfl, Rep.mono s2 _ _ r1, r2⟩ c2⟩⟩
/-- a new object that is not of the heap's numbers keeps the heap -/
theorem Cf.new {ms : Ms} {H : Hp} {G : GH} {p : Addr} {o : HO} (c : Cf T ms H G) (h : H p = none) : Cf T ms (upd H p o) G := by
  have s : Stp ms H ms (upd H p o) := Stp.new h
  refine ⟨c.nd, c.len, fun a ha z => c.hd a ha (upd_none z), fun i d a hi ha => ?_, tabs_new c.tb h⟩
  have key : ∀ (a : Addr) (u : HO), H a = some u → upd H p o a = some u := fun a u e => by rw [upd_ne (ne_of_none e h)]; exact e
  have kd : ∀ {kv ws : List V}, DObj H a kv ws → DObj (upd H p o) a kv ws := fun ⟨kvs, h1, h2⟩ => ⟨kvs, key _ _ h1, h2⟩
  have q := c.obj i d a hi ha
  match d, q with
  | .lst ds, ⟨vs, h1, h2⟩ => exact ⟨vs, key _ _ h1, Reps.mono s _ _ h2⟩
  | .tup [.lst ds], ⟨vs, h1, h2⟩ => exact ⟨vs, key _ _ h1, Reps.mono s _ _ h2⟩
  | .dic ks ds, ⟨kv, ws, h1, h2, h3⟩ => exact ⟨kv, ws, kd h1, Reps.mono s _ _ h2, Reps.mono s _ _ h3⟩
  | .tup [.dic ks ds], ⟨kv, ws, h1, h2, h3⟩ => exact ⟨kv, ws, kd h1, Reps.mono s _ _ h2, Reps.mono s _ _ h3⟩
  | .ins k ds, ⟨dx, vs, h1, h2, h3⟩ => exact ⟨dx, vs, key _ _ h1, h2, Reps.mono s _ _ h3⟩
  | .tup [.tup ks, .tup ds], ⟨kv, ws, ⟨xs, es, h1, h4⟩, h2, h3⟩ => exact ⟨kv, ws, ⟨xs, es, key _ _ h1, h4⟩, Reps.mono s _ _ h2, Reps.mono s _ _ h3⟩
theorem Cf.outN {ms : Ms} {H : Hp} {G : GH} {p : Addr} (c : Cf T ms H G) (h : H p = none) : p ∉ ms.nm := fun z => by
  obtain ⟨i, hi, e⟩ := List.getElem_of_mem z
  have hg : i < G.length := by rw [← c.len]; exact hi
  have q := c.obj i G[i] p (List.getElem?_eq_getElem hg) (by rw [List.getElem?_eq_getElem hi, e])
  generalize G[i] = d at q
  match d, q with
  | .lst ds, ⟨vs, h1, h2⟩ => rw [h] at h1; cases h1
  | .tup [.lst ds], ⟨vs, h1, h2⟩ => rw [h] at h1; cases h1
  | .dic ks ds, ⟨kv, ws, ⟨_, h1, _⟩, _⟩ => rw [h] at h1; cases h1
  | .tup [.dic ks ds], ⟨kv, ws, ⟨_, h1, _⟩, _⟩ => rw [h] at h1; cases h1
  | .ins k ds, ⟨dx, vs, h1, h2, h3⟩ => rw [h] at h1; cases h1
  | .tup [.tup ks, .tup ds], ⟨kv, ws, ⟨xs, es, h1, h4⟩, h2, h3⟩ => rw [h] at h1; cases h1
theorem Cf.out {ms : Ms} {H : Hp} {G : GH} {p : Addr} (c : Cf T ms H G) (h : H p = none) : Out ms p := ⟨c.outN h, fun z => c.hd p z h⟩
/-- one more of the heap's numbers -/
theorem Cf.newR {ms : Ms} {H : Hp} {G : GH} {p : Addr} {o : HO} {d : D} (c : Cf T ms H G) (h : H p = none) (q : MRep T (ms.add p) (upd H p o) p d) : Cf T (ms.add p) (upd H p o) (G ++ [d]) := by
  have c1 : Cf T ms (upd H p o) G := c.new h
  have mo : ∀ {d : D} {v : V}, Rep T ms H d v → Rep T (ms.add p) (upd H p o) d v := fun r => Rep.mono (Stp.newR h) _ _ r
  have mos : ∀ {d : List D} {v : List V}, Reps T ms H d v → Reps T (ms.add p) (upd H p o) d v := fun r => Reps.mono (Stp.newR h) _ _ r
  refine ⟨List.nodup_append.mpr ⟨c.nd, by simp, fun a ha b hb => by rw [List.mem_singleton.mp hb]; exact fun z => (c.out h).1 (z ▸ ha)⟩, by simp [c.len], fun a ha z => c.hd a ha (upd_none z), fun i o' a hi ha => ?_, tabs_new c.tb h⟩
  by_cases hl : i < G.length
  · rw [List.getElem?_append_left hl] at hi
    rw [List.getElem?_append_left (by rw [c.len]; exact hl)] at ha
    have key : ∀ (a : Addr) (u : HO), H a = some u → upd H p o a = some u := fun a u e => by rw [upd_ne (ne_of_none e h)]; exact e
    have kd : ∀ {kv ws : List V}, DObj H a kv ws → DObj (upd H p o) a kv ws := fun ⟨kvs, h1, h2⟩ => ⟨kvs, key _ _ h1, h2⟩
    have q := c.obj i o' a hi ha
    match o', q with
    | .lst ds, ⟨vs, h1, h2⟩ => exact ⟨vs, key _ _ h1, mos h2⟩
    | .tup [.lst ds], ⟨vs, h1, h2⟩ => exact ⟨vs, key _ _ h1, mos h2⟩
    | .dic ks ds, ⟨kv, ws, h1, h2, h3⟩ => exact ⟨kv, ws, kd h1, mos h2, mos h3⟩
    | .tup [.dic ks ds], ⟨kv, ws, h1, h2, h3⟩ => exact ⟨kv, ws, kd h1, mos h2, mos h3⟩
    | .ins k ds, ⟨dx, vs, h1, h2, h3⟩ => exact ⟨dx, vs, key _ _ h1, h2, mos h3⟩
    | .tup [.tup ks, .tup ds], ⟨kv, ws, ⟨xs, es, h1, h4⟩, h2, h3⟩ => exact ⟨kv, ws, ⟨xs, es, key _ _ h1, h4⟩, mos h2, mos h3⟩
  · have e : i = G.length := by
      have := (List.getElem?_eq_some_iff.mp hi).1
      rw [List.length_append, List.length_singleton] at this
      omega
    subst e
    rw [List.getElem?_append_right (Nat.le_refl _)] at hi
    rw [List.getElem?_append_right (by rw [c.len]; exact Nat.le_refl _), c.len] at ha
    simp at hi ha
    subst hi ha
    exact q
/-- an object of the heap is changed -/
theorem Cf.wr {ms : Ms} {H : Hp} {G : GH} {i : Nat} {p : Addr} {o u : HO} {d : D} (c : Cf T ms H G) (hi : ms.nm[i]? = some p) (hp : H p = some u) (ht : ∀ vs, u ≠ .tup vs) (q : MRep T ms (upd H p o) p d) : Cf T ms (upd H p o) (G.set i d) := by
  have hm : p ∈ ms.nm := List.mem_of_getElem? hi
  have s : Stp ms H ms (upd H p o) := Stp.wr hm hp ht
  refine ⟨c.nd, by rw [List.length_set]; exact c.len, fun a ha z => c.hd a ha (upd_none z), fun j o' a hj ha => ?_, tabs_wr c.tb hp (c.wrt hi hp)⟩
  by_cases e : i = j
  · subst e
    have : a = p := Option.some.inj (ha.symm.trans hi)
    subst this
    rw [List.getElem?_set_self'] at hj
    cases z : G[i]? with
    | none => rw [z] at hj; cases hj
    | some x =>
      rw [z] at hj
      cases hj
      exact q
  · rw [List.getElem?_set_ne e] at hj
    have na : a ≠ p := fun z => e (nodup_at c.nd hi (z ▸ ha))
    have key : ∀ (u : HO), H a = some u → upd H p o a = some u := fun u e => by rw [upd_ne na]; exact e
    have kd : ∀ {kv ws : List V}, DObj H a kv ws → DObj (upd H p o) a kv ws := fun ⟨kvs, h1, h2⟩ => ⟨kvs, key _ h1, h2⟩
    have q := c.obj j o' a hj ha
    match o', q with
    | .lst ds, ⟨vs, h1, h2⟩ => exact ⟨vs, key _ h1, Reps.mono s _ _ h2⟩
    | .tup [.lst ds], ⟨vs, h1, h2⟩ => exact ⟨vs, key _ h1, Reps.mono s _ _ h2⟩
    | .dic ks ds, ⟨kv, ws, h1, h2, h3⟩ => exact ⟨kv, ws, kd h1, Reps.mono s _ _ h2, Reps.mono s _ _ h3⟩
    | .tup [.dic ks ds], ⟨kv, ws, h1, h2, h3⟩ => exact ⟨kv, ws, kd h1, Reps.mono s _ _ h2, Reps.mono s _ _ h3⟩
    | .ins k ds, ⟨dx, vs, h1, h2, h3⟩ => exact ⟨dx, vs, key _ h1, h2, Reps.mono s _ _ h3⟩
    | .tup [.tup ks, .tup ds], ⟨kv, ws, ⟨xs, es, h1, h4⟩, h2, h3⟩ => exact ⟨kv, ws, ⟨xs, es, key _ h1, h4⟩, Reps.mono s _ _ h2, Reps.mono s _ _ h3⟩
where
  nodup_at {α : Type} {l : List α} (hN : l.Nodup) {i j : Nat} {x : α} (a : l[i]? = some x) (b : l[j]? = some x) : i = j := by
    obtain ⟨h1, e1⟩ := List.getElem?_eq_some_iff.mp a
    obtain ⟨h2, e2⟩ := List.getElem?_eq_some_iff.mp b
    exact (List.getElem_inj hN).mp (e1.trans e2.symm)
/-- many things at most -/
def small (ds : List D) : Bool := decide (ds.length ≤ sizeLine)
theorem Cf.lstNew {ms : Ms} {H : Hp} {G : GH} {p : Addr} {ds : List D} {vs : List V} (c : Cf T ms H G) (r : Reps T ms H ds vs) (h : H p = none) : Stp ms H ms (upd H p (.lst vs)) ∧ Rep T ms (upd H p (.lst vs)) (.lst ds) (.ref p) ∧ Cf T ms (upd H p (.lst vs)) G :=
  ⟨Stp.new h, ⟨p, vs, rfl, c.out h, upd_same, Reps.mono (Stp.new h) _ _ r⟩, c.new h⟩
theorem Cf.tupNew {ms : Ms} {H : Hp} {G : GH} {p : Addr} {ds : List D} {vs : List V} (c : Cf T ms H G) (r : Reps T ms H ds vs) (h : H p = none) : Stp ms H ms (upd H p (.tup vs)) ∧ Rep T ms (upd H p (.tup vs)) (.tup ds) (.ref p) ∧ Cf T ms (upd H p (.tup vs)) G :=
  ⟨Stp.new h, ⟨p, vs, rfl, upd_same, Reps.mono (Stp.new h) _ _ r⟩, c.new h⟩
theorem Cf.lstNewR {ms : Ms} {H : Hp} {G : GH} {p : Addr} {ds : List D} {vs : List V} (c : Cf T ms H G) (r : Reps T ms H ds vs) (h : H p = none) : Stp ms H (ms.add p) (upd H p (.lst vs)) ∧ Rep T (ms.add p) (upd H p (.lst vs)) (.ref G.length) (.ref p) ∧ Cf T (ms.add p) (upd H p (.lst vs)) (G ++ [.lst ds]) :=
  ⟨Stp.newR h, ⟨p, rfl, by rw [← c.len, List.getElem?_append_right (Nat.le_refl _)]; simp⟩, c.newR h ⟨vs, upd_same, Reps.mono (Stp.newR h) _ _ r⟩⟩
def fTup (fs : FA) : F := fun ρ G => (fs ρ G).bnd fun ds G1 => if small ds then .ok (.tup ds) G1 else .st
def fLst (fs : FA) : F := fun ρ G => (fs ρ G).bnd fun ds G1 => if small ds then .ok (.lst ds) G1 else .st
/-- a list of the heap -/
def fLstR (fs : FA) : F := fun ρ G => (fs ρ G).bnd fun ds G1 => if small ds then .ok (.ref G1.length) (G1 ++ [.lst ds]) else .st
theorem ifst {α β : Type} {rel : Ms → Hp → α → β → Prop} {W : Value → Option Addr → Hp → Prop} {p : Bool} {r : R α} {ms : Ms} {H : Hp} {Q : β → Hp → Prop} (h : OkG T W rel (if p = true then r else .st) ms H Q) : p = true ∧ OkG T W rel r ms H Q := by
  cases p with
  | true => exact ⟨rfl, h⟩
  | false => exact h.elim
theorem j_tup {fs : FA} {x1} (h : JA X T W es fs) : JE X T W (.Tuple es x1 pos) (fTup fs) :=
  PE.imp (pe_tup h) fun σ H Q ⟨ρ, ms, G, he, hc, h⟩ => ⟨ρ, ms, G, he, hc, (OkG.bnd h).imp fun xs H1 ⟨ks, G1, ms1, _, s1, r1, c1, h1⟩ => by
    obtain ⟨hs, h1⟩ := ifst h1
    refine ⟨by rw [r1.len]; exact of_decide_eq_true hs, fun p hp => ?_⟩
    obtain ⟨a1, a2, a3⟩ := c1.tupNew r1 hp
    exact h1 _ _ _ a1 a2 a3⟩
theorem j_lst {fs : FA} (h : JA X T W es fs) : JE X T W (.List es pos) (fLst fs) :=
  PE.imp (pe_lst h) fun σ H Q ⟨ρ, ms, G, he, hc, h⟩ => ⟨ρ, ms, G, he, hc, (OkG.bnd h).imp fun xs H1 ⟨ks, G1, ms1, _, s1, r1, c1, h1⟩ => by
    obtain ⟨hs, h1⟩ := ifst h1
    refine ⟨by rw [r1.len]; exact of_decide_eq_true hs, fun p hp => ?_⟩
    obtain ⟨a1, a2, a3⟩ := c1.lstNew r1 hp
    exact h1 _ _ _ a1 a2 a3⟩
theorem j_lstR {fs : FA} (h : JA X T W es fs) : JE X T W (.List es pos) (fLstR fs) :=
  PE.imp (pe_lst h) fun σ H Q ⟨ρ, ms, G, he, hc, h⟩ => ⟨ρ, ms, G, he, hc, (OkG.bnd h).imp fun xs H1 ⟨ks, G1, ms1, _, s1, r1, c1, h1⟩ => by
    obtain ⟨hs, h1⟩ := ifst h1
    refine ⟨by rw [r1.len]; exact of_decide_eq_true hs, fun p hp => ?_⟩
    obtain ⟨a1, a2, a3⟩ := c1.lstNewR r1 hp
    exact h1 _ _ _ a1 a2 a3⟩
end DL

set_option Elab.async false
set_option linter.all false
set_option maxRecDepth 100000
set_option maxHeartbeats 2000000
set_option autoImplicit false
namespace DL
open PySem L2
variable {X : Cx} {T : TC} {W : WX} {a b c e : Expr} {es : List Expr} {fa fb fc : F} {ga gb gc : FT} {pos : Pos}

/-! ### data -/
mutual
def py : D → PyData
  | .bl b => .bool b
  | .int i => .int i
  | .str x => .str x
  | .tup ds => .tuple (pys ds)
  | .lst ds => .list (pys ds)
  | _ => .none
def pys : List D → List PyData
  | [] => []
  | d :: ds => py d :: pys ds
end
mutual
def isPy : D → Bool
  | .non => true
  | .bl _ => true
  | .int _ => true
  | .str _ => true
  | .tup ds => arePy ds
  | .lst ds => arePy ds
  | _ => false
def arePy : List D → Bool
  | [] => true
  | d :: ds => isPy d && arePy ds
end
def okD (d : D) : Bool := isPy d && SeqAt.shaped (py d)
def eqD (x y : D) : Bool := PyData.eqv (py x) (py y)
section
variable {ms : Ms} {H : Hp} {G : GH}
mutual
theorem dp_of : ∀ (d : D) (v : V), isPy d = true → Rep T ms H d v → Dp T.K H v (py d)
  | .non, v, _, r => by cases r; exact .non
  | .bl b, v, _, r => by cases r; exact .bl b
  | .int i, v, _, r => by cases r; exact .int i
  | .str x, v, _, r => by cases r; exact .str x
  | .tup ds, v, p, r => by
    obtain ⟨a, vs, rfl, h1, h2⟩ := r
    exact .tup (.of h1) (dps_of ds vs p h2)
  | .lst ds, v, p, r => by
    obtain ⟨a, vs, rfl, n, h1, h2⟩ := r
    exact .lst (.of h1) (dps_of ds vs p h2)
theorem dps_of : ∀ (ds : List D) (vs : List V), arePy ds = true → Reps T ms H ds vs → DpAll T.K H vs (pys ds)
  | [], _, _, r => by cases r; exact .nil
  | d :: ds, vs, p, r => by
    obtain ⟨v, u, rfl, h1, h2⟩ := r
    have p' : (isPy d && arePy ds) = true := p
    rw [Bool.and_eq_true] at p'
    exact .cons (dp_of d v p'.1 h1) (dps_of ds u p'.2 h2)
end
/-- what a value is as it stands: an object of the heap by its contents -/
def vw (G : GH) : D → D
  | .ref i => match G[i]? with
    | some (.lst ds) => .lst ds
    | some (.tup [.lst ds]) => .lst ds
    | some (.dic ks ds) => .dic ks ds
    | some (.tup [.dic ks ds]) => .dic ks ds
    | some (.ins c ds) => .ins c ds
    | _ => .non
  | d => d
theorem Cf.get {i : Nat} {o : D} (c : Cf T ms H G) (h : G[i]? = some o) : ∃ a, ms.nm[i]? = some a ∧ MRep T ms H a o := by
  have hi := (List.getElem?_eq_some_iff.mp h).1
  have hm : i < ms.nm.length := by rw [c.len]; exact hi
  have h2 : ms.nm[i]? = some ms.nm[i] := List.getElem?_eq_getElem hm
  exact ⟨_, h2, c.obj i o _ h h2⟩
/-- a list, of the heap or not -/
theorem vw_lst {d : D} {x : V} {ds : List D} (c : Cf T ms H G) (r : Rep T ms H d x) (h : vw G d = .lst ds) : ∃ a vs, x = .ref a ∧ H a = some (.lst vs) ∧ Reps T ms H ds vs := by
  cases d with
  | lst es =>
    cases h
    obtain ⟨a, vs, e, _, h1, h2⟩ := r
    exact ⟨a, vs, e, h1, h2⟩
  | ref i =>
    obtain ⟨a, rfl, ha⟩ := r
    have h' : (match G[i]? with
      | some (.lst ds) => D.lst ds
      | some (.tup [.lst ds]) => .lst ds
      | some (.dic ks ds) => .dic ks ds
      | some (.tup [.dic ks ds]) => .dic ks ds
      | some (.ins c ds) => .ins c ds
      | _ => .non) = .lst ds := h
    split at h'
    · rename_i es hg
      cases h'
      obtain ⟨vs, h1, h2⟩ := c.obj i _ a hg ha
      exact ⟨a, vs, rfl, h1, h2⟩
    · rename_i es hg
      cases h'
      obtain ⟨vs, h1, h2⟩ := c.obj i _ a hg ha
      exact ⟨a, vs, rfl, h1, h2⟩
    all_goals cases h'
  | _ => cases h
theorem vw_dp {d : D} {x : V} (c : Cf T ms H G) (r : Rep T ms H d x) (h : isPy (vw G d) = true) (hn : ∀ i, d = .ref i → ∃ ds, vw G d = .lst ds) : Dp T.K H x (py (vw G d)) := by
  cases d with
  | ref i =>
    obtain ⟨ds, e⟩ := hn i rfl
    obtain ⟨a, vs, rfl, h1, h2⟩ := vw_lst c r e
    rw [e] at h ⊢
    exact .lst (.of h1) (dps_of ds vs h h2)
  | _ => exact dp_of _ x h r
end
/-- == of data (an object of the heap: a list) -/
def okV (G : GH) (d : D) : Bool := okD (vw G d) && (match d with
  | .ref _ => (match vw G d with
    | .lst _ => true
    | _ => false)
  | _ => true)
theorem okV_dp {ms : Ms} {H : Hp} {G : GH} {d : D} {x : V} (c : Cf T ms H G) (r : Rep T ms H d x) (h : okV G d = true) : Dp T.K H x (py (vw G d)) ∧ SeqAt.shaped (py (vw G d)) = true := by
  unfold okV at h
  rw [Bool.and_eq_true] at h
  obtain ⟨h1, h2⟩ := h
  unfold okD at h1
  rw [Bool.and_eq_true] at h1
  refine ⟨vw_dp c r h1.1 fun i e => ?_, h1.2⟩
  subst e
  simp only at h2
  split at h2
  · rename_i ds e
    exact ⟨ds, e⟩
  · cases h2
def oEq : D → D → GH → R D := fun x y G => if okV G x && okV G y then .ok (.bl (eqD (vw G x) (vw G y))) G else .st
def oNe : D → D → GH → R D := fun x y G => if okV G x && okV G y then .ok (.bl (!eqD (vw G x) (vw G y))) G else .st
theorem od_eq : OpD T (rEqD T.K) oEq := fun W ms H G x y dx dy Q rx ry c h => by
  obtain ⟨p, h⟩ := ifst h
  rw [Bool.and_eq_true] at p
  obtain ⟨a1, a2⟩ := okV_dp c rx p.1
  obtain ⟨b1, b2⟩ := okV_dp c ry p.2
  exact ⟨_, _, a1, b1, a2, b2, h _ H ms (Stp.refl _ _) rfl c⟩
theorem od_ne : OpD T (rNeD T.K) oNe := fun W ms H G x y dx dy Q rx ry c h => by
  obtain ⟨p, h⟩ := ifst h
  rw [Bool.and_eq_true] at p
  obtain ⟨a1, a2⟩ := okV_dp c rx p.1
  obtain ⟨b1, b2⟩ := okV_dp c ry p.2
  exact ⟨_, _, a1, b1, a2, b2, h _ H ms (Stp.refl _ _) rfl c⟩
/-- x is None, x is not None -/
def isNon : D → Bool
  | .non => true
  | _ => false
theorem isNon_rep {ms : Ms} {H : Hp} {d : D} {x : V} (r : Rep T ms H d x) : decide (x = .non) = isNon d := by
  cases d with
  | non => cases r; rfl
  | bl b => cases r; rfl
  | int i => cases r; rfl
  | str z => cases r; rfl
  | tup ds => obtain ⟨a, vs, rfl, _⟩ := r; rfl
  | lst ds => obtain ⟨a, vs, rfl, _⟩ := r; rfl
  | dic ks ds => obtain ⟨a, kv, ws, rfl, _⟩ := r; rfl
  | ins c ds => obtain ⟨a, dx, vs, rfl, _⟩ := r; rfl
  | ref i => obtain ⟨a, rfl, _⟩ := r; rfl
  | scr ns => obtain ⟨a, rfl, _⟩ := r; rfl
def oIs : D → D → GH → R D := fun x y G => if isNon y then .ok (.bl (isNon x)) G else .st
def oIsNot : D → D → GH → R D := fun x y G => if isNon y then .ok (.bl (!isNon x)) G else .st
theorem isNon_of {ms : Ms} {H : Hp} {d : D} {x : V} (r : Rep T ms H d x) (h : isNon d = true) : x = .non := by
  cases d <;> first | (cases r; rfl) | cases h
theorem od_is : OpD T (fun x y H Q => y = .non ∧ Q (.bl (decide (x = .non))) H) oIs := fun W ms H G x y dx dy Q rx ry c h => by
  obtain ⟨p, h⟩ := ifst h
  exact ⟨isNon_of ry p, by rw [isNon_rep rx]; exact h _ H ms (Stp.refl _ _) rfl c⟩
theorem od_isnot : OpD T (fun x y H Q => y = .non ∧ Q (.bl (!decide (x = .non))) H) oIsNot := fun W ms H G x y dx dy Q rx ry c h => by
  obtain ⟨p, h⟩ := ifst h
  exact ⟨isNon_of ry p, by rw [isNon_rep rx]; exact h _ H ms (Stp.refl _ _) rfl c⟩

/-! ### numbers -/
def oInt (g : Int → Int → R D) : D → D → GH → R D := fun x y G => match x, y with
  | .int i, .int j => (match g i j with
    | .ok d _ => .ok d G
    | _ => .st)
  | _, _ => .st
/-- an operation of two ints under a condition -/
def o2 (p : Int → Int → Bool) (g : Int → Int → D) : D → D → GH → R D := fun x y G => match x, y with
  | .int i, .int j => if p i j then .ok (g i j) G else .st
  | _, _ => .st
theorem o2_of {p : Int → Int → Bool} {g : Int → Int → D} {W : Value → Option Addr → Hp → Prop} {ms : Ms} {H : Hp} {G : GH} {x y : V} {dx dy : D} {Q : VK} (rx : Rep T ms H dx x) (ry : Rep T ms H dy y) (c : Cf T ms H G)
    (h : OkE T W (o2 p g dx dy G) ms H Q) : ∃ i j, x = .int i ∧ y = .int j ∧ p i j = true ∧ ∀ v, Rep T ms H (g i j) v → Q v H := by
  unfold o2 at h
  split at h
  · obtain ⟨p, h⟩ := ifst h
    exact ⟨_, _, rx, ry, p, fun v r => h v H ms (Stp.refl _ _) r c⟩
  · exact h.elim
theorem od_cmp {q : Int → Int → Bool} : OpD T (rI0 fun i j => .bl (q i j)) (o2 (fun _ _ => true) fun i j => .bl (q i j)) := fun W ms H G x y dx dy Q rx ry c h => by
  obtain ⟨i, j, e1, e2, _, k⟩ := o2_of rx ry c h
  exact ⟨i, j, e1, e2, k _ rfl⟩
abbrev oLt : D → D → GH → R D := o2 (fun _ _ => true) fun i j => .bl (decide (i < j))
abbrev oLe : D → D → GH → R D := o2 (fun _ _ => true) fun i j => .bl (decide (i ≤ j))
abbrev oGt : D → D → GH → R D := o2 (fun _ _ => true) fun i j => .bl (decide (j < i))
abbrev oGe : D → D → GH → R D := o2 (fun _ _ => true) fun i j => .bl (decide (j ≤ i))
theorem od_sub : OpD T (rI0 fun i j => .int (i - j)) (o2 (fun _ _ => true) fun i j => .int (i - j)) := fun W ms H G x y dx dy Q rx ry c h => by
  obtain ⟨i, j, e1, e2, _, k⟩ := o2_of rx ry c h
  exact ⟨i, j, e1, e2, k _ rfl⟩
abbrev oSub : D → D → GH → R D := o2 (fun _ _ => true) fun i j => .int (i - j)
def pDiv (i j : Int) : Bool := decide (0 < j) && decide (j < 1073741824)
abbrev oFdiv : D → D → GH → R D := o2 pDiv fun i j => .int (i / j)
theorem od_fdiv : OpD T (rI CDiv fun i j => .int (i / j)) oFdiv := fun W ms H G x y dx dy Q rx ry c h => by
  obtain ⟨i, j, e1, e2, p, k⟩ := o2_of rx ry c h
  unfold pDiv at p
  rw [Bool.and_eq_true] at p
  exact ⟨i, j, e1, e2, ⟨of_decide_eq_true p.1, of_decide_eq_true p.2⟩, k _ rfl⟩
abbrev oMod : D → D → GH → R D := o2 (fun _ j => decide (0 < j)) fun i j => .int (i % j)
theorem od_mod : OpD T (rI (fun _ j => 0 < j) fun i j => .int (i % j)) oMod := fun W ms H G x y dx dy Q rx ry c h => by
  obtain ⟨i, j, e1, e2, p, k⟩ := o2_of rx ry c h
  exact ⟨i, j, e1, e2, of_decide_eq_true p, k _ rfl⟩
def pPow (i j : Int) : Bool := decide (0 ≤ j) && decide (j ≤ 1000000) && decide (i.natAbs < 2 ^ 64)
abbrev oPow : D → D → GH → R D := o2 pPow fun i j => .int (i ^ j.toNat)
theorem od_pow : OpD T (rI CPow fun i j => .int (i ^ j.toNat)) oPow := fun W ms H G x y dx dy Q rx ry c h => by
  obtain ⟨i, j, e1, e2, p, k⟩ := o2_of rx ry c h
  unfold pPow at p
  rw [Bool.and_eq_true, Bool.and_eq_true] at p
  exact ⟨i, j, e1, e2, ⟨of_decide_eq_true p.1.1, of_decide_eq_true p.1.2, of_decide_eq_true p.2⟩, k _ rfl⟩

/-! ### +, * by kinds -/
def pMul (i j : Int) : Bool := (decide (-(2 ^ 64) < i) && decide (i < 2 ^ 64)) || (decide (-(2 ^ 64) < j) && decide (j < 2 ^ 64))
theorem pMul_ok {i j : Int} (h : pMul i j = true) : CMul i j := by
  unfold pMul at h
  rw [Bool.or_eq_true, Bool.and_eq_true, Bool.and_eq_true] at h
  rcases h with ⟨h1, h2⟩ | ⟨h1, h2⟩
  · exact .inl ⟨of_decide_eq_true h1, of_decide_eq_true h2⟩
  · exact .inr ⟨of_decide_eq_true h1, of_decide_eq_true h2⟩
/-- ints, texts, lists, tuples -/
def oAdd : D → D → GH → R D := fun x y G => match x, y with
  | .int i, .int j => .ok (.int (i + j)) G
  | .str i, .str j => if i.length + j.length ≤ sizeLine then .ok (.str (i ++ j)) G else .st
  | .tup xs, .tup ys => if xs.length + ys.length ≤ sizeLine then .ok (.tup (xs ++ ys)) G else .st
  | x, y => (match vw G x, vw G y with
    | .lst xs, .lst ys => if xs.length + ys.length ≤ sizeLine then .ok (.lst (xs ++ ys)) G else .st
    | _, _ => .st)
def rAddAll (K : PySem.W.Frag) : R2 := fun x y H Q => (rI0 (fun i j => .int (i + j)) x y H Q ∨ (∃ i j, x = .str i ∧ y = .str j ∧ i.length + j.length ≤ sizeLine ∧ Q (.str (i ++ j)) H)) ∨ (rCatA K x y H Q ∨ rCat x y H Q)
theorem op_addAll : OpR X (binaryOp .Add) (rAddAll X.K) := (op_add.or op_add_str).or (op_catA.or op_cat)
theorem rep_lst_at {ms : Ms} {H : Hp} {G : GH} {ds : List D} {p : Addr} {vs : List V} (c : Cf T ms H G) (hp : H p = none) (r : Reps T ms H ds vs) {W : Value → Option Addr → Hp → Prop} {Q : VK} (h : OkE T W (.ok (.lst ds) G) ms H Q) : Q (.ref p) (upd H p (.lst vs)) := by
  obtain ⟨a1, a2, a3⟩ := c.lstNew r hp
  exact h _ _ _ a1 a2 a3
theorem rep_tup_at {ms : Ms} {H : Hp} {G : GH} {ds : List D} {p : Addr} {vs : List V} (c : Cf T ms H G) (hp : H p = none) (r : Reps T ms H ds vs) {W : Value → Option Addr → Hp → Prop} {Q : VK} (h : OkE T W (.ok (.tup ds) G) ms H Q) : Q (.ref p) (upd H p (.tup vs)) := by
  obtain ⟨a1, a2, a3⟩ := c.tupNew r hp
  exact h _ _ _ a1 a2 a3
theorem iflt {α β : Type} {rel : Ms → Hp → α → β → Prop} {W : Value → Option Addr → Hp → Prop} {p : Prop} [Decidable p] {r : R α} {ms : Ms} {H : Hp} {Q : β → Hp → Prop} (h : OkG T W rel (if p then r else .st) ms H Q) : p ∧ OkG T W rel r ms H Q := by
  by_cases q : p
  · rw [if_pos q] at h; exact ⟨q, h⟩
  · rw [if_neg q] at h; exact h.elim
theorem od_add : OpD T (rAddAll T.K) oAdd := fun W ms H G x y dx dy Q rx ry c h => by
  unfold oAdd at h
  split at h
  · exact .inl (.inl ⟨_, _, rx, ry, h _ H ms (Stp.refl _ _) rfl c⟩)
  · obtain ⟨p, h⟩ := iflt h
    exact .inl (.inr ⟨_, _, rx, ry, p, h _ H ms (Stp.refl _ _) rfl c⟩)
  · rename_i xs ys
    obtain ⟨p, h⟩ := iflt h
    obtain ⟨p1, vs, rfl, h1, r1⟩ := rx
    obtain ⟨p2, ws, rfl, h2, r2⟩ := ry
    refine .inr (.inl ⟨p1, p2, vs, ws, rfl, rfl, .of h1, .of h2, by rw [r1.len, r2.len]; exact p, fun e => ?_, fun _ e => ?_, fun _ _ q hq => rep_tup_at c hq (r1.app r2) h⟩)
    · subst e
      have e : xs = [] := by have := r1.len; cases xs with | nil => rfl | cons _ _ => simp at this
      subst e
      exact h _ H ms (Stp.refl _ _) ⟨p2, ws, rfl, h2, r2⟩ c
    · subst e
      have e : ys = [] := by have := r2.len; cases ys with | nil => rfl | cons _ _ => simp at this
      subst e
      rw [List.append_nil] at h
      exact h _ H ms (Stp.refl _ _) ⟨p1, vs, rfl, h1, r1⟩ c
  · split at h
    · rename_i xs ys e1 e2
      obtain ⟨p, h⟩ := iflt h
      obtain ⟨p1, vs, rfl, h1, r1⟩ := vw_lst c rx e1
      obtain ⟨p2, ws, rfl, h2, r2⟩ := vw_lst c ry e2
      exact .inr (.inr ⟨p1, p2, vs, ws, rfl, rfl, h1, h2, by rw [r1.len, r2.len]; exact p, fun q hq => rep_lst_at c hq (r1.app r2) h⟩)
    · exact h.elim
theorem jadd (ha : JE X T W a fa) (hb : JE X T W b fb) (hK : T.K = X.K := by rfl) : JE X T W (.BinOp a .Add b pos) (fBin oAdd fa fb) := j_op op_addAll (by rw [← hK]; exact od_add) ha hb
/-- ints; a list, a tuple by a number -/
def reps (k : Nat) (xs : List D) : List D := (List.replicate k xs).flatten
def oMul : D → D → GH → R D := fun x y G => match x, y with
  | .int i, .int j => if pMul i j then .ok (.int (i * j)) G else .st
  | x, .int k => (match vw G x with
    | .lst xs => if decide (-(2 ^ 63) ≤ k) && decide (k < 2 ^ 63) && decide (xs.length * k.toNat ≤ sizeLine) then .ok (.lst (reps k.toNat xs)) G else .st
    | .tup xs => if !xs.isEmpty && decide (2 ≤ k) && decide (k ≤ 1000) && decide (xs.length ≤ 1000) then .ok (.tup (reps k.toNat xs)) G else .st
    | _ => .st)
  | _, _ => .st
def rMulAll (K : PySem.W.Frag) : R2 := fun x y H Q => rI CMul (fun i j => .int (i * j)) x y H Q ∨ (rRep x y H Q ∨ rRepT K x y H Q)
theorem op_mulAll : OpR X (binaryOp .Mult) (rMulAll X.K) := op_mul.or (op_rep.or op_repT)
theorem Reps.rep {ms : Ms} {H : Hp} {ds : List D} {vs : List V} (r : Reps T ms H ds vs) : ∀ k : Nat, Reps T ms H (reps k ds) (List.replicate k vs).flatten
  | 0 => rfl
  | k + 1 => by
    unfold reps
    rw [List.replicate_succ, List.replicate_succ, List.flatten_cons, List.flatten_cons]
    exact r.app (Reps.rep r k)
theorem vw_tup {ms : Ms} {H : Hp} {G : GH} {d : D} {x : V} {ds : List D} (c : Cf T ms H G) (r : Rep T ms H d x) (h : vw G d = .tup ds) : ∃ a vs, x = .ref a ∧ H a = some (.tup vs) ∧ Reps T ms H ds vs := by
  cases d with
  | tup es =>
    cases h
    exact r
  | ref i =>
    have h' : (match G[i]? with
      | some (.lst ds) => D.lst ds
      | some (.tup [.lst ds]) => .lst ds
      | some (.dic ks ds) => .dic ks ds
      | some (.tup [.dic ks ds]) => .dic ks ds
      | some (.ins c ds) => .ins c ds
      | _ => .non) = .tup ds := h
    split at h' <;> cases h'
  | _ => cases h
theorem od_mul : OpD T (rMulAll T.K) oMul := fun W ms H G x y dx dy Q rx ry c h => by
  unfold oMul at h
  split at h
  · obtain ⟨p, h⟩ := ifst h
    exact .inl ⟨_, _, rx, ry, pMul_ok p, h _ H ms (Stp.refl _ _) rfl c⟩
  · split at h
    · rename_i xs e1
      obtain ⟨p, h⟩ := ifst h
      rw [Bool.and_eq_true, Bool.and_eq_true] at p
      obtain ⟨p1, vs, rfl, h1, r1⟩ := vw_lst c rx e1
      exact .inr (.inl ⟨p1, _, vs, rfl, ry, h1, of_decide_eq_true p.1.1, of_decide_eq_true p.1.2, by rw [r1.len]; exact of_decide_eq_true p.2, fun q hq => rep_lst_at c hq (r1.rep _) h⟩)
    · rename_i xs e1
      obtain ⟨p, h⟩ := ifst h
      rw [Bool.and_eq_true, Bool.and_eq_true, Bool.and_eq_true] at p
      obtain ⟨p1, vs, rfl, h1, r1⟩ := vw_tup c rx e1
      refine .inr (.inr ⟨p1, _, vs, rfl, ry, .of h1, fun z => ?_, of_decide_eq_true p.1.1.2, of_decide_eq_true p.1.2, by rw [r1.len]; exact of_decide_eq_true p.2, fun q hq => rep_tup_at c hq (r1.rep _) h⟩)
      subst z
      have := r1.len
      cases xs with
      | nil => exact absurd p.1.1.1 (by decide)
      | cons _ _ => simp at this
    · exact h.elim
  · exact h.elim
theorem jmul (ha : JE X T W a fa) (hb : JE X T W b fb) (hK : T.K = X.K := by rfl) : JE X T W (.BinOp a .Mult b pos) (fBin oMul fa fb) := j_op op_mulAll (by rw [← hK]; exact od_mul) ha hb

/-! ### x[i] -/
theorem Reps.atI {ms : Ms} {H : Hp} {ds : List D} {vs : List V} (r : Reps T ms H ds vs) {i : Int} {d : D} (h : L2.atI ds i = some d) : ∃ v, L2.atI vs i = some v ∧ Rep T ms H d v := by
  unfold L2.atI at h ⊢
  rw [r.len]
  cases e : ixN ds.length i with
  | none => rw [e] at h; cases h
  | some j =>
    rw [e] at h
    obtain ⟨v, h1, h2⟩ := r.at (i := j) (d := d) h
    exact ⟨v, h1, h2⟩
def oSome (o : Option D) (G : GH) : R D := match o with
  | some d => .ok d G
  | none => .st
/-- a list, a tuple, a text -/
def oIx : D → D → GH → R D := fun x y G => match y with
  | .int i => (match vw G x with
    | .lst ds => oSome (atI ds i) G
    | .tup ds => oSome (atI ds i) G
    | .str z => if z.length ≤ sizeLine then (match atI z.cps.toList i with
      | some k => .ok (.str ⟨#[k]⟩) G
      | none => .st) else .st
    | _ => .st)
  | _ => .st
theorem oSome_of {o : Option D} {G : GH} {W : Value → Option Addr → Hp → Prop} {ms : Ms} {H : Hp} {Q : VK} (h : OkE T W (oSome o G) ms H Q) : ∃ d, o = some d ∧ OkE T W (.ok d G) ms H Q := by
  cases o with
  | some d => exact ⟨d, rfl, h⟩
  | none => exact h.elim
theorem vw_str {ms : Ms} {H : Hp} {G : GH} {d : D} {x : V} {z : Str} (c : Cf T ms H G) (r : Rep T ms H d x) (h : vw G d = .str z) : x = .str z := by
  cases d with
  | str y =>
    cases h
    exact r
  | ref i =>
    have h' : (match G[i]? with
      | some (.lst ds) => D.lst ds
      | some (.tup [.lst ds]) => .lst ds
      | some (.dic ks ds) => .dic ks ds
      | some (.tup [.dic ks ds]) => .dic ks ds
      | some (.ins c ds) => .ins c ds
      | _ => .non) = .str z := h
    split at h' <;> cases h'
  | _ => cases h
theorem od_ix : OpD T (rIx T.K) oIx := fun W ms H G x y dx dy Q rx ry c h => by
  unfold oIx at h
  split at h
  · split at h
    · rename_i ds e1
      obtain ⟨d, hd, h⟩ := oSome_of h
      obtain ⟨p1, vs, rfl, h1, r1⟩ := vw_lst c rx e1
      obtain ⟨v, h2, r2⟩ := r1.atI hd
      exact .inl ⟨p1, vs, _, v, rfl, ry, .of h1, h2, h v H ms (Stp.refl _ _) r2 c⟩
    · rename_i ds e1
      obtain ⟨d, hd, h⟩ := oSome_of h
      obtain ⟨p1, vs, rfl, h1, r1⟩ := vw_tup c rx e1
      obtain ⟨v, h2, r2⟩ := r1.atI hd
      exact .inr (.inl ⟨p1, vs, _, v, rfl, ry, .of h1, h2, h v H ms (Stp.refl _ _) r2 c⟩)
    · rename_i z e1
      obtain ⟨p, h⟩ := iflt h
      have e := vw_str c rx e1
      subst e
      split at h
      · rename_i k e2
        exact .inr (.inr ⟨z, _, k, rfl, ry, p, e2, h _ H ms (Stp.refl _ _) rfl c⟩)
      · exact h.elim
    · exact h.elim
  · exact h.elim
theorem jix (ha : JE X T W a fa) (hb : JE X T W b fb) (hs : PlainIx b := by exact fun _ _ => rfl) (hK : T.K = X.K := by rfl) : JE X T W (.Subscript a b pos) (fBin oIx fa fb) :=
  PE.imp (pe_ix ix_seq ha hb hs) fun _ _ _ h => t_bin (by rw [← hK]; exact od_ix) h

/-! ### slices -/
abbrev FO := Env → GH → R (Option Int)
def OkO (T : TC) (W : Value → Option Addr → Hp → Prop) (r : R (Option Int)) (ms : Ms) (H : Hp) (Q : Option Int → Hp → Prop) : Prop := OkG T W (fun _ _ a b => a = b) r ms H Q
def toOf (T : TC) (W : WX) (f : FO) : TO := fun σ H Q => ∃ ρ ms G, REnv T ms H σ ρ ∧ Cf T ms H G ∧ OkO T (wat W σ) (f ρ G) ms H Q
abbrev JO (X : Cx) (T : TC) (W : WX) (e : Option Expr) (f : FO) : Prop := PO X e (toOf T W f)
def fNoP : FO := fun _ G => .ok none G
def fP (f : F) : FO := fun ρ G => (f ρ G).bnd fun d G1 => match d with
  | .int i => .ok (some i) G1
  | _ => .st
theorem jo_none : JO X T W none fNoP := ⟨fun pins s σ H Q I ⟨ρ, ms, G, he, hc, h⟩ => po_none.run pins s σ H Q I (h none H ms (Stp.refl _ _) rfl hc)⟩
theorem jo_some {f : F} (h : JE X T W e f) : JO X T W (some e) (fP f) := ⟨fun pins s σ H Q I ⟨ρ, ms, G, he, hc, q⟩ => (po_some h).run pins s σ H Q I ⟨ρ, ms, G, he, hc, (OkG.bnd q).imp fun x H1 ⟨k, G1, ms1, _, s1, r1, c1, h1⟩ => by
  cases k with
  | int i => exact ⟨i, r1, h1 (some i) H1 ms1 (Stp.refl _ _) rfl c1⟩
  | _ => exact h1.elim⟩⟩
def cut {α : Type} (xs : List α) (lo hi : Option Int) : List α := (xs.drop (HT.sIx xs.length 0 lo)).take (HT.sIx xs.length xs.length hi - HT.sIx xs.length 0 lo)
def oSl (x : D) (lo hi : Option Int) (G : GH) : R D := match x with
  | .scr ns => .ok (.lst ((cut ns lo hi).map D.int)) G
  | x => match vw G x with
    | .lst ds => .ok (.lst (cut ds lo hi)) G
    | .tup ds => .ok (.tup (cut ds lo hi)) G
    | .str z => if z.length ≤ sizeLine then .ok (.str (cutS z lo hi)) G else .st
    | _ => .st
def fSl (f : F) (gl gh : FO) : F := fun ρ G => (f ρ G).bnd fun x G1 => (gl ρ G1).bnd fun l G2 => (gh ρ G2).bnd fun u G3 => oSl x l u G3
end DL

set_option Elab.async false
set_option linter.all false
set_option maxRecDepth 100000
set_option maxHeartbeats 2000000
set_option autoImplicit false
namespace DL
open PySem L2
variable {X : Cx} {T : TC} {W : WX} {a b c e : Expr} {es : List Expr} {fa fb fc : F} {ga gb gc : FT} {pos : Pos} {st : Stmt} {sts : List Stmt} {s t : FS}

/-! ### statements -/
/-- an outcome, then a statement's -/
def R.go {α : Type} (r : R α) (ρ : Env) (k : α → GH → RS) : RS := match r with
  | .ok a G => k a G
  | .ex e G => .ex e ρ G
  | .st => .st
theorem OkS.go {α β : Type} {rel : Ms → Hp → α → β → Prop} {r : R α} {ρ : Env} {k : α → GH → RS} {ms : Ms} {H : Hp} {σ : St} {D : Ends} (he : REnv T ms H σ ρ) (h : OkS T W (r.go ρ k) ms H D) :
    OkG T (wat W σ) rel r ms H (fun v H1 => ∃ (a : α) (G : GH) (ms1 : Ms), r = .ok a G ∧ Stp ms H ms1 H1 ∧ rel ms1 H1 a v ∧ Cf T ms1 H1 G ∧ OkS T W (k a G) ms1 H1 D) := by
  cases r with
  | ok a G => exact fun v H1 ms1 s1 r1 c1 => ⟨a, G, ms1, rfl, s1, r1, c1, OkS.later s1 h⟩
  | ex e G => exact fun cls dx H1 ms1 s1 x1 c1 => h cls dx σ H1 ms1 s1 (he.mono s1) x1 c1
  | st => exact h
def sNil : FS := fun ρ G => .nx ρ G
def sSeq (s t : FS) : FS := fun ρ G => match s ρ G with
  | .nx ρ1 G1 => t ρ1 G1
  | o => o
theorem jb_nil : JB X T W [] sNil := PSs.imp pss_nil fun D σ H ⟨ρ, ms, G, he, hc, h⟩ => h σ H ms (Stp.refl _ _) he hc
theorem jb_one (h : JS X T W st s) : JB X T W [st] s := pss_one h
theorem jb_cons (h : JS X T W st s) (k : JB X T W sts t) : JB X T W (st :: sts) (sSeq s t) := PSs.imp (pss_cons h k) fun D σ H ⟨ρ, ms, G, he, hc, h⟩ => ⟨ρ, ms, G, he, hc, by
  unfold sSeq at h
  cases q : s ρ G with
  | nx ρ1 G1 => rw [q] at h; exact fun σ1 H1 ms1 s1 e1 c1 => ⟨ρ1, ms1, G1, e1, c1, OkS.later s1 h⟩
  | bk ρ1 G1 => rw [q] at h; exact h
  | ct ρ1 G1 => rw [q] at h; exact h
  | rt d G1 => rw [q] at h; exact h
  | ex e ρ1 G1 => rw [q] at h; exact h
  | st => rw [q] at h; exact h⟩
def sSet (i : Nat) (f : F) : FS := fun ρ G => (f ρ G).go ρ fun d G1 => .nx (ρ.set i (some d)) G1
/-- x = e, x in slot i -/
theorem js_set {i : Nat} {x : Str} {pos' : Pos} (hN : X.N.Nodup) (hi : X.N[i]? = some x) (hx : Loc X.env.scope x) (he : JE X T W e fa) (hs : swapsWith e (some (.Name x pos')) pos.line X.env = pure false := by rfl)
    (hf : X.fn x = true ∨ X.env.scope.names.lookup x = some .local := by first | exact .inl rfl | exact .inr rfl | assumption) : JS X T W (.Assign [.Name x pos'] e pos) (sSet i fa) :=
  PS.imp (ps_set hN hi hx he hs hf) fun D σ H ⟨ρ, ms, G, he, hc, h⟩ => ⟨ρ, ms, G, he, hc, (OkS.go he h).imp fun x H1 ⟨d, G1, ms1, _, s1, r1, c1, h1⟩ =>
    h1 _ H1 ms1 (Stp.refl _ _) ((he.mono s1).set r1 i) c1⟩
def sPar (i j : Nat) (f g : F) : FS := fun ρ G => (f ρ G).go ρ fun d G1 => (g ρ G1).go ρ fun e G2 => .nx ((ρ.set i (some d)).set j (some e)) G2
/-- x, y = e1, e2 -/
theorem js_par {i j : Nat} {x y : Str} {px py pt : Pos} {kt k2 pt2} (hc : X.calm = true) (hN : X.N.Nodup) (hi : X.N[i]? = some x) (hj : X.N[j]? = some y) (hij : i ≠ j)
    (hx : X.env.scope.names.lookup x = some .local) (hy : X.env.scope.names.lookup y = some .local) (ha : JE X T W a fa) (hb : JE X T W b fb)
    (hw : swappedStores [.Tuple [.Name x px, .Name y py] kt pt] (.Tuple [a, b] k2 pt2) X.env = pure (some [x, y]))
    (hs : swapsWithSole [.Tuple [.Name x px, .Name y py] kt pt] (.Tuple [a, b] k2 pt2) pos.line X.env = pure false := by rfl)
    (h1 : starEach (a :: [b]) X.env = (false, eval a X.env) :: starEach [b] X.env := by rfl) (h2 : starEach (b :: []) X.env = (false, eval b X.env) :: starEach [] X.env := by rfl) :
    JS X T W (.Assign [.Tuple [.Name x px, .Name y py] kt pt] (.Tuple [a, b] k2 pt2) pos) (sPar i j fa fb) :=
  PS.imp (ps_par hc hN hi hj hij hx hy (pa_cons ha (pa_cons hb pa_nil h2) h1) hw hs) fun D σ H ⟨ρ, ms, G, he, hc, h⟩ => ⟨ρ, ms, G, he, hc, (OkS.go he h).imp fun x H1 ⟨d, G1, ms1, _, s1, r1, c1, h1⟩ =>
    ⟨ρ, ms1, G1, he.mono s1, c1, (OkS.go (he.mono s1) h1).imp fun y H2 ⟨d2, G2, ms2, _, s2, r2, c2, h2⟩ =>
      ⟨x, y, rfl, h2 _ H2 ms2 (Stp.refl _ _) ((((he.mono s1).mono s2).set (Rep.mono s2 _ _ r1) i).set r2 j) c2⟩⟩⟩
def sExpr (f : F) : FS := fun ρ G => (f ρ G).go ρ fun _ G1 => .nx ρ G1
theorem js_expr (he : JE X T W e fa) (hs : swapsWith e none pos.line X.env = pure false := by rfl) : JS X T W (.Expr e pos) (sExpr fa) :=
  PS.imp (ps_expr he hs) fun D σ H ⟨ρ, ms, G, he, hc, h⟩ => ⟨ρ, ms, G, he, hc, (OkS.go he h).imp fun x H1 ⟨d, G1, ms1, _, s1, r1, c1, h1⟩ => h1 σ H1 ms1 (Stp.refl _ _) (he.mono s1) c1⟩
def sRet (f : F) : FS := fun ρ G => (f ρ G).go ρ fun d G1 => .rt d G1
theorem js_ret (he : JE X T W e fa) : JS X T W (.Return (some e) pos) (sRet fa) :=
  PS.imp (ps_ret he) fun D σ H ⟨ρ, ms, G, he, hc, h⟩ => ⟨ρ, ms, G, he, hc, (OkS.go he h).imp fun x H1 ⟨d, G1, ms1, _, s1, r1, c1, h1⟩ => h1 x H1 ms1 (Stp.refl _ _) r1 c1⟩
def sRetN : FS := fun _ G => .rt .non G
theorem js_retN : JS X T W (.Return none pos) sRetN := PS.imp ps_retN fun D σ H ⟨ρ, ms, G, he, hc, h⟩ => h .non H ms (Stp.refl _ _) rfl hc
theorem js_pass : JS X T W (.Pass pos) sNil := PS.imp ps_pass fun D σ H ⟨ρ, ms, G, he, hc, h⟩ => h σ H ms (Stp.refl _ _) he hc
def sBk : FS := fun ρ G => .bk ρ G
def sCt : FS := fun ρ G => .ct ρ G
theorem js_bk : JS X T W (.Break pos) sBk := PS.imp ps_break fun D σ H ⟨ρ, ms, G, he, hc, h⟩ => h σ H ms (Stp.refl _ _) he hc
theorem js_ct : JS X T W (.Continue pos) sCt := PS.imp ps_continue fun D σ H ⟨ρ, ms, G, he, hc, h⟩ => h σ H ms (Stp.refl _ _) he hc
def sIf (g : FT) (s t : FS) : FS := fun ρ G => (g ρ G).go ρ fun b G1 => match b with
  | true => s ρ G1
  | false => t ρ G1
theorem js_if {sts' : List Stmt} {g : FT} (hc : JT X T W c g) (ha : JB X T W sts s) (hb : JB X T W sts' t) : JS X T W (.If c sts sts' pos) (sIf g s t) :=
  PS.imp (ps_if hc ha hb) fun D σ H ⟨ρ, ms, G, he, hc, h⟩ => ⟨ρ, ms, G, he, hc, (OkS.go he h).imp fun x H1 ⟨d, G1, ms1, _, s1, r1, c1, h1⟩ => by
    subst r1
    cases d with
    | true => rw [if_pos rfl]; exact ⟨ρ, ms1, G1, he.mono s1, c1, h1⟩
    | false => rw [if_neg Bool.false_ne_true]; exact ⟨ρ, ms1, G1, he.mono s1, c1, h1⟩⟩

/-! ### while -/
def loopW (g : FT) (s : FS) : Nat → Env → GH → RS
  | 0, _, _ => .st
  | n + 1, ρ, G => (g ρ G).go ρ fun b G1 => match b with
    | false => .nx ρ G1
    | true => match s ρ G1 with
      | .nx ρ2 G2 => loopW g s n ρ2 G2
      | .ct ρ2 G2 => loopW g s n ρ2 G2
      | .bk ρ2 G2 => .nx ρ2 G2
      | o => o
def sWhile (n : Nat) (g : FT) (s : FS) : FS := fun ρ G => loopW g s n ρ G
theorem js_while {g : FT} (n : Nat) (hp : PassesOwn (model X.prog X.w) X.A X.env X.xe) (hc : JT X T W c g) (hb : JB X T W sts s) : JS X T W (.While c sts [] pos) (sWhile n g s) :=
  PS.imp (ps_while hp hc hb) fun D σ H ⟨ρ, ms, G, he, hc, h⟩ => by
    refine ⟨fun m σ H => ∃ ρ ms G, REnv T ms H σ ρ ∧ Cf T ms H G ∧ OkS T W (loopW g s m ρ G) ms H D, ⟨n, ρ, ms, G, he, hc, h⟩, ?_⟩
    rintro m σ H ⟨ρ, ms, G, he, hc, h⟩
    cases m with
    | zero => exact h.elim
    | succ m =>
      refine ⟨ρ, ms, G, he, hc, (OkS.go he h).imp fun x H1 ⟨d, G1, ms1, _, s1, r1, c1, h1⟩ => ?_⟩
      subst r1
      cases d with
      | false => rw [if_neg Bool.false_ne_true]; exact h1 σ H1 ms1 (Stp.refl _ _) (he.mono s1) c1
      | true =>
        rw [if_pos rfl]
        refine ⟨fun σ' H' => ∃ ρ ms G, REnv T ms H' σ' ρ ∧ Cf T ms H' G ∧ OkS T W (loopW g s m ρ G) ms H' D, fun σ' H' q => ⟨m, Nat.lt_succ_self m, q⟩, ρ, ms1, G1, he.mono s1, c1, ?_⟩
        simp only at h1
        cases q : s ρ G1 with
        | nx ρ2 G2 => rw [q] at h1; exact fun σ2 H2 ms2 s2 e2 c2 => ⟨ρ2, ms2, G2, e2, c2, OkS.later s2 h1⟩
        | ct ρ2 G2 => rw [q] at h1; exact fun σ2 H2 ms2 s2 e2 c2 => ⟨ρ2, ms2, G2, e2, c2, OkS.later s2 h1⟩
        | bk ρ2 G2 => rw [q] at h1; exact h1
        | rt d G2 => rw [q] at h1; exact h1
        | ex e ρ2 G2 => rw [q] at h1; exact h1
        | st => rw [q] at h1; exact h1

/-! ### targets -/
abbrev FG := D → Env → GH → Option (Env × GH)
/-- the slots but those are as they were -/
def SameS (own : List Nat) (σ0 σ : St) : Prop := σ.length = σ0.length ∧ ∀ i, i ∉ own → σ[i]? = σ0[i]?
def OkT (T : TC) (own : List Nat) (σ0 : St) (r : Option (Env × GH)) (ms : Ms) (H : Hp) (Q : St → Hp → Prop) : Prop := match r with
  | some (ρ, G) => ∀ σ H' ms', SameS own σ0 σ → Stp ms H ms' H' → REnv T ms' H' σ ρ → Cf T ms' H' G → Q σ H'
  | none => False
def tgOf (T : TC) (own : List Nat) (g : FG) : TG := fun v σ H Q => ∃ d ρ ms G, Rep T ms H d v ∧ REnv T ms H σ ρ ∧ Cf T ms H G ∧ OkT T own σ (g d ρ G) ms H Q
abbrev JG (X : Cx) (T : TC) (own : List Nat) (e : Expr) (g : FG) : Prop := PG X e (tgOf T own g)
def gSlot (i : Nat) : FG := fun d ρ G => some (ρ.set i (some d), G)
theorem PG.imp {t t' : TG} (h : PG X e t) (k : ∀ v σ H Q, t' v σ H Q → t v σ H Q) : PG X e t' := ⟨fun pins s σ H v u Q I r q => h.run pins s σ H v u Q I r (k v σ H Q q)⟩
theorem jg_name {own : List Nat} {i : Nat} {x : Str} (hN : X.N.Nodup) (hi : X.N[i]? = some x) (hx : Loc X.env.scope x) (ho : i ∈ own := by decide) (hf : X.fn x = true ∨ X.env.scope.names.lookup x = some .local := by first | exact .inl rfl | exact .inr rfl | assumption) : JG X T own (.Name x pos) (gSlot i) :=
  PG.imp (pg_name hN hi hx hf) fun v σ H Q ⟨d, ρ, ms, G, r, he, hc, h⟩ => h _ H ms ⟨List.length_set, fun j hj => List.getElem?_set_ne fun z => hj (by rw [← z]; exact ho)⟩ (Stp.refl _ _) (he.set r i) hc
/-- several targets, one value each -/
abbrev FGs := List D → Env → GH → Option (Env × GH)
def tgsOf (T : TC) (own : List Nat) (g : FGs) : TGs := fun vs σ H Q => ∃ ds ρ ms G, Reps T ms H ds vs ∧ REnv T ms H σ ρ ∧ Cf T ms H G ∧ OkT T own σ (g ds ρ G) ms H Q
abbrev JGs (X : Cx) (T : TC) (own : List Nat) (es : List Expr) (g : FGs) : Prop := PGs X es (tgsOf T own g)
def gsNil : FGs := fun ds ρ G => match ds with
  | [] => some (ρ, G)
  | _ => none
def gsCons (g : FG) (k : FGs) : FGs := fun ds ρ G => match ds with
  | d :: ds => (match g d ρ G with
    | some (ρ1, G1) => k ds ρ1 G1
    | none => none)
  | [] => none
theorem jgs_nil {own : List Nat} : JGs X T own [] gsNil := ⟨fun pins s σ H vs us Q I r ⟨ds, ρ, ms, G, rs, he, hc, h⟩ => by
  cases ds with
  | nil => cases rs; exact pgs_nil.run pins s σ H [] us Q I r ⟨rfl, h σ H ms ⟨rfl, fun _ _ => rfl⟩ (Stp.refl _ _) he hc⟩
  | cons d ds => exact h.elim⟩
theorem jgs_cons {own : List Nat} {g : FG} {k : FGs} (hg : JG X T own e g) (hk : JGs X T own es k)
    (hs : (assignEach (e :: es) X.env).map (·.2) = assign e X.env :: (assignEach es X.env).map (·.2) := by rfl) : JGs X T own (e :: es) (gsCons g k) :=
  ⟨fun pins s σ H vs us Q I r ⟨ds, ρ, ms, G, rs, he, hc, h⟩ => by
    cases ds with
    | nil => exact h.elim
    | cons d ds =>
      obtain ⟨v, vr, rfl, r1, r2⟩ := rs
      refine (pgs_cons hg hk hs).run pins s σ H (v :: vr) us Q I r ⟨v, vr, rfl, d, ρ, ms, G, r1, he, hc, ?_⟩
      unfold gsCons at h
      simp only at h
      cases q : g d ρ G with
      | none => rw [q] at h; exact h.elim
      | some p => rw [q] at h; exact fun σ1 H1 ms1 z s1 e1 c1 => ⟨ds, p.1, ms1, p.2, Reps.mono s1 _ _ r2, e1, c1, later z s1 h⟩⟩
where
  later {T : TC} {own : List Nat} {σ0 σ1 : St} {r : Option (Env × GH)} {ms ms' : Ms} {H H' : Hp} {Q : St → Hp → Prop} (z : SameS own σ0 σ1) (s : Stp ms H ms' H') (h : OkT T own σ0 r ms H Q) : OkT T own σ1 r ms' H' Q := by
    cases r with
    | none => exact h
    | some p => exact fun σ H2 ms2 z2 s2 e2 c2 => h σ H2 ms2 ⟨z2.1.trans z.1, fun i hi => (z2.2 i hi).trans (z.2 i hi)⟩ (s.trans s2) e2 c2
/-- x, y, .. = a tuple of as many -/
def gTupD (k : FGs) : FG := fun d ρ G => match d with
  | .tup ds => k ds ρ G
  | _ => none
theorem jg_tup {own : List Nat} {k : FGs} {kk : Nat} {n : Nat} (hc : X.calm = true) (h : JGs X T own es k) (hk : ∀ ds ρ G, k ds ρ G ≠ none → ds.length = n) (hn : (assignEach es X.env).length = n := by rfl) (hst : (assignEach es X.env).findIdx? (·.1) = none := by rfl)
    (hK : T.K = X.K := by rfl) : JG X T own (.Tuple es kk pos) (gTupD k) :=
  PG.imp (pg_tup hc h hn hst) fun v σ H Q ⟨d, ρ, ms, G, r, he, hcf, h⟩ => by
    cases d with
    | tup ds =>
      obtain ⟨a, vs, rfl, h1, r1⟩ := r
      refine ⟨a, vs, rfl, .of h1, ?_, ds, ρ, ms, G, r1, he, hcf, h⟩
      rw [r1.len]
      refine hk ds ρ G fun z => ?_
      have h' : OkT T own σ (k ds ρ G) ms H Q := h
      rw [z] at h'
      exact h'
    | _ => exact h.elim
theorem gs_len0 : ∀ ds ρ G, gsNil ds ρ G ≠ none → ds.length = 0 := fun ds ρ G h => by
  cases ds with
  | nil => rfl
  | cons d ds => exact absurd rfl h
theorem gs_len1 {g : FG} {k : FGs} {n : Nat} (hk : ∀ ds ρ G, k ds ρ G ≠ none → ds.length = n) : ∀ ds ρ G, gsCons g k ds ρ G ≠ none → ds.length = n + 1 := fun ds ρ G h => by
  cases ds with
  | nil => exact absurd rfl h
  | cons d ds =>
    unfold gsCons at h
    simp only at h
    cases q : g d ρ G with
    | none => rw [q] at h; exact absurd rfl h
    | some p => rw [q] at h; rw [List.length_cons, hk _ _ _ h]
/-- target = e -/
def sAsg (g : FG) (f : F) : FS := fun ρ G => (f ρ G).go ρ fun d G1 => match g d ρ G1 with
  | some (ρ1, G2) => .nx ρ1 G2
  | none => .st
theorem js_asg {own : List Nat} {tg : Expr} {g : FG} (he : JE X T W e fa) (hg : JG X T own tg g) (hs : swapsWithSole [tg] e pos.line X.env = pure false := by rfl) (hw : swappedStores [tg] e X.env = pure none := by rfl)
    (h1 : (assignEach [tg] X.env).map (·.2) = [assign tg X.env] := by rfl) : JS X T W (.Assign [tg] e pos) (sAsg g fa) :=
  PS.imp (ps_asg he hg hs hw h1) fun D σ H ⟨ρ, ms, G, he, hc, h⟩ => ⟨ρ, ms, G, he, hc, (OkS.go he h).imp fun x H1 ⟨d, G1, ms1, _, s1, r1, c1, h1⟩ => ⟨d, ρ, ms1, G1, r1, he.mono s1, c1, by
    cases q : g d ρ G1 with
    | none => rw [q] at h1; exact h1.elim
    | some p => rw [q] at h1; exact fun σ1 H2 ms2 _ s2 e2 c2 => h1 σ1 H2 ms2 s2 e2 c2⟩⟩

/-! ### what is walked -/
/-- an iterator that gives the items, whatever happens to the heap's objects -/
structure Gives (T : TC) (J : It) (ds : List D) (ms : Ms) (H : Hp) : Prop where
  w : ∃ (S : Hp → Prop) (Y : Nat → Hp → V → Hp → Prop), Walk J ds.length S Y ∧ (∀ ms' H', Stp ms H ms' H' → S H') ∧
    ∀ (i : Nat) (ms1 : Ms) (H1 : Hp) (G : GH) (x : V) (H2 : Hp) (d : D), Stp ms H ms1 H1 → Cf T ms1 H1 G → ds[i]? = some d → Y i H1 x H2 → Stp ms1 H1 ms1 H2 ∧ Rep T ms1 H2 d x ∧ Cf T ms1 H2 G
def tiOf (T : TC) (W : WX) (f : FA) : TI := fun σ H Q => ∃ ρ ms G, REnv T ms H σ ρ ∧ Cf T ms H G ∧ OkG T (wat W σ) (fun ms H ds J => Gives T J ds ms H) (f ρ G) ms H Q
abbrev JI (X : Cx) (T : TC) (W : WX) (tg iter : Expr) (f : FA) : Prop := PI X tg iter (tiOf T W f)
theorem PI.imp {tg iter : Expr} {t t' : TI} (h : PI X tg iter t) (k : ∀ σ H Q, t' σ H Q → t σ H Q) : PI X tg iter t' := ⟨fun pins s σ H R I q => h.run pins s σ H R I (k σ H R q)⟩
theorem PI.or {tg iter : Expr} {t t' : TI} (h : PI X tg iter t) (h' : PI X tg iter t') : PI X tg iter (fun σ H Q => t σ H Q ∨ t' σ H Q) := ⟨fun pins s σ H R I q => by
  rcases q with q | q
  · exact h.run pins s σ H R I q
  · exact h'.run pins s σ H R I q⟩
theorem gives_tup {ms : Ms} {H : Hp} {ds : List D} {vs : List V} {a : Addr} (h : H a = some (.tup vs)) (r : Reps T ms H ds vs) (K : PySem.W.Frag) : Gives T (Itt K a) ds ms H :=
  ⟨fun H => SqT K H a vs, YAt vs, by rw [← r.len]; exact walk_tup (K := K) (a := a) (xs := vs), fun ms' H' s => .of (s.tups a _ h), fun i ms1 H1 G x H2 d s c hd ⟨e, hx⟩ => by
    subst e
    obtain ⟨v, hv, rv⟩ := (Reps.mono s _ _ r).at hd
    rw [hx] at hv
    cases hv
    exact ⟨Stp.refl _ _, rv, c⟩⟩
theorem gives_lst {ms : Ms} {H : Hp} {ds : List D} {vs : List V} {a : Addr} (h : H a = some (.lst vs)) (n : a ∉ ms.nm) (r : Reps T ms H ds vs) (K : PySem.W.Frag) : Gives T (Itl K a) ds ms H :=
  ⟨fun H => SqL K H a vs, YAt vs, by rw [← r.len]; exact walk_list (K := K) (a := a) (xs := vs), fun ms' H' s => .of (s.keep a _ h n (by intro _ z; cases z)), fun i ms1 H1 G x H2 d s c hd ⟨e, hx⟩ => by
    subst e
    obtain ⟨v, hv, rv⟩ := (Reps.mono s _ _ r).at hd
    rw [hx] at hv
    cases hv
    exact ⟨Stp.refl _ _, rv, c⟩⟩
def signs (z : Str) : List D := z.cps.toList.map fun k => D.str ⟨#[k]⟩
theorem gives_str {ms : Ms} {H : Hp} (z : Str) : Gives T (Its z) (signs z) ms H :=
  ⟨fun _ => True, fun i H v H' => H' = H ∧ ∃ c, z.cps[i]? = some c ∧ v = .str ⟨#[c]⟩, by unfold signs; rw [List.length_map, Array.length_toList]; exact walk_str (z := z), fun _ _ _ => trivial, fun i ms1 H1 G x H2 d s c hd ⟨e, k, hk, hx⟩ => by
    subst e hx
    unfold signs at hd
    rw [List.getElem?_map, Array.getElem?_toList, hk] at hd
    cases hd
    exact ⟨Stp.refl _ _, rfl, c⟩⟩
def upTo (lo : Int) (n : Nat) : List D := (List.range n).map fun (i : Nat) => D.int (lo + (i : Int))
theorem gives_range {ms : Ms} {H : Hp} (lo : Int) (n : Nat) : Gives T (Itr lo n) (upTo lo n) ms H :=
  ⟨fun _ => True, YFn fun i => .int (lo + i), by unfold upTo; rw [List.length_map, List.length_range]; exact walk_range, fun _ _ _ => trivial, fun i ms1 H1 G x H2 d s c hd ⟨e, hx⟩ => by
    subst e hx
    unfold upTo at hd
    rw [List.getElem?_map] at hd
    cases q : (List.range n)[i]? with
    | none => rw [q] at hd; cases hd
    | some j =>
      rw [q] at hd
      cases hd
      have := List.getElem?_eq_some_iff.mp q
      obtain ⟨h1, h2⟩ := this
      rw [List.getElem_range] at h2
      subst h2
      exact ⟨Stp.refl _ _, rfl, c⟩⟩
/-- the items of a value: a tuple, a list that is not the heap's, a text -/
def items : D → Option (List D)
  | .tup ds => some ds
  | .lst ds => some ds
  | .str z => some (signs z)
  | _ => none
def fItems (f : F) : FA := fun ρ G => (f ρ G).bnd fun d G1 => match items d with
  | some ds => .ok ds G1
  | none => .st
theorem ji_val {tg : Expr} (he : JE X T W e fa) : JI X T W tg e (fItems fa) :=
  PI.imp (PI.or (pi_tup he) (PI.or (pi_list he) (pi_str he))) fun σ H Q ⟨ρ, ms, G, he, hc, h⟩ => by
    have key : ∀ (d : D) (G1 : GH), fa ρ G = .ok d G1 → OkG T (wat W σ) (fun ms H ds J => Gives T J ds ms H) (match items d with | some ds => R.ok ds G1 | none => R.st) ms H Q → iTup X.K (tOf T W fa) σ H Q ∨ iList X.K (tOf T W fa) σ H Q ∨ iStr (tOf T W fa) σ H Q := fun d G1 e h => by
      cases d with
      | tup ds => exact .inl ⟨ρ, ms, G, he, hc, by rw [e]; exact fun v H1 ms1 s1 ⟨a, vs, e1, h1, r1⟩ c1 => ⟨a, e1, ⟨vs, .of h1⟩, h _ H1 ms1 s1 (gives_tup h1 r1 _) c1⟩⟩
      | lst ds => exact .inr (.inl ⟨ρ, ms, G, he, hc, by rw [e]; exact fun v H1 ms1 s1 ⟨a, vs, e1, n1, h1, r1⟩ c1 => ⟨a, e1, ⟨vs, .of h1⟩, h _ H1 ms1 s1 (gives_lst h1 n1.1 r1 _) c1⟩⟩)
      | str z => exact .inr (.inr ⟨ρ, ms, G, he, hc, by rw [e]; exact fun v H1 ms1 s1 e1 c1 => ⟨z, e1, h _ H1 ms1 s1 (gives_str z) c1⟩⟩)
      | _ => exact h.elim
    unfold fItems at h
    cases q : fa ρ G with
    | ok d G1 => rw [q] at h; exact key d G1 q h
    | ex e G1 => rw [q] at h; exact .inl ⟨ρ, ms, G, he, hc, by rw [q]; exact h⟩
    | st => rw [q] at h; exact h.elim
/-- range(n), range(a, b) -/
def inR (i : Int) : Bool := decide (-(2 ^ 62) ≤ i) && decide (i < 2 ^ 62)
theorem inR_of {i : Int} (h : inR i = true) : -(2 ^ 62) ≤ i ∧ i < 2 ^ 62 := by
  unfold inR at h
  rw [Bool.and_eq_true] at h
  exact ⟨of_decide_eq_true h.1, of_decide_eq_true h.2⟩
def rng1 (f : F) : FA := fun ρ G => (f ρ G).bnd fun d G1 => match d with
  | .int j => if inR j then .ok (upTo 0 j.toNat) G1 else .st
  | _ => .st
def rng2 (f g : F) : FA := fun ρ G => (f ρ G).bnd fun d G1 => (g ρ G1).bnd fun e G2 => match d, e with
  | .int i, .int j => if inR i && inR j then .ok (upTo i (j - i).toNat) G2 else .st
  | _, _ => .st
theorem ji_range1 {tg : Expr} {p : Pos} (hg : Gl X "range") (hm : X.mg "range" = none) (he : JE X T W e fa) (hs : starEach [e] X.env = [(false, eval e X.env)] := by rfl) : JI X T W tg (.Call (.Name "range" p) [e] [] pos) (rng1 fa) :=
  PI.imp (pi_range1 hg hm (pa_cons he pa_nil hs) hs) fun σ H Q ⟨ρ, ms, G, he, hc, h⟩ => ⟨ρ, ms, G, he, hc, (OkG.bnd h).imp fun x H1 ⟨d, G1, ms1, _, s1, r1, c1, h1⟩ => by
    cases d with
    | int j =>
      obtain ⟨p, h1⟩ := ifst h1
      have q := inR_of p
      cases r1
      exact ⟨j, rfl, q.1, q.2, h1 _ H1 ms1 (Stp.refl _ _) (gives_range 0 _) c1⟩
    | _ => exact h1.elim⟩
theorem ji_range2 {tg : Expr} {p : Pos} (hg : Gl X "range") (hm : X.mg "range" = none) (ha : JE X T W a fa) (hb : JE X T W b fb) (hs : starEach [a, b] X.env = [(false, eval a X.env), (false, eval b X.env)] := by rfl)
    (hs2 : starEach [b] X.env = [(false, eval b X.env)] := by rfl) : JI X T W tg (.Call (.Name "range" p) [a, b] [] pos) (rng2 fa fb) :=
  PI.imp (pi_range2 hg hm (pa_cons ha (pa_cons hb pa_nil hs2) (by rw [hs, hs2])) hs hs2) fun σ H Q ⟨ρ, ms, G, he, hc, h⟩ => ⟨ρ, ms, G, he, hc, (OkG.bnd h).imp fun x H1 ⟨d, G1, ms1, _, s1, r1, c1, h1⟩ =>
    ⟨ρ, ms1, G1, he.mono s1, c1, (OkG.bnd h1).imp fun y H2 ⟨d2, G2, ms2, _, s2, r2, c2, h2⟩ => by
      cases d with
      | int i =>
        cases d2 with
        | int j =>
          obtain ⟨p, h2⟩ := ifst h2
          rw [Bool.and_eq_true] at p
          have q1 := inR_of p.1
          have q2 := inR_of p.2
          cases r1
          cases r2
          exact ⟨i, j, rfl, ⟨q1.1, q1.2, q2.1, q2.2⟩, h2 _ H2 ms2 (Stp.refl _ _) (gives_range i _) c2⟩
        | _ => exact h2.elim
      | _ => exact h2.elim⟩⟩

/-! ### for -/
def loopF (g : FG) (s : FS) : List D → Env → GH → RS
  | [], ρ, G => .nx ρ G
  | d :: ds, ρ, G => match g d ρ G with
    | none => .st
    | some (ρ1, G1) => match s ρ1 G1 with
      | .nx ρ2 G2 => loopF g s ds ρ2 G2
      | .ct ρ2 G2 => loopF g s ds ρ2 G2
      | .bk ρ2 G2 => .nx ρ2 G2
      | o => o
def sFor (f : FA) (g : FG) (s : FS) : FS := fun ρ G => (f ρ G).go ρ fun ds G1 => loopF g s ds ρ G1
theorem drop_at {α : Type} {ds : List α} {i : Nat} (h : i < ds.length) : ∃ d, ds[i]? = some d ∧ ds.drop i = d :: ds.drop (i + 1) :=
  ⟨ds[i], List.getElem?_eq_getElem h, List.drop_eq_getElem_cons h⟩
theorem js_for {own : List Nat} {tg : Expr} {f : FA} {g : FG} (hp : PassesOwn (model X.prog X.w) X.A X.env X.xe) (hc : X.calm = true) (hi : JI X T W tg e f) (hg : JG X T own tg g) (hb : JB X T W sts s)
    (hs : ∀ x, foldedSetIterable e X.env x = pure x := by intro _; rfl) : JS X T W (.For tg e sts [] pos) (sFor f g s) :=
  PS.imp (ps_for hp hc hi hg hb hs) fun D σ H ⟨ρ, ms, G, he, hcf, h⟩ => ⟨ρ, ms, G, he, hcf, (OkS.go he h).imp fun J H1 ⟨ds, G1, ms1, _, s1, ⟨S, Y, w, hS, hY⟩, c1, h1⟩ => by
    refine for_it w (fun i σ H => ∃ ρ ms G, Stp ms1 H1 ms H ∧ REnv T ms H σ ρ ∧ Cf T ms H G ∧ OkS T W (loopF g s (ds.drop i) ρ G) ms H D) ⟨ρ, ms1, G1, Stp.refl _ _, he.mono s1, c1, by rw [List.drop_zero]; exact h1⟩
      (fun i σ H _ ⟨ρ, ms, G, s2, _⟩ => hS ms H s2) (fun i x σ H H' hi ⟨ρ, ms, G, s2, e2, c2, h2⟩ y => ?_) (fun σ H ⟨ρ, ms, G, s2, e2, c2, h2⟩ => ?_)
    · obtain ⟨d, hd, e⟩ := drop_at hi
      obtain ⟨s3, r3, c3⟩ := hY i ms H G x H' d s2 c2 hd y
      rw [e] at h2
      refine ⟨d, ρ, ms, G, r3, e2.mono s3, c3, ?_⟩
      unfold loopF at h2
      cases q : g d ρ G with
      | none => rw [q] at h2; exact h2.elim
      | some p =>
        rw [q] at h2
        intro σ4 H4 ms4 _ s4 e4 c4
        refine ⟨p.1, ms4, p.2, e4, c4, ?_⟩
        have s5 := s2.trans (s3.trans s4)
        simp only at h2
        cases q2 : s p.1 p.2 with
        | nx ρ2 G2 => rw [q2] at h2; exact fun σ6 H6 ms6 s6 e6 c6 => ⟨ρ2, ms6, G2, s5.trans s6, e6, c6, OkS.later ((s3.trans s4).trans s6) h2⟩
        | ct ρ2 G2 => rw [q2] at h2; exact fun σ6 H6 ms6 s6 e6 c6 => ⟨ρ2, ms6, G2, s5.trans s6, e6, c6, OkS.later ((s3.trans s4).trans s6) h2⟩
        | bk ρ2 G2 => rw [q2] at h2; exact fun σ6 H6 ms6 s6 e6 c6 => h2 σ6 H6 ms6 ((s3.trans s4).trans s6) e6 c6
        | rt d2 G2 => rw [q2] at h2; exact fun v H6 ms6 s6 e6 c6 => h2 v H6 ms6 ((s3.trans s4).trans s6) e6 c6
        | ex e2 ρ2 G2 => rw [q2] at h2; exact fun cls dx σ6 H6 ms6 s6 e6 x6 c6 => h2 cls dx σ6 H6 ms6 ((s3.trans s4).trans s6) e6 x6 c6
        | st => rw [q2] at h2; exact h2.elim
    · rw [List.drop_length] at h2
      exact h2 σ H ms (Stp.refl _ _) e2 c2⟩
end DL

set_option Elab.async false
set_option linter.all false
set_option maxRecDepth 100000
set_option maxHeartbeats 2000000
set_option autoImplicit false
namespace DL
open PySem L2
variable {X : Cx} {T : TC} {W : WX} {a b c e : Expr} {es : List Expr} {fa fb fc : F} {ga gb gc : FT} {pos : Pos} {st : Stmt} {sts : List Stmt} {s t : FS}

/-! ### list comprehensions -/
def WN : WX := fun _ _ _ _ => False
abbrev JTs (X : Cx) (T : TC) (W : WX) (es : List Expr) (g : FT) : Prop := PTs X es (ttOf T W g)
def gYes : FT := fun _ G => .ok true G
theorem PTs.imp {t t' : TT} (h : PTs X es t) (k : ∀ σ H Q, t' σ H Q → t σ H Q) : PTs X es t' := ⟨fun pins s σ H Q I q => h.run pins s σ H Q I (k σ H Q q)⟩
theorem jts_nil : JTs X T W [] gYes := PTs.imp pts_nil fun σ H Q ⟨ρ, ms, G, he, hc, h⟩ => h true H ms (Stp.refl _ _) rfl hc
theorem jts_one {g : FT} (h : JT X T W e g) : JTs X T W [e] g := pts_one h
def wipeE (ρ : Env) : List Nat → Env
  | [] => ρ
  | v :: vs => (wipeE ρ vs).set v none
theorem REnv.wipe {ms : Ms} {H : Hp} {σ : St} {ρ : Env} (h : REnv T ms H σ ρ) : ∀ vs : List Nat, REnv T ms H (L2.wipe σ vs) (wipeE ρ vs)
  | [] => h
  | v :: vs => by
    have ih := REnv.wipe h vs
    unfold L2.wipe wipeE
    refine ⟨by rw [List.length_set, List.length_set]; exact ih.len, fun j d hj => ?_⟩
    by_cases q : v = j
    · subst q
      rw [List.getElem?_set_self'] at hj
      cases z : (wipeE ρ vs)[v]? with
      | none => rw [z] at hj; cases hj
      | some x => rw [z] at hj; cases hj
    · rw [List.getElem?_set_ne q] at hj ⊢
      exact ih.at_ j d hj
theorem wipe_same {σ0 σ : St} {own : List Nat} (h : SameS own (L2.wipe σ0 own) σ) : L2.wipe σ own = L2.wipe σ0 own := by
  refine List.ext_getElem? fun i => ?_
  by_cases hi : i ∈ own
  · have key : ∀ (τ : St) (vs : List Nat), i ∈ vs → (L2.wipe τ vs)[i]? = if i < τ.length then some none else none := by
      intro τ vs
      induction vs with
      | nil => intro z; cases z
      | cons v vs ih =>
        intro z
        unfold L2.wipe
        by_cases q : v = i
        · subst q
          rw [List.getElem?_set_self']
          by_cases l : v < τ.length
          · rw [if_pos l, List.getElem?_eq_getElem (by rw [wipe_length]; exact l)]; rfl
          · rw [if_neg l, List.getElem?_eq_none (by rw [wipe_length]; omega)]; rfl
        · rw [List.getElem?_set_ne q]
          exact ih ((List.mem_cons.mp z).resolve_left fun e => q e.symm)
    rw [key _ _ hi, key _ _ hi, h.1, wipe_length]
  · rw [wipe_out hi, h.2 i hi]
def loopC (g : FG) (gt : FT) (fe : F) : List D → Env → GH → Nat → R (List D)
  | [], _, G, _ => .ok [] G
  | d :: ds, ρ, G, k => match g d ρ G with
    | none => .st
    | some (ρ1, G1) => match gt ρ1 G1 with
      | .ok false G2 => loopC g gt fe ds ρ G2 k
      | .ok true G2 => (match fe ρ1 G2 with
        | .ok y G3 => if k < sizeLine then (loopC g gt fe ds ρ G3 (k + 1)).bnd fun ys G4 => .ok (y :: ys) G4 else .st
        | _ => .st)
      | _ => .st
def fLC (own : List Nat) (fi : FA) (g : FG) (gt : FT) (fe : F) : F := fun ρ G => (fi ρ G).bnd fun ds G1 => (loopC g gt fe ds (wipeE ρ own) G1 0).bnd fun ys G2 => .ok (.lst ys) G2
/-- a list of the heap -/
def fLCR (own : List Nat) (fi : FA) (g : FG) (gt : FT) (fe : F) : F := fun ρ G => (fi ρ G).bnd fun ds G1 => (loopC g gt fe ds (wipeE ρ own) G1 0).bnd fun ys G2 => .ok (.ref G2.length) (G2 ++ [.lst ys])
abbrev Ms.hide (ms : Ms) (p : Addr) : Ms := ⟨ms.nm, p :: ms.hid⟩
def Ms.show (ms : Ms) (p : Addr) : Ms := ⟨ms.nm, ms.hid.filter fun a => decide (a ≠ p)⟩
section
variable {ms ms1 : Ms} {H H1 : Hp} {G : GH} {p : Addr} {o u : HO}
theorem Stp.hide (h : H p = none) : Stp ms H (ms.hide p) (upd H p o) :=
  ⟨⟨[], by simp, fun _ h => by cases h⟩, ⟨fun a h => List.mem_cons_of_mem _ h, fun a z => (List.mem_cons.mp z).elim (fun e => .inr (by rw [e]; exact h)) .inl⟩, (Stp.new (ms := ms) h).keep, (Stp.new (ms := ms) h).tups, (Stp.new (ms := ms) h).there⟩
theorem Cf.hide (c : Cf T ms H G) (h : H p = none) : Cf T (ms.hide p) (upd H p o) G :=
  ⟨c.nd, c.len, fun a z q => (List.mem_cons.mp z).elim (fun e => by rw [e, upd_same] at q; cases q) fun z => c.hd a z (upd_none q), fun i d a hi ha => MRep.tr (Stp.hide h).tr (fun u e _ => by rw [upd_ne (ne_of_none e h)]; exact e) (c.obj i d a hi ha), tabs_new c.tb h⟩
/-- what is filled is changed -/
theorem Tr.fill (hh : p ∈ ms.hid) (hp : H p = some u) (ht : ∀ vs, u ≠ .tup vs) : Tr ms H ms (upd H p o) :=
  ⟨fun a w e _ n => ⟨by rw [upd_ne (fun q => n.2 (by rw [q]; exact hh))]; exact e, n⟩, fun a vs e => by
    rw [upd_ne (fun q => ?_)]
    · exact e
    · subst q; rw [hp] at e; exact ht vs (Option.some.inj e), fun _ _ h => h⟩
theorem Cf.fill (c : Cf T ms H G) (hh : p ∈ ms.hid) (hn : p ∉ ms.nm) (hp : H p = some u) (ht : ∀ vs, u ≠ .tup vs) (hw : Wrt p u) : Cf T ms (upd H p o) G :=
  ⟨c.nd, c.len, fun a z q => c.hd a z (upd_none q), fun i d a hi ha => MRep.tr (Tr.fill hh hp ht) (fun u e _ => by rw [upd_ne (fun q => hn (by rw [← q]; exact List.mem_of_getElem? ha))]; exact e) (c.obj i d a hi ha), tabs_wr c.tb hp hw⟩
theorem Stp.fill (s : Stp ms1 H1 ms H) (h1 : H1 p = none) : Stp ms1 H1 ms (upd H p o) :=
  ⟨s.ext, s.hid, fun a w e n nt => by rw [upd_ne (ne_of_none e h1)]; exact s.keep a w e n nt, fun a vs e => by rw [upd_ne (ne_of_none e h1)]; exact s.tups a vs e, fun a e => s.there a (upd_none e)⟩
/-- it is full -/
theorem Tr.show : Tr ms H (ms.show p) H := ⟨fun a o h _ n => ⟨h, n.1, fun z => n.2 (List.mem_filter.mp z).1⟩, fun _ _ h => h, fun _ _ h => h⟩
theorem Stp.show (s : Stp ms1 H1 ms H) (h1 : H1 p = none) (hd : ∀ a ∈ ms1.hid, H1 a ≠ none) : Stp ms1 H1 (ms.show p) H :=
  ⟨s.ext, ⟨fun a h => List.mem_filter.mpr ⟨s.hid.1 a h, decide_eq_true fun e => hd a h (by rw [e]; exact h1)⟩, fun a h => s.hid.2 a (List.mem_filter.mp h).1⟩, s.keep, s.tups, s.there⟩
theorem Cf.show (c : Cf T ms H G) : Cf T (ms.show p) H G := ⟨c.nd, c.len, fun a z => c.hd a (List.mem_filter.mp z).1, fun i d a hi ha => MRep.tr Tr.show (fun _ e _ => e) (c.obj i d a hi ha), c.tb⟩
/-- it is one of the heap's numbers from here on -/
def Ms.adm (ms : Ms) (p : Addr) : Ms := ⟨ms.nm ++ [p], ms.hid.filter fun a => decide (a ≠ p)⟩
theorem Tr.adm (h : p ∈ ms.hid) : Tr ms H (ms.adm p) H := ⟨fun a o e _ n => ⟨e, fun z => (List.mem_append.mp z).elim n.1 fun z => n.2 (by rw [List.mem_singleton.mp z]; exact h), fun z => n.2 (List.mem_filter.mp z).1⟩, fun _ _ h => h, fun i a h => getE_app h⟩
theorem Stp.adm (s : Stp ms1 H1 ms H) (h1 : H1 p = none) (hd : ∀ a ∈ ms1.hid, H1 a ≠ none) : Stp ms1 H1 (ms.adm p) H := by
  obtain ⟨e, q, he⟩ := s.ext
  exact ⟨⟨e ++ [p], by show ms.nm ++ [p] = ms1.nm ++ (e ++ [p]); rw [q, List.append_assoc], fun a z => (List.mem_append.mp z).elim (he a) fun z => by rw [List.mem_singleton.mp z]; exact h1⟩,
    ⟨fun a h => List.mem_filter.mpr ⟨s.hid.1 a h, decide_eq_true fun e => hd a h (by rw [e]; exact h1)⟩, fun a h => s.hid.2 a (List.mem_filter.mp h).1⟩, s.keep, s.tups, s.there⟩
end
/-- the loop that fills a new list at q, from its reading -/
theorem lc_run {own : List Nat} {g : FG} {gt : FT} {fe : F} {J : It} {ds : List D} {ms1 : Ms} {H1 : Hp} {G1 : GH} {σ : St} {ρ : Env} {q : Addr} {Qd : Hp → Prop} (hG : Gives T J ds ms1 H1) (hq : H1 q = none) (he : REnv T ms1 H1 σ ρ) (c1 : Cf T ms1 H1 G1)
    (h : match loopC g gt fe ds (wipeE ρ own) G1 0 with
      | .ok ys G' => ∀ H' ms' vs, Stp ms1 H1 ms' H' → H' q = some (.lst vs) → q ∈ ms'.hid → q ∉ ms'.nm → Reps T ms' H' ys vs → Cf T ms' H' G' → Qd H'
      | _ => False) :
    ∃ W' : Nat → Nat → Hp → Prop, (∃ m, W' 0 m (upd H1 q (.lst []))) ∧ ∀ i m H, W' i m H →
      (J.stop i H ∧ Qd H) ∨ (J.go i H ∧ ∃ Nx : Hp → Prop, (∀ H', Nx H' → ∃ m', m' < m ∧ W' (i + 1) m' H') ∧ ∀ x H', J.yld i H x H' → tgOf T own g x (L2.wipe σ own) H' fun σ2 H2 => L2.wipe σ2 own = L2.wipe σ own ∧ ttOf T WN gt σ2 H2 fun b H3 =>
        if b = true then tOf T WN fe σ2 H3 fun y H4 => ∃ acc, H4 q = some (.lst acc) ∧ acc.length < sizeLine ∧ Nx (upd H4 q (.lst (acc ++ [y]))) else Nx H3) := by
  obtain ⟨S, Y, w, hS, hY⟩ := hG
  generalize hR : loopC g gt fe ds (wipeE ρ own) G1 0 = R0 at h
  refine lc_it w (fun i H => ∃ (ms : Ms) (G : GH) (accD : List D) (accV : List V), Stp ms1 H1 ms H ∧ q ∈ ms.hid ∧ q ∉ ms.nm ∧ H q = some (.lst accV) ∧ Reps T ms H accD accV ∧ Cf T ms H G ∧
      R0 = (loopC g gt fe (ds.drop i) (wipeE ρ own) G accD.length).bnd fun ys G' => .ok (accD ++ ys) G') ?_ (fun i H _ ⟨ms, G, aD, aV, s1, _⟩ => hS ms H s1) ?_ ?_
  · refine ⟨ms1.hide q, G1, [], [], Stp.hide hq, List.mem_cons_self, (c1.out hq).1, upd_same, rfl, c1.hide hq, ?_⟩
    rw [List.drop_zero]
    show R0 = (loopC g gt fe ds (wipeE ρ own) G1 0).bnd fun ys G' => R.ok ([] ++ ys) G'
    rw [hR]
    cases R0 <;> rfl
  · rintro i x H H' hi ⟨ms, G, aD, aV, s1, qh, qn, hqv, ra, cG, eq⟩ y
    obtain ⟨d, hd, ed⟩ := drop_at hi
    obtain ⟨s2, r2, c2⟩ := hY i ms H G x H' d s1 cG hd y
    rw [ed] at eq
    have hbad : ∀ r : R (List D), R0 = r → (∀ ys G', r ≠ .ok ys G') → False := fun r e n => by
      rw [e] at h
      cases r with
      | ok ys G' => exact n ys G' rfl
      | ex _ _ => exact h
      | st => exact h
    have eV : REnv T ms H' (L2.wipe σ own) (wipeE ρ own) := ((he.mono s1).mono s2).wipe own
    refine ⟨d, wipeE ρ own, ms, G, r2, eV, c2, ?_⟩
    unfold loopC at eq
    cases q1 : g d (wipeE ρ own) G with
    | none => rw [q1] at eq; exact (hbad .st eq fun _ _ z => by cases z).elim
    | some pr =>
      rw [q1] at eq
      simp only at eq
      intro σ3 H3 ms3 same s3 e3 c3
      refine ⟨wipe_same same, pr.1, ms3, pr.2, e3, c3, ?_⟩
      cases q2 : gt pr.1 pr.2 with
      | ex e G2 => rw [q2] at eq; exact (hbad .st eq fun _ _ z => by cases z).elim
      | st => rw [q2] at eq; exact (hbad .st eq fun _ _ z => by cases z).elim
      | ok b G2 =>
        rw [q2] at eq
        intro b' H4 ms4 s4 eb c4
        have eb' : b = b' := eb
        subst eb'
        have st4 : Stp ms H ms4 H4 := s2.trans (s3.trans s4)
        cases b with
        | false =>
          rw [if_neg Bool.false_ne_true]
          exact ⟨ms4, G2, aD, aV, s1.trans st4, st4.hid.1 q qh, st4.outN hqv qn, st4.keep q _ hqv qn (by intro _ z; cases z), Reps.mono st4 _ _ ra, c4, eq⟩
        | true =>
          rw [if_pos rfl]
          simp only at eq
          refine ⟨pr.1, ms4, G2, e3.mono s4, c4, ?_⟩
          cases q3 : fe pr.1 G2 with
          | ex e G3 => rw [q3] at eq; exact (hbad .st eq fun _ _ z => by cases z).elim
          | st => rw [q3] at eq; exact (hbad .st eq fun _ _ z => by cases z).elim
          | ok yd G3 =>
            rw [q3] at eq
            intro yv H5 ms5 s5 r5 c5
            simp only at eq
            by_cases hl : aD.length < sizeLine
            · rw [if_pos hl] at eq
              have st5 : Stp ms H ms5 H5 := st4.trans s5
              have hq5 : H5 q = some (.lst aV) := st5.keep q _ hqv qn (by intro _ z; cases z)
              have qh5 := st5.hid.1 q qh
              have qn5 := st5.outN hqv qn
              have tf : Tr ms5 H5 ms5 (upd H5 q (.lst (aV ++ [yv]))) := Tr.fill qh5 hq5 fun _ z => by cases z
              refine ⟨aV, hq5, by rw [ra.len]; exact hl, ms5, G3, aD ++ [yd], aV ++ [yv], (s1.trans st5).fill hq, qh5, qn5, upd_same, ?_, c5.fill qh5 qn5 hq5 (fun _ z => by cases z) wrt_lst, ?_⟩
              · exact Reps.tr tf _ _ ((Reps.mono st5 _ _ ra).app ⟨yv, [], rfl, r5, rfl⟩)
              · rw [eq, List.length_append, List.length_singleton]
                cases loopC g gt fe (ds.drop (i + 1)) (wipeE ρ own) G3 (aD.length + 1) with
                | ok ys G4 => show R.ok (aD ++ yd :: ys) G4 = R.ok ((aD ++ [yd]) ++ ys) G4; rw [List.append_assoc]; rfl
                | ex _ _ => rfl
                | st => rfl
            · rw [if_neg hl] at eq
              exact (hbad .st eq fun _ _ z => by cases z).elim
  · rintro H ⟨ms, G, aD, aV, s1, qh, qn, hqv, ra, cG, eq⟩
    rw [List.drop_length] at eq
    unfold loopC at eq
    have eq' : R0 = .ok aD G := by rw [eq]; show R.ok (aD ++ []) G = R.ok aD G; rw [List.append_nil]
    rw [eq'] at h
    exact h H ms aV s1 hqv qh qn ra cG
theorem bnd_ok {α β γ : Type} {rel : Ms → Hp → α → β → Prop} {W : Value → Option Addr → Hp → Prop} {r : R γ} {f : γ → GH → R α} {ms : Ms} {H : Hp} {Q : β → Hp → Prop} (hx : ∀ e G, r ≠ .ex e G) (h : OkG T W rel (r.bnd f) ms H Q) : ∃ a G, r = .ok a G ∧ OkG T W rel (f a G) ms H Q := by
  cases r with
  | ok a G => exact ⟨a, G, rfl, h⟩
  | ex e G => exact absurd rfl (hx e G)
  | st => exact h.elim
theorem loopC_nox {g : FG} {gt : FT} {fe : F} : ∀ (ds : List D) (ρ : Env) (G : GH) (k : Nat) (e : Exn) (G' : GH), loopC g gt fe ds ρ G k ≠ .ex e G'
  | [], _, _, _, _, _, h => by unfold loopC at h; cases h
  | d :: ds, ρ, G, k, e, G', h => by
    unfold loopC at h
    split at h
    · cases h
    · split at h
      · exact loopC_nox ds _ _ _ _ _ h
      · split at h
        · split at h
          · cases q : loopC g gt fe ds ρ _ (k + 1) with
            | ok ys G4 => rw [q] at h; cases h
            | ex e2 G4 => exact loopC_nox ds _ _ _ _ _ q
            | st => rw [q] at h; cases h
          · cases h
        · cases h
      · cases h
theorem t_lc {own : List Nat} {fi : FA} {g : FG} {gt : FT} {fe : F} {σ : St} {H : Hp} {Q : VK} (h : tOf T W (fLC own fi g gt fe) σ H Q) : tLc (tiOf T W fi) (tgOf T own g) (ttOf T WN gt) (tOf T WN fe) own σ H Q := by
  obtain ⟨ρ, ms, G, he, hc, h⟩ := h
  refine ⟨ρ, ms, G, he, hc, (OkG.bnd h).imp fun J H1 ⟨ds, G1, ms1, _, s1, gv, c1, h1⟩ q hq => ?_⟩
  obtain ⟨ys, G2, e2, h2⟩ := bnd_ok (fun e G => loopC_nox _ _ _ _ _ _) h1
  exact lc_run gv hq (he.mono s1) c1 (by
    rw [e2]
    exact fun H' ms' vs s2 hv qh qn r2 c2 => h2 _ H' (ms'.show q) (s2.show hq c1.hd) ⟨q, vs, rfl, ⟨qn, fun z => of_decide_eq_true (List.mem_filter.mp z).2 rfl⟩, hv, Reps.tr Tr.show _ _ r2⟩ c2.show)
theorem t_lcR {own : List Nat} {fi : FA} {g : FG} {gt : FT} {fe : F} {σ : St} {H : Hp} {Q : VK} (h : tOf T W (fLCR own fi g gt fe) σ H Q) : tLc (tiOf T W fi) (tgOf T own g) (ttOf T WN gt) (tOf T WN fe) own σ H Q := by
  obtain ⟨ρ, ms, G, he, hc, h⟩ := h
  refine ⟨ρ, ms, G, he, hc, (OkG.bnd h).imp fun J H1 ⟨ds, G1, ms1, _, s1, gv, c1, h1⟩ q hq => ?_⟩
  obtain ⟨ys, G2, e2, h2⟩ := bnd_ok (fun e G => loopC_nox _ _ _ _ _ _) h1
  refine lc_run gv hq (he.mono s1) c1 ?_
  rw [e2]
  intro H' ms' vs s2 hv qh qn r2 c2
  have tr : Tr ms' H' (ms'.adm q) H' := Tr.adm qh
  refine h2 _ H' (ms'.adm q) (s2.adm hq c1.hd) ⟨q, rfl, ?_⟩ ⟨List.nodup_append.mpr ⟨c2.nd, by simp, fun a ha b hb => by rw [List.mem_singleton.mp hb]; exact fun z => qn (z ▸ ha)⟩, by simp [Ms.adm, c2.len], fun a z => c2.hd a (List.mem_filter.mp z).1, fun i o a hi ha => ?_, c2.tb⟩
  · show (ms'.nm ++ [q])[G2.length]? = some q
    rw [← c2.len, List.getElem?_append_right (Nat.le_refl _)]; simp
  · by_cases hl : i < G2.length
    · rw [List.getElem?_append_left hl] at hi
      have ha' : (ms'.nm ++ [q])[i]? = some a := ha
      rw [List.getElem?_append_left (by rw [c2.len]; exact hl)] at ha'
      exact MRep.tr tr (fun _ e _ => e) (c2.obj i o a hi ha')
    · have e : i = G2.length := by
        have := (List.getElem?_eq_some_iff.mp hi).1
        rw [List.length_append, List.length_singleton] at this
        omega
      subst e
      have ha' : (ms'.nm ++ [q])[G2.length]? = some a := ha
      rw [List.getElem?_append_right (Nat.le_refl _)] at hi
      rw [List.getElem?_append_right (by rw [c2.len]; exact Nat.le_refl _), c2.len] at ha'
      simp at hi ha'
      subst hi ha'
      exact ⟨vs, hv, Reps.tr tr _ _ r2⟩
/-- [elt for target in iter if ..] -/
theorem j_lc {elt tg iter : Expr} {ifs : List Expr} {scope : Scope} {own : List (Str × Nat)} {fi : FA} {g : FG} {gt : FT} {fe : F} (hc : X.calm = true) (hN : X.N.Nodup) (hi : JI X T W tg iter fi) (ok : blkC X.N X.env.scope scope own = true)
    (hg : ∀ (s : Shared) (H : Hp) (C : Addr) (cl : List (Str × Addr)) (fp : List Addr), JG (X.blk s H scope (compEnvC scope cl C X.env) fp) T (own.map (·.2)) tg g) (ht : ∀ (s : Shared) (H : Hp) (C : Addr) (cl : List (Str × Addr)) (fp : List Addr), JTs (X.blk s H scope (compEnvC scope cl C X.env) fp) T WN ifs gt)
    (he : ∀ (s : Shared) (H : Hp) (C : Addr) (cl : List (Str × Addr)) (fp : List Addr), JE (X.blk s H scope (compEnvC scope cl C X.env) fp) T WN elt fe) (hs : ∀ x, foldedSetIterable iter X.env x = pure x := by intro _; rfl) :
    JE X T W (.ListComp elt [⟨tg, iter, ifs, 0⟩] scope pos) (fLC (own.map (·.2)) fi g gt fe) :=
  PE.imp (pe_lc hc hN hi (blkOk_by ok) hg ht he hs) fun _ _ _ h => t_lc h
theorem j_lcR {elt tg iter : Expr} {ifs : List Expr} {scope : Scope} {own : List (Str × Nat)} {fi : FA} {g : FG} {gt : FT} {fe : F} (hc : X.calm = true) (hN : X.N.Nodup) (hi : JI X T W tg iter fi) (ok : blkC X.N X.env.scope scope own = true)
    (hg : ∀ (s : Shared) (H : Hp) (C : Addr) (cl : List (Str × Addr)) (fp : List Addr), JG (X.blk s H scope (compEnvC scope cl C X.env) fp) T (own.map (·.2)) tg g) (ht : ∀ (s : Shared) (H : Hp) (C : Addr) (cl : List (Str × Addr)) (fp : List Addr), JTs (X.blk s H scope (compEnvC scope cl C X.env) fp) T WN ifs gt)
    (he : ∀ (s : Shared) (H : Hp) (C : Addr) (cl : List (Str × Addr)) (fp : List Addr), JE (X.blk s H scope (compEnvC scope cl C X.env) fp) T WN elt fe) (hs : ∀ x, foldedSetIterable iter X.env x = pure x := by intro _; rfl) :
    JE X T W (.ListComp elt [⟨tg, iter, ifs, 0⟩] scope pos) (fLCR (own.map (·.2)) fi g gt fe) :=
  PE.imp (pe_lc hc hN hi (blkOk_by ok) hg ht he hs) fun _ _ _ h => t_lcR h
/-- y = [..] -/
theorem js_setLc {i : Nat} {y : Str} {py : Pos} {elt tg iter : Expr} {ifs : List Expr} {scope : Scope} {own : List (Str × Nat)} {spos : Pos} {fi : FA} {g : FG} {gt : FT} {fe : F} (hc : X.calm = true) (hN : X.N.Nodup) (hy : X.N[i]? = some y) (hyl : X.env.scope.names.lookup y = some .local)
    (hsw : swapsWith (.ListComp elt [⟨tg, iter, ifs, 0⟩] scope pos) (some (.Name y py)) spos.line X.env = pure true) (hi : JI X T W tg iter fi) (ok : blkC X.N X.env.scope scope own = true)
    (hg : ∀ (s : Shared) (H : Hp) (C : Addr) (cl : List (Str × Addr)) (fp : List Addr), JG (X.blk s H scope (compEnvC scope cl C X.env) fp) T (own.map (·.2)) tg g) (ht : ∀ (s : Shared) (H : Hp) (C : Addr) (cl : List (Str × Addr)) (fp : List Addr), JTs (X.blk s H scope (compEnvC scope cl C X.env) fp) T WN ifs gt)
    (he : ∀ (s : Shared) (H : Hp) (C : Addr) (cl : List (Str × Addr)) (fp : List Addr), JE (X.blk s H scope (compEnvC scope cl C X.env) fp) T WN elt fe) (hs : ∀ x, foldedSetIterable iter X.env x = pure x := by intro _; rfl) :
    JS X T W (.Assign [.Name y py] (.ListComp elt [⟨tg, iter, ifs, 0⟩] scope pos) spos) (sSet i (fLC (own.map (·.2)) fi g gt fe)) :=
  PS.imp (ps_setLc hc hN hy hyl hsw hi (blkOk_by ok) hg ht he hs) fun D σ H h => t_lc (Q := fun x H1 => gName i x σ H1 D.nx) (by
    obtain ⟨ρ, ms, G, he, hc, h⟩ := h
    exact ⟨ρ, ms, G, he, hc, (OkS.go he h).imp fun x H1 ⟨d, G1, ms1, _, s1, r1, c1, h1⟩ => h1 _ H1 ms1 (Stp.refl _ _) ((he.mono s1).set r1 i) c1⟩)
theorem js_setLcR {i : Nat} {y : Str} {py : Pos} {elt tg iter : Expr} {ifs : List Expr} {scope : Scope} {own : List (Str × Nat)} {spos : Pos} {fi : FA} {g : FG} {gt : FT} {fe : F} (hc : X.calm = true) (hN : X.N.Nodup) (hy : X.N[i]? = some y) (hyl : X.env.scope.names.lookup y = some .local)
    (hsw : swapsWith (.ListComp elt [⟨tg, iter, ifs, 0⟩] scope pos) (some (.Name y py)) spos.line X.env = pure true) (hi : JI X T W tg iter fi) (ok : blkC X.N X.env.scope scope own = true)
    (hg : ∀ (s : Shared) (H : Hp) (C : Addr) (cl : List (Str × Addr)) (fp : List Addr), JG (X.blk s H scope (compEnvC scope cl C X.env) fp) T (own.map (·.2)) tg g) (ht : ∀ (s : Shared) (H : Hp) (C : Addr) (cl : List (Str × Addr)) (fp : List Addr), JTs (X.blk s H scope (compEnvC scope cl C X.env) fp) T WN ifs gt)
    (he : ∀ (s : Shared) (H : Hp) (C : Addr) (cl : List (Str × Addr)) (fp : List Addr), JE (X.blk s H scope (compEnvC scope cl C X.env) fp) T WN elt fe) (hs : ∀ x, foldedSetIterable iter X.env x = pure x := by intro _; rfl) :
    JS X T W (.Assign [.Name y py] (.ListComp elt [⟨tg, iter, ifs, 0⟩] scope pos) spos) (sSet i (fLCR (own.map (·.2)) fi g gt fe)) :=
  PS.imp (ps_setLc hc hN hy hyl hsw hi (blkOk_by ok) hg ht he hs) fun D σ H h => t_lcR (Q := fun x H1 => gName i x σ H1 D.nx) (by
    obtain ⟨ρ, ms, G, he, hc, h⟩ := h
    exact ⟨ρ, ms, G, he, hc, (OkS.go he h).imp fun x H1 ⟨d, G1, ms1, _, s1, r1, c1, h1⟩ => h1 _ H1 ms1 (Stp.refl _ _) ((he.mono s1).set r1 i) c1⟩)
end DL

set_option Elab.async false
set_option linter.all false
set_option maxRecDepth 100000
set_option maxHeartbeats 2000000
set_option autoImplicit false
namespace DL
open PySem L2
variable {X : Cx} {T : TC} {W : WX} {a b c e : Expr} {es : List Expr} {fa fb fc : F} {ga gb gc : FT} {pos : Pos} {st : Stmt} {sts : List Stmt} {s t : FS}

/-! ### a def's promise, where no repr runs around it -/
structure FnG (P : Program) (w : World) (K : PySem.W.Frag) (mg : Str → Option Value) (base : Heap) (k : Nat) (f : Addr) (fd : FuncData) (ps : List Str) (sp : Sp) : Prop where
  len : ∀ vs H Q E, sp vs H Q E → vs.length = ps.length
  run : ∀ (A : Around) (outer : List PySem.Env) (s : Shared) (H : Hp) (args : Args) (us : List Value) (vs : List V) (Q : VK) (E : XK), A.guards = some [] → Room k A → Env0 P w K mg base A outer s H →
    BindsTo s fd args (ps.zip us) → Vals vs us → sp vs H Q E → codeAny (model P w) A (.call (.ref f) args) (CR (L2.CX P w) outer P w H s Q E) s
section
variable {P : Program} {w : World} {K : PySem.W.Frag} {mg : Str → Option Value} {base : Heap} {k j : Nat} {f : Addr} {fd : FuncData} {ps : List Str} {sp sp' : Sp}
theorem FnG.mono (F : FnG P w K mg base j f fd ps sp) (h : j ≤ k) : FnG P w K mg base k f fd ps sp :=
  ⟨F.len, fun A outer s H args us vs Q E g hr => F.run A outer s H args us vs Q E g (hr.mono h)⟩
theorem FnG.imp (F : FnG P w K mg base k f fd ps sp) (h : ∀ vs H Q E, sp' vs H Q E → sp vs H Q E) : FnG P w K mg base k f fd ps sp' :=
  ⟨fun vs H Q E q => F.len vs H Q E (h _ _ _ _ q), fun A outer s H args us vs Q E g hr e0 b r q => F.run A outer s H args us vs Q E g hr e0 b r (h _ _ _ _ q)⟩
/-- from the body -/
theorem FnG.of {x qual : Str} {st : Stmt} {N : List Str} (F : Fun K x qual st f fd) (S : FnScope N ps (defScope st)) (len : ∀ vs H Q E, sp vs H Q E → vs.length = ps.length)
    (hbody : ∀ (cdv : Value) (A : Around) (outer : List PySem.Env) (s : Shared) (H : Hp) (vs : List V) (Q : VK) (E : XK), fd.code = cdv → A.guards = some [] → Room k (A.deeper (PyProof.Rows.envOfC qual (defScope st) s.heap.objs.size f cdv)) → sp vs H Q E →
      ∃ t, PSs (cxOf (L2.CX P w) P w K mg base N qual (defScope st) f cdv A outer s H E) (defBody st) t ∧ t { nx := fun _ H' => Q .non H', rt := Q } (L2.start N vs) H) : FnG P w K mg base (k + 1) f fd ps sp := by
  obtain ⟨oc, od, kV, doc, pm, an, cdv, ct, osl, rfl, hlook, hcode⟩ := F.ex
  refine ⟨len, fun A outer s H args us vs Q E hgd hroom henv hbind hval hspec => ?_⟩
  have hlen := len _ _ _ _ hspec
  have inK : K.In s.heap := henv.mod.kin.keeps fun b o z => (henv.bs b o z).1
  have noLim : s.heap.NoLimit := henv.mod.nolimit.keeps fun b o z => (henv.bs b o z).1
  refine codeAny_call_function hroom.depth (inK _ _ hlook) rfl S.co S.gen rfl (PySem.W.codeRec_of inK hcode) (hbind _ _ _ _ ?_)
  refine wpAny_newFunctionEnv_cells S.kind (fun y hy => ?_) fun env he s1 frame => ?_
  · have hy1 := (List.of_mem_zip (a := y.1) (b := y.2) (by simpa using hy)).1
    rcases S.par _ hy1 with q | q
    · exact Or.inl q
    · exact Or.inr ⟨q, PySem.W.cellsFrom_some _ _ _ (Or.inl q)⟩
  subst he
  refine ⟨noLim.keeps frame.toInCall.keep, codeAny_func ?_⟩
  obtain ⟨t, hrun, hgoal⟩ := hbody cdv A outer s H vs Q E rfl hgd (hroom.deeper _) hspec
  have I0 := inv_start (CX := L2.CX P w) (E := E) (cd := cdv) (qual := qual) (f := f) S hroom.hd henv hlen hval frame
  refine wpAny_mono (hrun.run [] s1 (L2.start N vs) H _ I0 hgoal) (fun fl s' hs => ?_) fun e s' hs => hs
  match fl, hs with
  | .ret u, hs =>
    obtain ⟨v, σ', H', J, rv, q⟩ := hs
    exact ⟨v, H', J.os, J.bare, J.base, J.hok, rv, q⟩
  | .next, hs =>
    obtain ⟨σ', H', J, q⟩ := hs
    exact ⟨V.non, H', J.os, J.bare, J.base, J.hok, (show RelV V.non Value.none from rfl), q⟩
  | .brk, hs => obtain ⟨_, _, _, q⟩ := hs; exact q.elim
  | .cont, hs => obtain ⟨_, _, _, q⟩ := hs; exact q.elim
end

/-! ### the promise by a mirror -/
abbrev FM := List D → GH → R D
def spD (T : TC) (n : Nat) (m : FM) : Sp := fun vs H Q E => vs.length = n ∧ ∃ ds ms G, Reps T ms H ds vs ∧ Cf T ms H G ∧ OkE T E (m ds G) ms H Q
/-- what a body's context must have -/
structure Bd (X : Cx) (T : TC) (W : WX) (k : Nat) : Prop where
  gd : X.A.guards = some []
  rm : Room k X.A
  tk : Takes X W
  cm : X.calm = true
  nd : X.N.Nodup
  hK : T.K = X.K
  po : PassesOwn (model X.prog X.w) X.A X.env X.xe
theorem Bd.u64 {k : Nat} (B : Bd X T W k) : X.A.units + 64 < cLine := B.rm.units
theorem Bd.u65 {k : Nat} (B : Bd X T W k) : X.A.units + 65 < cLine := by have := B.rm.un; omega
theorem Bd.mono {k j : Nat} (B : Bd X T W k) (h : j ≤ k) : Bd X T W j := ⟨B.gd, B.rm.mono h, B.tk, B.cm, B.nd, B.hK, B.po⟩
/-- in a comprehension's block -/
structure Bk (X : Cx) (T : TC) (k : Nat) : Prop where
  gd : X.A.guards = some []
  rm : Room k X.A
  cm : X.calm = true
  nd : X.N.Nodup
  hK : T.K = X.K
abbrev WE0 (E : XK) : WX := fun cls d _ H => E cls d H
def startE (n : Nat) (ds : List D) : Env := ds.map some ++ List.replicate (n - ds.length) none
def mir (n : Nat) (s : FS) : FM := fun ds G => match s (startE n ds) G with
  | .nx _ G1 => .ok .non G1
  | .rt d G1 => .ok d G1
  | .ex e _ G1 => .ex e G1
  | _ => .st
theorem renv_start {ms : Ms} {H : Hp} {N : List Str} {ds : List D} {vs : List V} (r : Reps T ms H ds vs) : REnv T ms H (L2.start N vs) (startE N.length ds) := by
  have hl := r.len
  refine ⟨by unfold L2.start startE; simp [hl], fun i d h => ?_⟩
  unfold startE at h
  by_cases hi : i < ds.length
  · rw [List.getElem?_append_left (by simpa using hi), List.getElem?_map] at h
    cases q : ds[i]? with
    | none => rw [q] at h; cases h
    | some x =>
      rw [q] at h
      cases h
      obtain ⟨v, h1, h2⟩ := r.at q
      refine ⟨v, ?_, h2⟩
      unfold L2.start
      rw [List.getElem?_append_left (by rw [List.length_map, hl]; exact hi), List.getElem?_map, h1]
      rfl
  · rw [List.getElem?_append_right (by simp; omega), List.getElem?_replicate] at h
    split at h <;> cases h
/-- THE RULE for a def -/
theorem fn_d {P : Program} {w : World} {mg : Str → Option Value} {base : Heap} {k : Nat} {f : Addr} {fd : FuncData} {ps N : List Str} {x qual : Str} {st : Stmt} {s : FS} (F : Fun T.K x qual st f fd) (S : FnScope N ps (defScope st))
    (hbody : ∀ (X : Cx) (E : XK), Bd X T (WE0 E) k → (∃ (cdv : Value) (A : Around) (outer : List PySem.Env) (sh : Shared) (H : Hp), fd.code = cdv ∧ X = cxOf (L2.CX P w) P w T.K mg base N qual (defScope st) f cdv A outer sh H E) → JB X T (WE0 E) (defBody st) s) :
    FnG P w T.K mg base (k + 1) f fd ps (spD T ps.length (mir N.length s)) := by
  refine FnG.of F S (fun vs H Q E h => h.1) fun cdv A outer sh H vs Q E hcd hg hr h => ?_
  obtain ⟨hl, ds, ms, G, r, c, h⟩ := h
  have hcalm : (cxOf (L2.CX P w) P w T.K mg base N qual (defScope st) f cdv A outer sh H E).calm = true := rfl
  refine ⟨_, hbody _ E ⟨hg, hr, takes_of rfl rfl rfl rfl, rfl, S.nd, rfl, passes_of rfl⟩ ⟨cdv, A, outer, sh, H, hcd, rfl⟩, startE N.length ds, ms, G, renv_start r, c, ?_⟩
  unfold mir at h
  cases q : s (startE N.length ds) G with
  | nx ρ G1 => rw [q] at h; exact fun σ H' ms' s1 e1 c1 => h .non H' ms' s1 rfl c1
  | rt d G1 => rw [q] at h; exact fun v H' ms' s1 r1 c1 => h v H' ms' s1 r1 c1
  | ex e ρ G1 => rw [q] at h; exact fun cls dx σ H' ms' s1 _ x1 c1 => h cls dx H' ms' s1 x1 c1
  | bk ρ G1 => rw [q] at h; exact h.elim
  | ct ρ G1 => rw [q] at h; exact h.elim
  | st => rw [q] at h; exact h.elim

/-! ### freezing: a value without numbers of the heap -/
mutual
def noRef : D → Bool
  | .tup ds => noRefs ds
  | .lst ds => noRefs ds
  | .dic ks ds => noRefs ks && noRefs ds
  | .ins _ ds => noRefs ds
  | .ref _ => false
  | _ => true
def noRefs : List D → Bool
  | [] => true
  | d :: ds => noRef d && noRefs ds
end
def allO (f : D → Option D) : List D → Option (List D)
  | [] => some []
  | d :: ds => match f d with
    | some x => (match allO f ds with
      | some xs => some (x :: xs)
      | none => none)
    | none => none
def frz : Nat → GH → D → Option D
  | 0, _, _ => none
  | n + 1, G, d => match vw G d with
    | .tup ds => (allO (frz n G) ds).map .tup
    | .lst ds => (allO (frz n G) ds).map .lst
    | .dic ks ds => (match allO (frz n G) ks, allO (frz n G) ds with
      | some x, some y => some (.dic x y)
      | _, _ => none)
    | .ins c ds => (allO (frz n G) ds).map (.ins c)
    | .non => (match d with
      | .non => some .non
      | _ => none)
    | .ref _ => none
    | x => some x
-- no numbers of the heap: read alike wherever its objects are out
mutual
theorem rep_out {ms ms' : Ms} {H : Hp} (ho : ∀ a, Out ms a → H a ≠ none → Out ms' a) : ∀ (d : D) (v : V), noRef d = true → Rep T ms H d v → Rep T ms' H d v
  | .non, _, _, h => h
  | .bl _, _, _, h => h
  | .int _, _, _, h => h
  | .str _, _, _, h => h
  | .tup ds, v, n, h => by
    obtain ⟨a, vs, e, h1, h2⟩ := h
    exact ⟨a, vs, e, h1, reps_out ho ds vs n h2⟩
  | .lst ds, v, n, h => by
    obtain ⟨a, vs, e, o, h1, h2⟩ := h
    exact ⟨a, vs, e, ho a o (by rw [h1]; simp), h1, reps_out ho ds vs n h2⟩
  | .dic ks ds, v, n, h => by
    obtain ⟨a, kv, ws, e, o, ⟨kvs, h1, h2⟩, h3, h4⟩ := h
    have n' : (noRefs ks && noRefs ds) = true := n
    rw [Bool.and_eq_true] at n'
    exact ⟨a, kv, ws, e, ho a o (by rw [h1]; simp), ⟨kvs, h1, h2⟩, reps_out ho ks kv n'.1 h3, reps_out ho ds ws n'.2 h4⟩
  | .ins c ds, v, n, h => by
    obtain ⟨a, dx, vs, e, o, h1, h2, h3⟩ := h
    exact ⟨a, dx, vs, e, ho a o (by rw [h1]; simp), h1, h2, reps_out ho ds vs n h3⟩
  | .scr ns, v, _, h => by
    obtain ⟨a, e, h1⟩ := h
    rcases h1 with ⟨o, h1, z⟩ | h1
    · exact ⟨a, e, .inl ⟨o, h1, ho a z (by rw [h1]; simp)⟩⟩
    · exact ⟨a, e, .inr h1⟩
theorem reps_out {ms ms' : Ms} {H : Hp} (ho : ∀ a, Out ms a → H a ≠ none → Out ms' a) : ∀ (ds : List D) (vs : List V), noRefs ds = true → Reps T ms H ds vs → Reps T ms' H ds vs
  | [], _, _, h => h
  | d :: ds, vs, n, h => by
    obtain ⟨v, r, e, h1, h2⟩ := h
    have n' : (noRef d && noRefs ds) = true := n
    rw [Bool.and_eq_true] at n'
    exact ⟨v, r, e, rep_out ho d v n'.1 h1, reps_out ho ds r n'.2 h2⟩
end
section
variable {ms ms' : Ms} {H : Hp} {G : GH}
theorem vw_dic {d : D} {x : V} {ks ds : List D} (c : Cf T ms H G) (r : Rep T ms H d x) (h : vw G d = .dic ks ds) : ∃ a kv ws, x = .ref a ∧ DObj H a kv ws ∧ Reps T ms H ks kv ∧ Reps T ms H ds ws := by
  cases d with
  | dic es fs =>
    cases h
    obtain ⟨a, kv, ws, e, _, h1, h2, h3⟩ := r
    exact ⟨a, kv, ws, e, h1, h2, h3⟩
  | ref i =>
    obtain ⟨a, rfl, ha⟩ := r
    have h' : (match G[i]? with
      | some (.lst ds) => D.lst ds
      | some (.tup [.lst ds]) => .lst ds
      | some (.dic ks ds) => .dic ks ds
      | some (.tup [.dic ks ds]) => .dic ks ds
      | some (.ins c ds) => .ins c ds
      | _ => .non) = .dic ks ds := h
    split at h'
    · cases h'
    · cases h'
    · rename_i es hg
      cases h'
      obtain ⟨kv, ws, h1, h2⟩ := c.obj i _ a hg ha
      exact ⟨a, kv, ws, rfl, h1, h2⟩
    · rename_i es hg
      cases h'
      obtain ⟨kv, ws, h1, h2⟩ := c.obj i _ a hg ha
      exact ⟨a, kv, ws, rfl, h1, h2⟩
    · cases h'
    · cases h'
  | _ => cases h
theorem vw_ins {d : D} {x : V} {k : Nat} {ds : List D} (c : Cf T ms H G) (r : Rep T ms H d x) (h : vw G d = .ins k ds) : ∃ a dx vs, x = .ref a ∧ H a = some (.ins (T.cls k) dx ((T.fld k).zip vs)) ∧ vs.length ≤ (T.fld k).length ∧ Reps T ms H ds vs := by
  cases d with
  | ins k2 es =>
    cases h
    obtain ⟨a, dx, vs, e, _, h1, h2⟩ := r
    exact ⟨a, dx, vs, e, h1, h2⟩
  | ref i =>
    obtain ⟨a, rfl, ha⟩ := r
    have h' : (match G[i]? with
      | some (.lst ds) => D.lst ds
      | some (.tup [.lst ds]) => .lst ds
      | some (.dic ks ds) => .dic ks ds
      | some (.tup [.dic ks ds]) => .dic ks ds
      | some (.ins c ds) => .ins c ds
      | _ => .non) = .ins k ds := h
    split at h'
    · cases h'
    · cases h'
    · cases h'
    · cases h'
    · rename_i k2 es hg
      cases h'
      obtain ⟨dx, vs, h1, h2⟩ := c.obj i _ a hg ha
      exact ⟨a, dx, vs, rfl, h1, h2⟩
    · cases h'
  | _ => cases h
/-- where a value that is looked at lies: out, or a number of the heap -/
theorem at_out {d : D} {a : Addr} (c : Cf T ms H G) (r : Rep T ms H d (.ref a)) (hk : ∀ ds, vw G d ≠ .tup ds) (hn : vw G d ≠ .non) (hs : ∀ ns, d ≠ .scr ns) : Out ms a ∨ a ∈ ms.nm := by
  cases d with
  | tup ds => exact absurd rfl (hk ds)
  | lst ds =>
    obtain ⟨b, vs, e, o, _⟩ := r
    cases e
    exact .inl o
  | dic ks ds =>
    obtain ⟨b, kv, ws, e, o, _⟩ := r
    cases e
    exact .inl o
  | ins k ds =>
    obtain ⟨b, dx, vs, e, o, _⟩ := r
    cases e
    exact .inl o
  | ref i =>
    obtain ⟨b, e, h⟩ := r
    cases e
    exact .inr (List.mem_of_getElem? h)
  | scr ns => exact absurd rfl (hs ns)
  | non => exact absurd rfl hn
  | bl b => cases r
  | int b => cases r
  | str b => cases r
theorem allO_reps {f : D → Option D} {ms' : Ms} {H' : Hp} (hf : ∀ d v d', f d = some d' → Rep T ms H d v → Rep T ms' H' d' v) : ∀ {ds es : List D} {vs : List V}, allO f ds = some es → Reps T ms H ds vs → Reps T ms' H' es vs
  | [], es, vs, h, r => by cases h; exact r
  | d :: ds, es, vs, h, r => by
    obtain ⟨v, w, rfl, r1, r2⟩ := r
    unfold allO at h
    split at h
    · rename_i x hx
      split at h
      · rename_i xs hxs
        cases h
        exact ⟨v, w, rfl, hf _ _ _ hx r1, allO_reps hf hxs r2⟩
      · cases h
    · cases h
theorem frz_rep (c : Cf T ms H G) (ho : ∀ a, Out ms a ∨ a ∈ ms.nm → H a ≠ none → Out ms' a) : ∀ (n : Nat) (d : D) (v : V) (d' : D), frz n G d = some d' → Rep T ms H d v → Rep T ms' H d' v
  | 0, _, _, _, h, _ => by cases h
  | n + 1, d, v, d', h, r => by
    have ih := fun d v d' => frz_rep c ho n d v d'
    unfold frz at h
    split at h
    · rename_i ds e
      cases q : allO (frz n G) ds with
      | none => rw [q] at h; cases h
      | some es =>
        rw [q] at h
        cases h
        obtain ⟨a, vs, rfl, h1, h2⟩ := vw_tup c r e
        exact ⟨a, vs, rfl, h1, allO_reps ih q h2⟩
    · rename_i ds e
      cases q : allO (frz n G) ds with
      | none => rw [q] at h; cases h
      | some es =>
        rw [q] at h
        cases h
        obtain ⟨a, vs, rfl, h1, h2⟩ := vw_lst c r e
        exact ⟨a, vs, rfl, ho a (at_out c r (by rw [e]; intro ds z; cases z) (by rw [e]; intro z; cases z) (by rintro ns rfl; cases e)) (by rw [h1]; simp), h1, allO_reps ih q h2⟩
    · rename_i ks ds e
      split at h
      · rename_i xs ys q1 q2
        cases h
        obtain ⟨a, kv, ws, rfl, ⟨kvs, h0, h1⟩, h2, h3⟩ := vw_dic c r e
        exact ⟨a, kv, ws, rfl, ho a (at_out c r (by rw [e]; intro ds z; cases z) (by rw [e]; intro z; cases z) (by rintro ns rfl; cases e)) (by rw [h0]; simp), ⟨kvs, h0, h1⟩, allO_reps ih q1 h2, allO_reps ih q2 h3⟩
      · cases h
    · rename_i k ds e
      cases q : allO (frz n G) ds with
      | none => rw [q] at h; cases h
      | some es =>
        rw [q] at h
        cases h
        obtain ⟨a, dx, vs, rfl, h1, h2, h3⟩ := vw_ins c r e
        exact ⟨a, dx, vs, rfl, ho a (at_out c r (by rw [e]; intro ds z; cases z) (by rw [e]; intro z; cases z) (by rintro ns rfl; cases e)) (by rw [h1]; simp), h1, h2, allO_reps ih q h3⟩
    · split at h
      · cases h; exact r
      · cases h
    · cases h
    · rename_i x k1 k2 k3 k4 k5 k6
      cases h
      cases d with
      | bl b => exact r
      | int b => exact r
      | str b => exact r
      | scr ns =>
        obtain ⟨a, e, h1⟩ := r
        rcases h1 with ⟨o, h1, z⟩ | h1
        · exact ⟨a, e, .inl ⟨o, h1, ho a (.inl z) (by rw [h1]; simp)⟩⟩
        · exact ⟨a, e, .inr h1⟩
      | non => exact absurd rfl k5
      | tup ds => exact absurd rfl (k1 ds)
      | lst ds => exact absurd rfl (k2 ds)
      | dic ks ds => exact absurd rfl (k3 ks ds)
      | ins k ds => exact absurd rfl (k4 k ds)
      | ref i =>
        exfalso
        have e : ∀ o, G[i]? = o → vw G (.ref i) = match o with
          | some (.lst ds) => D.lst ds
          | some (.tup [.lst ds]) => .lst ds
          | some (.dic ks ds) => .dic ks ds
          | some (.tup [.dic ks ds]) => .dic ks ds
          | some (.ins c ds) => .ins c ds
          | _ => .non := fun o h => by subst h; rfl
        have e := e _ rfl
        split at e
        · exact k2 _ e
        · exact k2 _ e
        · exact k3 _ _ e
        · exact k3 _ _ e
        · exact k4 _ _ e
        · exact k5 e
end
/-- the freezing depth -/
abbrev frzN : Nat := 40

/-! ### a part run with a heap of its own -/
/-- back from a run that began at H0 with the new objects nw, all others out -/
structure Sub (ms : Ms) (H : Hp) (nw : List Addr) (H0 : Hp) : Prop where
  s : Stp ms H ms H0
  k : ∀ a o, H a = some o → H0 a = some o ∧ a ∉ nw
  n : ∀ a ∈ nw, H a = none
abbrev Ms.sub (ms : Ms) (nw : List Addr) : Ms := ⟨nw, ms.nm ++ ms.hid⟩
section
variable {ms ms' : Ms} {H H0 H' : Hp} {G G' : GH} {nw : List Addr}
theorem Sub.refl : Sub ms H [] H := ⟨Stp.refl _ _, fun a o h => ⟨h, by simp⟩, fun a h => by simp at h⟩
theorem Cf.there (c : Cf T ms H G) : ∀ a ∈ ms.nm ++ ms.hid, H a ≠ none := fun a h => by
  rcases List.mem_append.mp h with h | h
  · exact fun z => c.outN z h
  · exact c.hd a h
theorem Sub.stp (u : Sub ms H nw H0) (s : Stp (ms.sub nw) H0 ms' H') : Stp ms H ms H' :=
  ⟨⟨[], by simp, fun a h => by simp at h⟩, ⟨fun _ h => h, fun _ h => .inl h⟩, fun a o h _ nt => s.keep a o (u.k a o h).1 (u.k a o h).2 nt, fun a vs h => s.tups a vs (u.k a _ h).1, fun a h => u.s.there a (s.there a h)⟩
theorem Sub.cf (u : Sub ms H nw H0) (c : Cf T ms H G) (s : Stp (ms.sub nw) H0 ms' H') (tb : LamX.Tabs T.tbs H') : Cf T ms H' G :=
  ⟨c.nd, c.len, fun a h z => c.hd a h ((u.stp s).there a z), fun i o a hi ha => MRep.tr (u.stp s).tr (fun w e nt => s.keep a w (u.k a _ e).1 (u.k a _ e).2 nt) (c.obj i o a hi ha), tb⟩
theorem Sub.out (u : Sub ms H nw H0) (c : Cf T ms H G) (s : Stp (ms.sub nw) H0 ms' H') : ∀ a, Out ms' a ∨ a ∈ ms'.nm → H' a ≠ none → Out ms a := fun a h _ => by
  have key : a ∉ ms.nm ++ ms.hid → Out ms a := fun z => ⟨fun q => z (List.mem_append.mpr (.inl q)), fun q => z (List.mem_append.mpr (.inr q))⟩
  rcases h with h | h
  · exact key fun z => h.2 (s.hid.1 a z)
  · refine key fun z => ?_
    obtain ⟨e, q, he⟩ := s.ext
    rw [q] at h
    rcases List.mem_append.mp h with h | h
    · exact c.there a z (u.n a h)
    · exact c.there a z (u.s.there a (he a h))
/-- arguments without numbers go in -/
theorem Sub.args (u : Sub ms H nw H0) (c : Cf T ms H G) {ds : List D} {vs : List V} (n : noRefs ds = true) (r : Reps T ms H ds vs) : Reps T (ms.sub nw) H0 ds vs := by
  have r1 : Reps T (ms.sub nw) H ds vs := reps_out (fun a o h => ⟨fun z => by
    have := u.n a z
    exact h this, fun z => (List.mem_append.mp z).elim o.1 o.2⟩) ds vs n r
  refine Reps.tr ⟨fun a o e _ n => ⟨(u.k a o e).1, n⟩, fun a vs e => (u.k a _ e).1, fun i a h => h⟩ ds vs r1
theorem Sub.start (u : Sub ms H [] H0) (c : Cf T ms H G) : Cf T (ms.sub []) H0 [] := ⟨List.nodup_nil, rfl, fun a h z => c.there a h (u.s.there a z), fun i o a h => by simp at h, c.tb.ext fun b o e => (u.k b o e).1⟩
end
/-- a result, frozen, over the heap as it was -/
def backR (G : GH) (r : R D) : R D := match r with
  | .ok d G1 => (match frz frzN G1 d with
    | some d' => .ok d' G
    | none => .st)
  | .ex e G1 => (match allO (frz frzN G1) e.ds with
    | some ds => .ex ⟨e.c, ds⟩ G
    | none => .st)
  | .st => .st
theorem XRep.back {ms ms' : Ms} {H : Hp} {G : GH} {e : Exn} {ds : List D} {cls : Value} {dx : Option Addr} (c : Cf T ms H G) (ho : ∀ a, Out ms a ∨ a ∈ ms.nm → H a ≠ none → Out ms' a) (h : allO (frz frzN G) e.ds = some ds) (x : XRep T ms H e cls dx) : XRep T ms' H ⟨e.c, ds⟩ cls dx := by
  refine ⟨x.1, ?_⟩
  have x2 := x.2
  cases dx with
  | none =>
    have x2' : e.ds = [] := x2
    rw [x2'] at h
    cases h
    rfl
  | some y =>
    obtain ⟨vs, h1, h2, h3, h4⟩ := x2
    exact ⟨vs, h1, h2, ho y (.inl h3) (by rw [h1]; simp), allO_reps (fun d v d' q r => frz_rep c ho frzN d v d' q r) h h4⟩
theorem sub_back {ms : Ms} {H H0 : Hp} {G : GH} {nw : List Addr} {W : Value → Option Addr → Hp → Prop} {r : R D} {Q : VK} (u : Sub ms H nw H0) (c : Cf T ms H G) (h : OkE T W (backR G r) ms H Q) : OkE T W r (ms.sub nw) H0 Q := by
  cases r with
  | ok d G1 =>
    intro v H' ms' s r1 c1
    have h' : OkE T W (match frz frzN G1 d with | some d' => .ok d' G | none => .st) ms H Q := h
    cases q : frz frzN G1 d with
    | none => rw [q] at h'; exact h'.elim
    | some d' =>
      rw [q] at h'
      exact h' v H' ms (u.stp s) (frz_rep c1 (u.out c s) frzN d v d' q r1) (u.cf c s c1.tb)
  | ex e G1 =>
    intro cls dx H' ms' s x1 c1
    have h' : OkE T W (match allO (frz frzN G1) e.ds with | some ds => .ex ⟨e.c, ds⟩ G | none => .st) ms H Q := h
    cases q : allO (frz frzN G1) e.ds with
    | none => rw [q] at h'; exact h'.elim
    | some ds =>
      rw [q] at h'
      exact h' cls dx H' ms (u.stp s) (XRep.back c1 (u.out c s) q x1) (u.cf c s c1.tb)
  | st => exact h.elim
/-- by values alone: the callee sees none of the heap, and its result is frozen -/
def pureW (m : FM) : FM := fun ds G => if noRefs ds then backR G (m ds []) else .st
theorem spD_pure {n : Nat} {m : FM} : ∀ vs H Q E, spD T n (pureW m) vs H Q E → spD T n m vs H Q E := fun vs H Q E ⟨hl, ds, ms, G, r, c, h⟩ => by
  obtain ⟨p, h⟩ := ifst h
  have u : Sub ms H [] H := Sub.refl
  exact ⟨hl, ds, ms.sub [], [], u.args c p r, u.start c, sub_back u c h⟩
end DL

set_option Elab.async false
set_option linter.all false
set_option maxRecDepth 100000
set_option maxHeartbeats 2000000
set_option autoImplicit false
namespace DL
open PySem L2
variable {X : Cx} {T : TC} {W : WX} {a b c e o : Expr} {es : List Expr} {fa fb fc : F} {ga gb gc : FT} {pos p apos : Pos} {st : Stmt} {sts : List Stmt} {s t : FS} {kws : List Keyword} {k n : Nat} {x m : Str}

/-! ### arguments of a call, by place and by name -/
/-- the values come to us (by place) and ws (by the names ks) -/
structure AC (X : Cx) (pos : Pos) (es : List Expr) (kws : List Keyword) (nU : Nat) (ks : List Str) (t : TA) : Prop where
  run : ∀ (f : Value) (first : List Value) (pins : List (Addr × Obj)) (s : Shared) (σ : St) (H : Hp) (R : List V → Hp → Prop) (Q : Value → Shared → Prop), PySem.W.keepIn X.K f = true → Inv X pins σ H s → t σ H R →
    (∀ (vs : List V) (us ws : List Value) (s1 : Shared) (H1 : Hp), Inv X pins σ H1 s1 → R vs H1 → Vals vs (us ++ ws) → us.length = nU → ws.length = ks.length → wpAny (model X.prog X.w) X.A (call f (first ++ us) (ks.zip ws)) Q X.xe s1) →
    wpAny (model X.prog X.w) X.A (callWith pos f first (backTo pos (starEach es X.env)) (backToKw pos (keywordEach kws X.env))) Q X.xe s
def tLen (n : Nat) (t : TA) : TA := fun σ H Q => t σ H fun vs H1 => vs.length = n ∧ Q vs H1
def tBoth (nU nK : Nat) (t tk : TA) : TA := fun σ H Q => t σ H fun vs H1 => tk σ H1 fun zs H2 => vs.length = nU ∧ zs.length = nK ∧ Q (vs ++ zs) H2
theorem ac_pos {t : TA} (ha : PA X (e :: es) t) (hst : starEach (e :: es) X.env = (false, eval e X.env) :: starEach es X.env := by rfl) (hpl : (backTo pos (starEach es X.env)).any (·.1) = false := by rfl) : AC X pos (e :: es) [] n [] (tLen n t) :=
  ⟨fun f first pins s σ H R Q hk I h K => by
    refine PySem.W.callWith_K (first := first) (h₀ := X.base) I.ok.mod.kin hk (thn (ha.run pos pins s σ H _ I h) fun us s1 ⟨vs, H1, I1, r, hl, q⟩ => ⟨I1.kIn, ?_⟩) hst hpl
    exact K vs us [] s1 H1 I1 q (by rw [List.append_nil]; exact r) (by rw [← r.length]; exact hl) rfl⟩
theorem ac_nil : AC X pos [] [] 0 [] tNil :=
  ⟨fun f first pins s σ H R Q hk I h K => by
    refine PySem.W.callWith_K0 (first := first) I.kIn hk ?_
    have q := K [] [] [] s H I h .nil rfl rfl
    rw [List.append_nil] at q ⊢
    exact q⟩
theorem ac_kw {tk : TA} {ks : List Str} (hkw : PK X kws tk) (hall : (backToKw pos (keywordEach kws X.env)).all (·.1.isSome) = true := by rfl) (hks : (backToKw pos (keywordEach kws X.env)).filterMap (·.1) = ks := by rfl)
    (hpl : ((backTo pos (starEach [] X.env)).any (·.1) || (backToKw pos (keywordEach kws X.env)).any (·.1.isNone)) = false := by rfl) : AC X pos [] kws 0 ks (tLen ks.length tk) :=
  ⟨fun f first pins s σ H R Q hk I h K => by
    refine PySem.W.callWith_KW0 (first := first) (h₀ := X.base) I.ok.mod.kin hk hall ?_ hpl
    refine thn (hkw.run pos pins s σ H _ I h) fun ws s2 ⟨zs, H2, I2, rz, hl, q2⟩ => ⟨I2.kIn, ?_⟩
    rw [hks]
    exact K zs [] ws s2 H2 I2 q2 rz rfl (by rw [← rz.length]; exact hl)⟩
theorem ac_both {t tk : TA} {ks : List Str} (ha : PA X (e :: es) t) (hkw : PK X kws tk) (hall : (backToKw pos (keywordEach kws X.env)).all (·.1.isSome) = true := by rfl) (hks : (backToKw pos (keywordEach kws X.env)).filterMap (·.1) = ks := by rfl)
    (hst : starEach (e :: es) X.env = (false, eval e X.env) :: starEach es X.env := by rfl)
    (hpl : ((backTo pos (starEach (e :: es) X.env)).any (·.1) || (backToKw pos (keywordEach kws X.env)).any (·.1.isNone)) = false := by rfl) : AC X pos (e :: es) kws n ks (tBoth n ks.length t tk) :=
  ⟨fun f first pins s σ H R Q hk I h K => by
    refine PySem.W.callWith_KW (first := first) (h₀ := X.base) I.ok.mod.kin hk hall (thn (ha.run pos pins s σ H _ I h) fun us s1 ⟨vs, H1, I1, r, q⟩ => ?_) hpl hst
    refine thn (hkw.run pos pins s1 σ H1 _ I1 q) fun ws s2 ⟨zs, H2, I2, rz, l1, l2, q2⟩ => ⟨I2.kIn, ?_⟩
    rw [hks]
    exact K (vs ++ zs) us ws s2 H2 I2 q2 (r.append rz) (by rw [← r.length]; exact l1) (by rw [← rz.length]; exact l2)⟩
/-- by mirrors -/
abbrev JC (X : Cx) (T : TC) (W : WX) (pos : Pos) (es : List Expr) (kws : List Keyword) (nU : Nat) (ks : List Str) (f : FA) : Prop := AC X pos es kws nU ks (taOf T W f)
theorem AC.imp {nU : Nat} {ks : List Str} {t t' : TA} (h : AC X pos es kws nU ks t) (k : ∀ σ H Q, t' σ H Q → t σ H Q) : AC X pos es kws nU ks t' := ⟨fun f first pins s σ H R Q hk I q K => h.run f first pins s σ H R Q hk I (k _ _ _ q) K⟩
abbrev JK (X : Cx) (T : TC) (W : WX) (kws : List Keyword) (f : FA) : Prop := PK X kws (taOf T W f)
theorem PK.imp {t t' : TA} (h : PK X kws t) (k : ∀ σ H Q, t' σ H Q → t σ H Q) : PK X kws t' := ⟨fun pos pins s σ H Q I q => h.run pos pins s σ H Q I (k σ H Q q)⟩
theorem jk_nil : JK X T W [] fNil := PK.imp pk_nil fun σ H Q ⟨ρ, ms, G, he, hc, h⟩ => h [] H ms (Stp.refl _ _) rfl hc
theorem jk_cons {fr : FA} {nm : Option Str} {kpos : Pos} (ha : JE X T W e fa) (hr : JK X T W kws fr) : JK X T W (⟨nm, e, kpos⟩ :: kws) (fCons fa fr) :=
  PK.imp (pk_cons ha hr) fun σ H Q ⟨ρ, ms, G, he, hc, h⟩ => ⟨ρ, ms, G, he, hc, (OkG.bnd h).imp fun x H1 ⟨k, G1, ms1, _, s1, r1, c1, h1⟩ =>
    ⟨ρ, ms1, G1, he.mono s1, c1, (OkG.bnd h1).imp fun xs H2 ⟨ks, G2, ms2, _, s2, r2, c2, h2⟩ => h2 (x :: xs) H2 ms2 (Stp.refl _ _) ⟨x, xs, rfl, Rep.mono s2 _ _ r1, r2⟩ c2⟩⟩
def fLen (n : Nat) (f : FA) : FA := fun ρ G => (f ρ G).bnd fun ds G1 => if ds.length = n then .ok ds G1 else .st
def fBoth (n m : Nat) (f g : FA) : FA := fun ρ G => (f ρ G).bnd fun ds G1 => (g ρ G1).bnd fun es G2 => if ds.length = n ∧ es.length = m then .ok (ds ++ es) G2 else .st
theorem jc_nil : JC X T W pos [] [] 0 [] fNil := AC.imp ac_nil fun σ H Q ⟨ρ, ms, G, he, hc, h⟩ => h [] H ms (Stp.refl _ _) rfl hc
theorem t_len {f : FA} {n : Nat} {σ : St} {H : Hp} {Q : List V → Hp → Prop} (h : taOf T W (fLen n f) σ H Q) : tLen n (taOf T W f) σ H Q := by
  obtain ⟨ρ, ms, G, he, hc, h⟩ := h
  exact ⟨ρ, ms, G, he, hc, (OkG.bnd h).imp fun vs H1 ⟨ds, G1, ms1, _, s1, r1, c1, h1⟩ => by
    obtain ⟨p, h1⟩ := iflt h1
    exact ⟨by rw [r1.len]; exact p, h1 vs H1 ms1 (Stp.refl _ _) r1 c1⟩⟩
theorem jc_pos {f : FA} (ha : JA X T W (e :: es) f) (hst : starEach (e :: es) X.env = (false, eval e X.env) :: starEach es X.env := by rfl) (hpl : (backTo pos (starEach es X.env)).any (·.1) = false := by rfl) : JC X T W pos (e :: es) [] n [] (fLen n f) :=
  AC.imp (ac_pos ha hst hpl) fun _ _ _ h => t_len h
theorem jc_kw {f : FA} {ks : List Str} (hkw : JK X T W kws f) (hall : (backToKw pos (keywordEach kws X.env)).all (·.1.isSome) = true := by rfl) (hks : (backToKw pos (keywordEach kws X.env)).filterMap (·.1) = ks := by rfl)
    (hpl : ((backTo pos (starEach [] X.env)).any (·.1) || (backToKw pos (keywordEach kws X.env)).any (·.1.isNone)) = false := by rfl) : JC X T W pos [] kws 0 ks (fLen ks.length f) :=
  AC.imp (ac_kw hkw hall hks hpl) fun _ _ _ h => t_len h
theorem jc_both {f g : FA} {ks : List Str} (ha : JA X T W (e :: es) f) (hkw : JK X T W kws g) (hall : (backToKw pos (keywordEach kws X.env)).all (·.1.isSome) = true := by rfl) (hks : (backToKw pos (keywordEach kws X.env)).filterMap (·.1) = ks := by rfl)
    (hst : starEach (e :: es) X.env = (false, eval e X.env) :: starEach es X.env := by rfl)
    (hpl : ((backTo pos (starEach (e :: es) X.env)).any (·.1) || (backToKw pos (keywordEach kws X.env)).any (·.1.isNone)) = false := by rfl) : JC X T W pos (e :: es) kws n ks (fBoth n ks.length f g) :=
  AC.imp (ac_both ha hkw hall hks hst hpl) fun σ H Q ⟨ρ, ms, G, he, hc, h⟩ => ⟨ρ, ms, G, he, hc, (OkG.bnd h).imp fun vs H1 ⟨ds, G1, ms1, _, s1, r1, c1, h1⟩ =>
    ⟨ρ, ms1, G1, he.mono s1, c1, (OkG.bnd h1).imp fun zs H2 ⟨es, G2, ms2, _, s2, r2, c2, h2⟩ => by
      obtain ⟨p, h2⟩ := iflt h2
      exact ⟨by rw [r1.len]; exact p.1, by rw [r2.len]; exact p.2, h2 (vs ++ zs) H2 ms2 (Stp.refl _ _) ((Reps.mono s2 _ _ r1).app r2) c2⟩⟩⟩

/-! ### binding -/
def sel {α : Type} (prm : List Nat) (xs : List α) : List α := prm.filterMap fun i => xs[i]?
/-- nF values ahead (self), nU by place, the others by the names ks; prm: where each parameter's value stands -/
def KB (K : PySem.W.Frag) (fd : FuncData) (ps : List Str) (nF nU : Nat) (ks : List Str) (prm : List Nat) : Prop :=
  ∀ (s : Shared) (fs us ws : List Value), K.In s.heap → fs.length = nF → us.length = nU → ws.length = ks.length → BindsTo s fd ⟨fs ++ us, ks.zip ws⟩ (ps.zip (fs ++ sel prm (us ++ ws)))
theorem kb_of {K : PySem.W.Frag} {f : Addr} {fd : FuncData} {ps ks : List Str} {qual : Str} {nF nU : Nat} {prm : List Nat} (F : Fun K x qual st f fd)
    (h : ∀ (kV doc pm : Value) (an : Option Addr) (cdv ct : Value) (fs us ws : List Value), fs.length = nF → us.length = nU → ws.length = ks.length →
      bindArgs (PySem.W.fnOf x qual (defArgs st) (defBody st) (defScope st) .none kV doc pm an cdv ct) ⟨fs ++ us, ks.zip ws⟩ = pure (ps.zip (fs ++ sel prm (us ++ ws)))) : KB K fd ps nF nU ks prm := by
  obtain ⟨oc, od, kV, doc, pm, an, cdv, ct, osl, rfl, lk, hcd⟩ := F.ex
  exact fun s fs us ws _ h1 h2 h3 => .of_eq (h kV doc pm an cdv ct fs us ws h1 h2 h3)
theorem sel_vals {prm : List Nat} {vs : List V} {us : List Value} (r : Vals vs us) : Vals (sel prm vs) (sel prm us) := by
  induction prm with
  | nil => exact .nil
  | cons i prm ih =>
    unfold sel at ih ⊢
    rw [List.filterMap_cons, List.filterMap_cons]
    cases q : vs[i]? with
    | none =>
      have : us[i]? = none := by
        rw [List.getElem?_eq_none_iff] at q ⊢
        rw [← r.length]; exact q
      rw [this]; exact ih
    | some v =>
      obtain ⟨u, hu, ru⟩ := r.get q
      rw [hu]
      exact .cons ru ih
theorem sel_reps {ms : Ms} {H : Hp} {prm : List Nat} {ds : List D} {vs : List V} (r : Reps T ms H ds vs) : Reps T ms H (sel prm ds) (sel prm vs) := by
  induction prm with
  | nil => exact rfl
  | cons i prm ih =>
    unfold sel at ih ⊢
    rw [List.filterMap_cons, List.filterMap_cons]
    cases q : ds[i]? with
    | none =>
      have : vs[i]? = none := by
        rw [List.getElem?_eq_none_iff] at q ⊢
        rw [r.len]; exact q
      rw [this]; exact ih
    | some d =>
      obtain ⟨v, hv, rv⟩ := r.at q
      rw [hv]
      exact ⟨v, _, rfl, rv, ih⟩

/-! ### the callee runs -/
section
variable {pins : List (Addr × Obj)} {σ : St} {H : Hp} {sh : Shared} {Q : VK} {f C : Addr} {fd : FuncData} {ps : List Str} {sp : Sp}
theorem run_g {us : List Value} {vs : List V} {ar : Args} (B : Bd X T W k) (F : FnG X.prog X.w X.K X.mg X.base k f fd ps sp) (I : Inv X pins σ H sh) (hb : BindsTo sh fd ar (ps.zip us)) (r : Vals vs us) (h : sp vs H Q (wat W σ)) :
    wpAny (model X.prog X.w) X.A (call (.ref f) ar.pos ar.kw) (EP X pins σ Q) X.xe sh := by
  refine wpAny_call (codeAny_mono (F.run X.A X.stack sh H ar us vs Q (wat W σ) B.gd B.rm I.env0 hb r h) fun r s' hq => ?_)
  match r, hq with
  | .error e, hq => exact passAt B.tk σ pins H sh e s' I hq
  | .ok (.ret u), hq => exact I.after hq
  | .ok .next, hq => exact False.elim hq
  | .ok .brk, hq => exact False.elim hq
  | .ok .cont, hq => exact False.elim hq
theorem guards_make {A : Around} (g : A.guards = some []) (us : List Value) (kw : List (Str × Value)) : (A.under (.builtin "type.__call__" ⟨.ref C :: us, kw⟩)).guards = some [] := by
  have e : (Code.builtin "type.__call__" ⟨.ref C :: us, kw⟩).guards = [] := by simp [Code.guards, Code.isGuard, guardIds]
  show pushGuards (Code.builtin "type.__call__" ⟨.ref C :: us, kw⟩).guards A.guards = some []
  rw [e]
  exact g
theorem run_mk {us ws : List Value} {vs : List V} {ks : List Str} {nU : Nat} {prm : List Nat} (B : Bd X T W (k + 1)) (M : Mk X.K C f) (F : FnG X.prog X.w X.K X.mg X.base k f fd ps sp) (hb : KB X.K fd ps 1 nU ks prm) (I : Inv X pins σ H sh)
    (l1 : us.length = nU) (l2 : ws.length = ks.length) (r : Vals vs (us ++ ws))
    (h : ∀ x dx, H x = none → H dx = none → dx ≠ x → sp (.ref x :: sel prm vs) (upd (upd H dx (.own x)) x (.ins C dx [])) (fun v H2 => v = .non ∧ Q (.ref x) H2) (wat W σ)) :
    wpAny (model X.prog X.w) X.A (call (.ref C) us (ks.zip ws)) (EP X pins σ Q) X.xe sh := by
  have hq := h (sh.heap.objs.size + 1) sh.heap.objs.size (I.hok.fresh (Nat.le_succ _)) (I.hok.fresh (Nat.le_refl _)) (Nat.ne_of_lt (Nat.lt_succ_self _))
  have I2 := Inv.made (C := C) I
  have r2 : Vals (V.ref (sh.heap.objs.size + 1) :: sel prm vs) ([Value.ref (sh.heap.objs.size + 1)] ++ sel prm (us ++ ws)) := .cons rfl (sel_vals r)
  have bnd := hb _ [Value.ref (sh.heap.objs.size + 1)] us ws I2.kIn rfl l1 l2
  refine wpAny_call (make_map (f := f) I.kIn M.makes M.init (beq_iff_eq.mp M.fn) (codeAny_mono (F.run _ X.stack _ _ ⟨Value.ref (sh.heap.objs.size + 1) :: us, ks.zip ws⟩ _ _ _ (wat W σ) (guards_make B.gd us _) (B.rm.make C us _) (I2.env0.make C us _) bnd r2 hq) fun r s' hq' => ?_))
  match r, hq' with
  | .error e, hq' => exact passAt B.tk σ pins _ _ e s' I2 hq'
  | .ok (.ret u), hq' =>
    obtain ⟨v, H', I3, rv, ev, q3⟩ := I2.after hq'
    subst ev
    exact ⟨rv, ⟨V.ref (sh.heap.objs.size + 1), H', I3, rfl, q3⟩⟩
  | .ok .next, hq' => exact False.elim hq'
  | .ok .brk, hq' => exact False.elim hq'
  | .ok .cont, hq' => exact False.elim hq'
end

/-! ### defs, methods, classes with their mirrors -/
/-- the text around: the program, the world, the module's names, the base -/
structure Tx where
  P : Program
  w : World
  mg : Str → Option Value
  base : Heap
/-- a body's context lies in the text -/
structure In (X : Cx) (T : TC) (Y : Tx) : Prop where
  hP : X.prog = Y.P
  hw : X.w = Y.w
  hm : X.mg = Y.mg
  hb : X.base = Y.base
  hK : X.K = T.K
/-- the module's name x is the def st, with its mirror -/
def Kd (Y : Tx) (T : TC) (k : Nat) (x : Str) (st : Stmt) (ps : List Str) (m : FM) : Prop := ∃ (f : Addr) (fd : FuncData), Y.mg x = some (.ref f) ∧ Fun T.K x x st f fd ∧ FnG Y.P Y.w T.K Y.mg Y.base k f fd ps (spD T ps.length m)
/-- x is the method st of the class c -/
def Km (Y : Tx) (T : TC) (k : Nat) (c : Nat) (x qual : Str) (st : Stmt) (ps : List Str) (m : FM) : Prop := ∃ (f : Addr) (fd : FuncData), Meth T.K (T.cls c) x f ∧ Fun T.K x qual st f fd ∧ FnG Y.P Y.w T.K Y.mg Y.base k f fd ps (spD T ps.length m)
/-- the module's name x is the class c, made by its __init__ st -/
def Kc (Y : Tx) (T : TC) (k : Nat) (c : Nat) (x qual : Str) (st : Stmt) (ps : List Str) (m : FM) : Prop :=
  ∃ (f : Addr) (fd : FuncData), Y.mg x = some (.ref (T.cls c)) ∧ Mk T.K (T.cls c) f ∧ Fun T.K "__init__" qual st f fd ∧ FnG Y.P Y.w T.K Y.mg Y.base k f fd ps (spD T ps.length m)
theorem Kd.mono {Y : Tx} {j : Nat} {ps : List Str} {mm : FM} (h : Kd Y T j x st ps mm) (hk : j ≤ k) : Kd Y T k x st ps mm := let ⟨f, fd, a, b, c⟩ := h; ⟨f, fd, a, b, c.mono hk⟩
theorem Km.mono {Y : Tx} {j c : Nat} {qual : Str} {ps : List Str} {mm : FM} (h : Km Y T j c x qual st ps mm) (hk : j ≤ k) : Km Y T k c x qual st ps mm := let ⟨f, fd, a, b, c⟩ := h; ⟨f, fd, a, b, c.mono hk⟩
theorem Kc.mono {Y : Tx} {j c : Nat} {qual : Str} {ps : List Str} {mm : FM} (h : Kc Y T j c x qual st ps mm) (hk : j ≤ k) : Kc Y T k c x qual st ps mm := let ⟨f, fd, a, b, c, d⟩ := h; ⟨f, fd, a, b, c, d.mono hk⟩
/-- f(..) -/
def fCall (prm : List Nat) (m : FM) (fs : FA) : F := fun ρ G => (fs ρ G).bnd fun ds G1 => if (sel prm ds).length = prm.length then m (sel prm ds) G1 else .st
theorem j_call {Y : Tx} {ps ks : List Str} {nU : Nat} {prm : List Nat} {mm : FM} {fs : FA} (B : Bd X T W k) (i : In X T Y) (D : Kd Y T k x st ps mm) (hg : Gl X x) (hb : ∀ f fd, Fun T.K x x st f fd → KB T.K fd ps 0 nU ks prm) (hn : prm.length = ps.length)
    (ha : JC X T W pos es kws nU ks fs) (hd : (x == ("__debug__" : Str)) = false := by decide) : JE X T W (.Call (.Name x p) es kws pos) (fCall prm (pureW mm) fs) := by
  obtain ⟨f, fd, hm, F, G⟩ := D
  obtain ⟨e1, e2, e3, e4, e5⟩ := i
  rw [← e1, ← e2, ← e3, ← e4, ← e5] at G
  rw [← e3] at hm
  refine ⟨fun pins s σ H Q I h => ?_⟩
  refine wpAny_Call_Name_kw (ld_glob I hg hm ?_ hd)
  obtain ⟨ρ, ms, G0, he, hc, h⟩ := h
  refine ha.run (.ref f) [] pins s σ H _ _ (by rw [e5]; exact F.kp) I ⟨ρ, ms, G0, he, hc, OkG.bnd h⟩ fun vs us ws s1 H1 I1 ⟨ds, G1, ms1, _, st1, r1, c1, h1⟩ r l1 l2 => ?_
  obtain ⟨q, h1⟩ := iflt h1
  have bnd := hb f fd F s1 [] us ws (by rw [← e5]; exact I1.kIn) rfl l1 l2
  refine run_g (ar := ⟨us, ks.zip ws⟩) B G I1 bnd (sel_vals r) (spD_pure _ _ _ _ ⟨?_, _, ms1, G1, sel_reps r1, c1, h1⟩)
  rw [(sel_reps r1).len, q]
  exact hn
/-- f(..), with the heap -/
theorem j_callH {Y : Tx} {ps ks : List Str} {nU : Nat} {prm : List Nat} {mm : FM} {fs : FA} (B : Bd X T W k) (i : In X T Y) (D : Kd Y T k x st ps mm) (hg : Gl X x) (hb : ∀ f fd, Fun T.K x x st f fd → KB T.K fd ps 0 nU ks prm) (hn : prm.length = ps.length)
    (ha : JC X T W pos es kws nU ks fs) (hd : (x == ("__debug__" : Str)) = false := by decide) : JE X T W (.Call (.Name x p) es kws pos) (fCall prm mm fs) := by
  obtain ⟨f, fd, hm, F, G⟩ := D
  obtain ⟨e1, e2, e3, e4, e5⟩ := i
  rw [← e1, ← e2, ← e3, ← e4, ← e5] at G
  rw [← e3] at hm
  refine ⟨fun pins s σ H Q I h => ?_⟩
  refine wpAny_Call_Name_kw (ld_glob I hg hm ?_ hd)
  obtain ⟨ρ, ms, G0, he, hc, h⟩ := h
  refine ha.run (.ref f) [] pins s σ H _ _ (by rw [e5]; exact F.kp) I ⟨ρ, ms, G0, he, hc, OkG.bnd h⟩ fun vs us ws s1 H1 I1 ⟨ds, G1, ms1, _, st1, r1, c1, h1⟩ r l1 l2 => ?_
  obtain ⟨q, h1⟩ := iflt h1
  have bnd := hb f fd F s1 [] us ws (by rw [← e5]; exact I1.kIn) rfl l1 l2
  refine run_g (ar := ⟨us, ks.zip ws⟩) B G I1 bnd (sel_vals r) ⟨?_, _, ms1, G1, sel_reps r1, c1, h1⟩
  rw [(sel_reps r1).len, q]
  exact hn
theorem zip_no {fl : List Str} {vs : List V} (h : m ∉ fl) : (fl.zip vs).lookup m = none := by
  rw [List.lookup_eq_none_iff]
  intro q hq
  have := (List.of_mem_zip (a := q.1) (b := q.2) hq).1
  simp
  exact fun e => h (by rw [e]; exact this)
def isIns (c : Nat) : D → Bool
  | .ins k _ => k == c
  | _ => false
theorem isIns_of {c : Nat} {d : D} (h : isIns c d = true) : ∃ ds, d = .ins c ds := by
  cases d with
  | ins k ds => exact ⟨ds, by rw [beq_iff_eq.mp h]⟩
  | _ => cases h
/-- o.m(..) -/
def fMeth (c : Nat) (prm : List Nat) (m : FM) (fo : F) (fs : FA) : F := fun ρ G => (fo ρ G).bnd fun o G1 => if isIns c (vw G1 o) then (fs ρ G1).bnd fun ds G2 => if (sel prm ds).length = prm.length then m (o :: sel prm ds) G2 else .st else .st
theorem j_methG {Y : Tx} {c : Nat} {qual : Str} {ps ks : List Str} {nU : Nat} {prm : List Nat} {mm m2 : FM} {fo : F} {fs : FA} {pl : Sem Bool} (hmm : ∀ vs H Q E, spD T ps.length m2 vs H Q E → spD T ps.length mm vs H Q E)
    (B : Bd X T W k) (i : In X T Y) (D : Km Y T k c m qual st ps mm) (hC : Cls T.K (T.cls c)) (hf : m ∉ T.fld c)
    (hb : ∀ f fd, Fun T.K m qual st f fd → KB T.K fd ps 1 nU ks prm) (hn : prm.length + 1 = ps.length) (ho : JE X T W o fo) (ha : JC X T W pos es kws nU ks fs)
    (ht : eval (.Call (.Attribute o m apos) es kws pos) X.env = (do
      let ov ← eval o X.env
      standAt apos.atName
      let (f, first) ← holding [ov] (getMethod ov m pl)
      callWith pos f first (backTo pos (starEach es X.env)) (backToKw pos (keywordEach kws X.env))) := by rfl) :
    JE X T W (.Call (.Attribute o m apos) es kws pos) (fMeth c prm m2 fo fs) := by
  obtain ⟨f, fd, hm, F, G⟩ := D
  obtain ⟨e1, e2, e3, e4, e5⟩ := i
  rw [← e1, ← e2, ← e3, ← e4, ← e5] at G
  refine ⟨fun pins s σ H Q I h => ?_⟩
  obtain ⟨ρ, ms, G0, he, hc, h⟩ := h
  refine PySem.W.methodCall_KW (pl := pl) (thn (ho.run pins s σ H _ I ⟨ρ, ms, G0, he, hc, OkG.bnd h⟩) fun u s1 ⟨y, H1, I1, ry, dy, G1, ms1, _, st1, r1, c1, h1⟩ => ?_) ht
  obtain ⟨q1, h1⟩ := ifst h1
  obtain ⟨ds0, e0⟩ := isIns_of q1
  obtain ⟨a, dx, fs0, rfl, ea, hl0, rr0⟩ := vw_ins c1 r1 e0
  obtain rfl : u = Value.ref a := ry
  refine getmeth_ok I1 ea (by rw [e5]; exact hC) (by rw [e5]; exact hm) (zip_no hf) ?_
  refine ha.run (.ref f) [.ref a] pins s1 σ H1 _ _ (by rw [e5]; exact F.kp) I1 ⟨ρ, ms1, G1, he.mono st1, c1, OkG.bnd h1⟩ fun vs us ws s2 H2 I2 ⟨ds, G2, ms2, _, st2, r2, c2, h2⟩ r l1 l2 => ?_
  obtain ⟨q, h2⟩ := iflt h2
  have bnd := hb f fd F s2 [.ref a] us ws (by rw [← e5]; exact I2.kIn) rfl l1 l2
  refine run_g (ar := ⟨Value.ref a :: us, ks.zip ws⟩) B G I2 bnd (.cons (show RelV (V.ref a) (Value.ref a) from rfl) (sel_vals r)) (hmm _ _ _ _ ⟨?_, dy :: sel prm ds, ms2, G2, ⟨_, _, rfl, Rep.mono st2 _ _ r1, sel_reps r2⟩, c2, h2⟩)
  rw [List.length_cons, (sel_reps r2).len, q]
  exact hn
/-- C(..) -/
def makeW (c : Nat) (m : FM) : FM := fun ds G => if noRefs ds then (match m (D.ref 0 :: ds) [D.ins c []] with
  | .ok D.non G1 => (match (G1 : List D)[0]? with
    | some (D.ins k fs) => if k = c then (match allO (frz frzN G1) fs with
      | some fs' => .ok (.ins c fs') G
      | none => .st) else .st
    | _ => .st)
  | .ok _ _ => .st
  | .ex e G1 => backR G (.ex e G1)
  | .st => .st) else .st
def fMake (c : Nat) (prm : List Nat) (m : FM) (fs : FA) : F := fun ρ G => (fs ρ G).bnd fun ds G1 => if (sel prm ds).length = prm.length then makeW c m (sel prm ds) G1 else .st
theorem make_ok {c : Nat} {mm : FM} {ms : Ms} {H : Hp} {G : GH} {ds : List D} {vs : List V} {n : Nat} {Q : VK} {E : XK} (hn : vs.length + 1 = n) (hc : Cf T ms H G) (r : Reps T ms H ds vs) (h : OkE T E (makeW c mm ds G) ms H Q) :
    ∀ x dx, H x = none → H dx = none → dx ≠ x → spD T n mm (.ref x :: vs) (upd (upd H dx (.own x)) x (.ins (T.cls c) dx [])) (fun v H2 => v = .non ∧ Q (.ref x) H2) E := fun x dx hx hdx hne => by
  obtain ⟨p, h⟩ := ifst h
  have hx1 : upd H dx (.own x) x = none := by rw [upd_ne hne.symm]; exact hx
  have s1 : Stp ms H ms (upd (upd H dx (.own x)) x (.ins (T.cls c) dx [])) := (Stp.new hdx).trans (Stp.new hx1)
  have u : Sub ms H [x] (upd (upd H dx (.own x)) x (.ins (T.cls c) dx [])) := ⟨s1, fun a o z => ⟨by rw [upd_ne (ne_of_none z hx), upd_ne (ne_of_none z hdx)]; exact z, fun z2 => by rw [List.mem_singleton.mp z2, hx] at z; cases z⟩, fun a z => by rw [List.mem_singleton.mp z]; exact hx⟩
  have c0 : Cf T (ms.sub [x]) (upd (upd H dx (.own x)) x (.ins (T.cls c) dx [])) [.ins c []] := ⟨by simp, rfl, fun a z q => hc.there a z (u.s.there a q), fun i o a hi ha => by
    match i, hi, ha with
    | 0, hi, ha =>
      cases hi
      cases ha
      exact ⟨dx, [], by rw [upd_same]; simp, Nat.zero_le _, rfl⟩
    | i + 1, hi, ha => simp at hi, hc.tb.ext fun b o e => (u.k b o e).1⟩
  refine ⟨by rw [List.length_cons]; exact hn, .ref 0 :: ds, ms.sub [x], [.ins c []], ⟨_, _, rfl, ⟨x, rfl, rfl⟩, u.args hc p r⟩, c0, ?_⟩
  cases q : mm (.ref 0 :: ds) [.ins c []] with
  | st => rw [q] at h; exact h.elim
  | ex e G1 =>
    rw [q] at h
    have h2 : OkE T E (backR G (.ex e G1)) ms H Q := h
    have := sub_back (Q := Q) u hc h2
    exact this
  | ok d G1 =>
    rw [q] at h
    cases d with
    | non =>
      intro v H' ms' s2 rv c2
      cases rv
      refine ⟨rfl, ?_⟩
      simp only at h
      split at h
      · rename_i k2 fs hg
        obtain ⟨ek, h⟩ := iflt h
        subst ek
        split at h
        · rename_i fs' hf
          have hnm : ms'.nm[0]? = some x := by
            obtain ⟨e, q2, _⟩ := s2.ext
            rw [q2]
            rfl
          obtain ⟨dx', vs', h1, h2, h3⟩ := c2.obj 0 _ x hg hnm
          have ho := u.out hc s2
          refine h _ H' ms (u.stp s2) ⟨x, dx', vs', rfl, ho x (.inr (List.mem_of_getElem? hnm)) (by rw [h1]; simp), h1, h2, allO_reps (fun d v d' q r => frz_rep c2 ho frzN d v d' q r) hf h3⟩ (u.cf hc s2 c2.tb)
        · exact h.elim
      · exact h.elim
    | _ => exact h.elim
theorem j_make {Y : Tx} {c : Nat} {qual : Str} {ps ks : List Str} {nU : Nat} {prm : List Nat} {mm : FM} {fs : FA} (B : Bd X T W (k + 1)) (i : In X T Y) (D : Kc Y T k c x qual st ps mm) (hg : Gl X x) (hb : ∀ f fd, Fun T.K "__init__" qual st f fd → KB T.K fd ps 1 nU ks prm)
    (hn : prm.length + 1 = ps.length) (ha : JC X T W pos es kws nU ks fs) (hd : (x == ("__debug__" : Str)) = false := by decide) : JE X T W (.Call (.Name x p) es kws pos) (fMake c prm mm fs) := by
  obtain ⟨f, fd, hm, M, F, G⟩ := D
  obtain ⟨e1, e2, e3, e4, e5⟩ := i
  rw [← e1, ← e2, ← e3, ← e4, ← e5] at G
  rw [← e3] at hm
  refine ⟨fun pins s σ H Q I h => ?_⟩
  refine wpAny_Call_Name_kw (ld_glob I hg hm ?_ hd)
  obtain ⟨ρ, ms, G0, he, hc, h⟩ := h
  refine ha.run (.ref (T.cls c)) [] pins s σ H _ _ (by rw [e5]; exact M.kp) I ⟨ρ, ms, G0, he, hc, OkG.bnd h⟩ fun vs us ws s1 H1 I1 ⟨ds, G1, ms1, _, st1, r1, c1, h1⟩ r l1 l2 => ?_
  obtain ⟨q, h1⟩ := iflt h1
  exact run_mk B (by rw [e5]; exact M) G (by rw [e5]; exact hb f fd F) I1 l1 l2 r (make_ok (by rw [(sel_reps r1).len, q]; exact hn) c1 (sel_reps r1) h1)
end DL

set_option Elab.async false
set_option linter.all false
set_option maxRecDepth 100000
set_option maxHeartbeats 2000000
set_option autoImplicit false
namespace DL
open PySem L2
variable {X : Cx} {T : TC} {W : WX} {a b c e o : Expr} {es : List Expr} {fa fb fc : F} {ga gb gc : FT} {pos p apos : Pos} {st : Stmt} {sts : List Stmt} {s t : FS} {k n : Nat} {x m : Str}

/-! ### a comprehension's block -/
theorem Bd.blk {sh : Shared} {H : Hp} {scope : Scope} {cenv : PySem.Env} {fp : List Addr} (B : Bd X T W k) : Bd (X.blk sh H scope cenv fp) T WN k :=
  ⟨B.gd, B.rm, fun _ _ x => by
    obtain ⟨_, _, _, _, _, _, _, _, _, _, _, _, _, _, _, _, z⟩ := x
    exact z.elim, B.cm, B.nd, B.hK, PassesOwn.never⟩

/-! ### attributes -/
theorem lookup_zip {f : Str} {v : V} : ∀ {fl : List Str} {vs : List V} {i : Nat}, fl.Nodup → fl[i]? = some f → vs[i]? = some v → (fl.zip vs).lookup f = some v
  | [], _, _, _, h, _ => by simp at h
  | _ :: _, [], _, _, _, h => by simp at h
  | g :: fl, w :: vs, 0, _, h1, h2 => by
    simp at h1 h2
    subst h1 h2
    simp [List.lookup]
  | g :: fl, w :: vs, i + 1, nd, h1, h2 => by
    have nd' := List.nodup_cons.mp nd
    have h1' : fl[i]? = some f := by simpa using h1
    have h2' : vs[i]? = some v := by simpa using h2
    have ne : (f == g) = false := by
      rw [beq_eq_false_iff_ne]
      intro z
      exact nd'.1 (by rw [← z]; exact List.mem_of_getElem? h1')
    show ((g, w) :: fl.zip vs).lookup f = some v
    rw [List.lookup_cons, ne]
    exact lookup_zip nd'.2 h1' h2'
/-- the field f stands at these places in these classes -/
structure FldOk (T : TC) (f : Str) (cs : List (Nat × Nat)) : Prop where
  at_ : ∀ q ∈ cs, (T.fld q.1)[q.2]? = some f ∧ Cls T.K (T.cls q.1) ∧ NoAttr T.K (T.cls q.1) f
theorem FldOk.nil {f : Str} : FldOk T f [] := ⟨fun q h => by simp at h⟩
theorem FldOk.cons {f : Str} {c i : Nat} {cs : List (Nat × Nat)} (h1 : (T.fld c)[i]? = some f) (h2 : Cls T.K (T.cls c)) (h3 : NoAttr T.K (T.cls c) f) (r : FldOk T f cs) : FldOk T f ((c, i) :: cs) :=
  ⟨fun q h => (List.mem_cons.mp h).elim (fun e => by rw [e]; exact ⟨h1, h2, h3⟩) (r.at_ q)⟩
def fldIx : List (Nat × Nat) → Nat → Option Nat
  | [], _ => none
  | (k, i) :: r, c => if k = c then some i else fldIx r c
theorem fldIx_mem {c i : Nat} : ∀ {cs : List (Nat × Nat)}, fldIx cs c = some i → (c, i) ∈ cs
  | [], h => by cases h
  | (k, j) :: r, h => by
    unfold fldIx at h
    by_cases e : k = c
    · rw [if_pos e] at h
      cases h
      rw [e]
      exact List.mem_cons_self
    · rw [if_neg e] at h
      exact List.mem_cons_of_mem _ (fldIx_mem h)
def gFld (cs : List (Nat × Nat)) (o : D) (G : GH) : R D := match vw G o with
  | .ins c ds => (match fldIx cs c with
    | some i => oSome ds[i]? G
    | none => .st)
  | _ => .st
def fFld (cs : List (Nat × Nat)) (fo : F) : F := fun ρ G => (fo ρ G).bnd fun o G1 => gFld cs o G1
theorem j_fld {f : Str} {cs : List (Nat × Nat)} {fo : F} (hf : FldOk T f cs) (ho : JE X T W o fo) (hb : attributeBase o f X.env (eval o X.env) = eval o X.env := by rfl) (hK : T.K = X.K := by rfl) : JE X T W (.Attribute o f pos) (fFld cs fo) :=
  PE.imp (pe_fld ho hb) fun σ H Q ⟨ρ, ms, G, he, hc, h⟩ => ⟨ρ, ms, G, he, hc, (OkG.bnd h).imp fun x H1 ⟨d, G1, ms1, _, s1, r1, c1, h1⟩ => by
    unfold gFld at h1
    split at h1
    · rename_i c ds e
      split at h1
      · rename_i i hi
        obtain ⟨y, hy, h1⟩ := oSome_of h1
        obtain ⟨a, dx, vs, rfl, ha, hl, rs⟩ := vw_ins c1 r1 e
        obtain ⟨q1, q2, q3⟩ := hf.at_ _ (fldIx_mem hi)
        obtain ⟨v, hv, rv⟩ := rs.at hy
        exact ⟨a, _, dx, _, v, rfl, ha, by rw [← hK]; exact q2, by rw [← hK]; exact q3, lookup_zip (T.nd _) q1 hv, h1 v H1 ms1 (Stp.refl _ _) rv c1⟩
      · exact h1.elim
    · exact h1.elim⟩
theorem putF_new {f : Str} {y : V} : ∀ {fl : List Str} {vs : List V}, fl.Nodup → fl[vs.length]? = some f → putF f y (fl.zip vs) = fl.zip (vs ++ [y])
  | [], _, _, h => by simp at h
  | g :: fl, [], _, h => by
    simp at h
    subst h
    simp [putF]
  | g :: fl, w :: vs, nd, h => by
    have nd' := List.nodup_cons.mp nd
    have h' : fl[vs.length]? = some f := by simpa using h
    have ne : g ≠ f := fun z => nd'.1 (by rw [z]; exact List.mem_of_getElem? h')
    show (if g = f then (g, y) :: fl.zip vs else (g, w) :: putF f y (fl.zip vs)) = _
    rw [if_neg ne, putF_new nd'.2 h']
    rfl
theorem putF_old {f : Str} {y : V} : ∀ {fl : List Str} {vs : List V} {i : Nat}, fl.Nodup → fl[i]? = some f → i < vs.length → putF f y (fl.zip vs) = fl.zip (vs.set i y)
  | [], _, _, _, h, _ => by simp at h
  | _ :: _, [], _, _, _, h => by simp at h
  | g :: fl, w :: vs, 0, _, h, _ => by
    simp at h
    subst h
    show (if g = g then (g, y) :: fl.zip vs else _) = _
    rw [if_pos rfl]
    rfl
  | g :: fl, w :: vs, i + 1, nd, h, hl => by
    have nd' := List.nodup_cons.mp nd
    have h' : fl[i]? = some f := by simpa using h
    have ne : g ≠ f := fun z => nd'.1 (by rw [z]; exact List.mem_of_getElem? h')
    show (if g = f then (g, y) :: fl.zip vs else (g, w) :: putF f y (fl.zip vs)) = _
    rw [if_neg ne, putF_old nd'.2 h' (by simpa using hl)]
    rfl
/-- o.f = y: o an object of the heap -/
def gPut (c i : Nat) (o y : D) (G : GH) : Option GH := match o with
  | .ref j => (match G[j]? with
    | some (.ins k ds) => if k = c then (if ds.length = i then some (G.set j (.ins c (ds ++ [y]))) else if i < ds.length then some (G.set j (.ins c (ds.set i y))) else none) else none
    | _ => none)
  | _ => none
def sFldS (c i : Nat) (fo fv : F) : FS := fun ρ G => (fv ρ G).go ρ fun y G1 => (fo ρ G1).go ρ fun o G2 => match gPut c i o y G2 with
  | some G3 => .nx ρ G3
  | none => .st
theorem js_fld {f : Str} {c i : Nat} {fo fv : F} {pos' : Pos} (hf : FldOk T f [(c, i)]) (ho : JE X T W o fo) (hv : JE X T W e fv) (hs : swapsWith e (some (.Attribute o f pos')) pos.line X.env = pure false := by rfl) (hK : T.K = X.K := by rfl) :
    JS X T W (.Assign [.Attribute o f pos'] e pos) (sFldS c i fo fv) :=
  PS.imp (ps_fld ho hv hs) fun Z σ H ⟨ρ, ms, G, he, hc, h⟩ => ⟨ρ, ms, G, he, hc, (OkS.go he h).imp fun y H1 ⟨dy, G1, ms1, _, s1, r1, c1, h1⟩ =>
    ⟨ρ, ms1, G1, he.mono s1, c1, (OkS.go (he.mono s1) h1).imp fun x H2 ⟨dx, G2, ms2, _, s2, r2, c2, h2⟩ => by
      obtain ⟨q1, q2, q3⟩ := hf.at_ _ List.mem_cons_self
      cases dx with
      | ref j =>
        cases hg : G2[j]? with
        | none =>
          have e1 : gPut c i (.ref j) dy G2 = none := by unfold gPut; simp only [hg]
          rw [e1] at h2
          exact h2.elim
        | some w =>
          obtain ⟨q, hq, ho2⟩ := c2.get hg
          obtain ⟨q', e', hq'⟩ := r2
          have eq : q' = q := Option.some.inj (hq'.symm.trans hq)
          subst eq
          cases w with
          | ins k ds =>
            obtain ⟨dx, vs, hH, hl, rs⟩ := ho2
            have e1 : gPut c i (.ref j) dy G2 = if k = c then (if ds.length = i then some (G2.set j (.ins c (ds ++ [dy]))) else if i < ds.length then some (G2.set j (.ins c (ds.set i dy))) else none) else none := by unfold gPut; simp only [hg]
            rw [e1] at h2
            by_cases ek : k = c
            · subst ek
              rw [if_pos rfl] at h2
              have hlen := rs.len
              have hb : ((T.fld k).zip vs).length < 1000 := Nat.lt_of_le_of_lt (by rw [List.length_zip]; exact Nat.min_le_left _ _) (T.lt k)
              have fin : ∀ (ds' : List D) (vs' : List V), Reps T ms2 H2 ds' vs' → vs'.length ≤ (T.fld k).length → putF f y ((T.fld k).zip vs) = (T.fld k).zip vs' → OkS T W (.nx ρ (G2.set j (.ins k ds'))) ms2 H2 Z →
                  ∃ a C dx' fs, x = .ref a ∧ H2 a = some (.ins C dx' fs) ∧ Cls X.K C ∧ NoAttr X.K C f ∧ fs.length < 1000 ∧ Z.nx σ (upd H2 a (.ins C dx' (putF f y fs))) := fun ds' vs' r' hl' ep hn => by
                refine ⟨q', _, dx, _, e', hH, by rw [← hK]; exact q2, by rw [← hK]; exact q3, hb, ?_⟩
                rw [ep]
                have hm : q' ∈ ms2.nm := List.mem_of_getElem? hq
                have st : Stp ms2 H2 ms2 (upd H2 q' (.ins (T.cls k) dx ((T.fld k).zip vs'))) := Stp.wr hm hH fun _ z => by cases z
                exact hn σ _ ms2 st (((he.mono s1).mono s2).mono st) (c2.wr hq hH (fun _ z => by cases z) ⟨dx, vs', upd_same, hl', Reps.mono st _ _ r'⟩)
              have ry := Rep.mono s2 _ _ r1
              by_cases e2 : ds.length = i
              · rw [if_pos e2] at h2
                have hle : vs.length < (T.fld k).length := by rw [hlen, e2]; exact (List.getElem?_eq_some_iff.mp q1).1
                exact fin _ (vs ++ [y]) (rs.app (Reps.cons ry Reps.nil)) (by rw [List.length_append, List.length_singleton]; exact hle) (putF_new (T.nd _) (by rw [hlen, e2]; exact q1)) h2
              · rw [if_neg e2] at h2
                by_cases e3 : i < ds.length
                · rw [if_pos e3] at h2
                  exact fin _ (vs.set i y) (Reps.set ry i rs) (by rw [List.length_set]; exact hl) (putF_old (T.nd _) q1 (by rw [hlen]; exact e3)) h2
                · rw [if_neg e3] at h2
                  exact h2.elim
            · rw [if_neg ek] at h2
              exact h2.elim
          | _ =>
            have e1 : gPut c i (.ref j) dy G2 = none := by unfold gPut; simp only [hg]
            rw [e1] at h2
            exact h2.elim
      | _ => exact h2.elim⟩⟩
end DL

set_option Elab.async false
set_option linter.all false
set_option maxRecDepth 100000
set_option maxHeartbeats 2000000
set_option autoImplicit false
namespace DL
open PySem L2
variable {X : Cx} {T : TC} {W : WX} {a b c e o : Expr} {es : List Expr} {fa fb fc : F} {ga gb gc : FT} {pos p apos : Pos} {st : Stmt} {sts : List Stmt} {s t : FS} {k n : Nat} {x m : Str}

/-! ### a new list: a value, or one of the heap -/
def mkL (h : Bool) (ds : List D) (G : GH) : R D := match h with
  | true => .ok (.ref G.length) (G ++ [.lst ds])
  | false => .ok (.lst ds) G
theorem mkL_at {h : Bool} {ms : Ms} {H : Hp} {G : GH} {ds : List D} {q : Addr} {vs : List V} {W : Value → Option Addr → Hp → Prop} {Q : VK} (c : Cf T ms H G) (hp : H q = none) (r : Reps T ms H ds vs) (k : OkE T W (mkL h ds G) ms H Q) : Q (.ref q) (upd H q (.lst vs)) := by
  cases h with
  | true =>
    obtain ⟨a1, a2, a3⟩ := c.lstNewR r hp
    exact k _ _ _ a1 a2 a3
  | false => exact rep_lst_at c hp r k

/-! ### slices -/
theorem cut_reps {ms : Ms} {H : Hp} {ds : List D} {vs : List V} {lo hi : Option Int} (r : Reps T ms H ds vs) : Reps T ms H (cut ds lo hi) (cutV vs lo hi) := by
  show Reps T ms H _ ((vs.drop (HT.sIx vs.length 0 lo)).take (HT.sIx vs.length vs.length hi - HT.sIx vs.length 0 lo))
  rw [r.len]
  exact Reps.take _ (Reps.drop _ r)
def oSlc (h : Bool) (x : D) (lo hi : Option Int) (G : GH) : R D := match x with
  | .scr ns => mkL h (cut (ns.map D.int) lo hi) G
  | x => match vw G x with
    | .lst ds => mkL h (cut ds lo hi) G
    | .tup ds => .ok (.tup (cut ds lo hi)) G
    | .str z => if z.length ≤ sizeLine then .ok (.str (cutS z lo hi)) G else .st
    | _ => .st
def fSlc (h : Bool) (f : F) (gl gh : FO) : F := fun ρ G => (f ρ G).bnd fun x G1 => (gl ρ G1).bnd fun l G2 => (gh ρ G2).bnd fun u G3 => oSlc h x l u G3
theorem scr_seq {ms : Ms} {H : Hp} {ns : List Int} {v : V} (r : Rep T ms H (.scr ns) v) : ∃ a, v = .ref a ∧ SqL T.K H a (ns.map V.int) := by
  obtain ⟨a, e, h⟩ := r
  rcases h with ⟨o, h, _⟩ | h
  · exact ⟨a, e, .inl (.inr ⟨o, h⟩)⟩
  · exact ⟨a, e, h H⟩
theorem j_slc {h : Bool} {lo hi : Option Expr} {gl gh : FO} {p2 : Pos} (he : JE X T W e fa) (hl : JO X T W lo gl) (hh : JO X T W hi gh) (hK : T.K = X.K := by rfl) : JE X T W (.Subscript e (.Slice lo hi none p2) pos) (fSlc h fa gl gh) :=
  PE.imp (pe_slice (sl_list.or (sl_tupA.or sl_str)) he hl hh) fun σ H Q ⟨ρ, ms, G, he, hc, q⟩ => ⟨ρ, ms, G, he, hc, (OkG.bnd q).imp fun x H1 ⟨d, G1, ms1, _, s1, r1, c1, h1⟩ =>
    ⟨ρ, ms1, G1, he.mono s1, c1, (OkG.bnd h1).imp fun l H2 ⟨l', G2, ms2, _, s2, el, c2, h2⟩ => ⟨ρ, ms2, G2, (he.mono s1).mono s2, c2, (OkG.bnd h2).imp fun u H3 ⟨u', G3, ms3, _, s3, eu, c3, h3⟩ => by
      subst el eu
      have r3 := Rep.mono (s2.trans s3) _ _ r1
      rw [← hK]
      unfold oSlc at h3
      split at h3
      · obtain ⟨a, rfl, hs⟩ := scr_seq r3
        exact .inl ⟨a, _, rfl, hs, fun q hq => mkL_at c3 hq (cut_reps (Reps.ints _)) h3⟩
      · split at h3
        · rename_i ds e1
          obtain ⟨a, vs, rfl, ha, rs⟩ := vw_lst c3 r3 e1
          exact .inl ⟨a, vs, rfl, .of ha, fun q hq => mkL_at c3 hq (cut_reps rs) h3⟩
        · rename_i ds e1
          obtain ⟨a, vs, rfl, ha, rs⟩ := vw_tup c3 r3 e1
          refine .inr (.inl ⟨a, vs, rfl, .of ha, fun ⟨w1, w2⟩ => ?_, fun _ q hq => rep_tup_at c3 hq (cut_reps rs) h3⟩)
          have hw : cut ds l' u' = ds := by
            unfold cut
            rw [← rs.len, w1, w2, List.drop_zero, Nat.sub_zero, rs.len, List.take_length]
          rw [hw] at h3
          exact h3 _ H3 ms3 (Stp.refl _ _) ⟨a, vs, rfl, ha, rs⟩ c3
        · rename_i z e1
          obtain ⟨hz, h3⟩ := iflt h3
          have ez := vw_str c3 r3 e1
          exact .inr (.inr ⟨z, ez, hz, h3 _ H3 ms3 (Stp.refl _ _) rfl c3⟩)
        · exact h3.elim⟩⟩⟩
/-- xs[::-1], a list -/
def fRevL (h : Bool) (f : F) : F := fun ρ G => (f ρ G).bnd fun x G1 => match vw G1 x with
  | .lst ds => mkL h ds.reverse G1
  | _ => .st
theorem j_revL {h : Bool} {kk : Nat} {p1 p2 p3 : Pos} (he : JE X T W e fa) (hK : T.K = X.K := by rfl) : JE X T W (.Subscript e (.Slice none none (some (.UnaryOp .USub (.Constant (.int 1) kk p1) p2)) p3) pos) (fRevL h fa) :=
  PE.imp (pe_revL he) fun σ H Q ⟨ρ, ms, G, he, hc, q⟩ => ⟨ρ, ms, G, he, hc, (OkG.bnd q).imp fun x H1 ⟨d, G1, ms1, _, s1, r1, c1, h1⟩ => by
    split at h1
    · rename_i ds e1
      obtain ⟨a, vs, rfl, ha, rs⟩ := vw_lst c1 r1 e1
      exact ⟨a, vs, rfl, .of ha, fun q hq => mkL_at c1 hq rs.rev h1⟩
    · exact h1.elim⟩

/-! ### built-in functions -/
abbrev GB := List D → GH → R D
def BiD (T : TC) (r : List V → Hp → VK → Prop) (g : GB) : Prop := ∀ (W : Value → Option Addr → Hp → Prop) (ms : Ms) (H : Hp) (G : GH) (vs : List V) (ds : List D) (Q : VK), Reps T ms H ds vs → Cf T ms H G → OkE T W (g ds G) ms H Q → r vs H Q
def fBi (g : GB) (fs : FA) : F := fun ρ G => (fs ρ G).bnd fun ds G1 => g ds G1
theorem t_bi {r : List V → Hp → VK → Prop} {g : GB} {fs : FA} (hd : BiD T r g) {σ : St} {H : Hp} {Q : VK} (h : tOf T W (fBi g fs) σ H Q) : tCB r (taOf T W fs) σ H Q := by
  obtain ⟨ρ, ms, G, he, hc, h⟩ := h
  exact ⟨ρ, ms, G, he, hc, (OkG.bnd h).imp fun vs H1 ⟨ds, G1, ms1, _, s1, r1, c1, h1⟩ => hd _ ms1 H1 G1 vs ds Q r1 c1 h1⟩
theorem j_bi {r : List V → Hp → VK → Prop} {g : GB} {fs : FA} {id : String} (hc : CallR X (.builtin id) r) (hd : BiD T r g) (hg : Gl X x) (hm : X.mg x = none) (ha : JA X T W (e :: es) fs) (hv : bootBuiltins x = some (.builtin id) := by decide +kernel)
    (hn : x ≠ "__name__" := by decide) (hdb : (x == ("__debug__" : Str)) = false := by decide) (he : starEach (e :: es) X.env = (false, eval e X.env) :: starEach es X.env := by rfl) (hpl : (backTo pos (starEach es X.env)).any (·.1) = false := by rfl) :
    JE X T W (.Call (.Name x p) (e :: es) [] pos) (fBi g fs) := PE.imp (pe_callB hc hg hm hv ha hn hdb he hpl) fun _ _ _ h => t_bi hd h
theorem j_ty {r : List V → Hp → VK → Prop} {g : GB} {fs : FA} {id : String} (hc : CallR X (.type id) r) (hd : BiD T r g) (hg : Gl X x) (hm : X.mg x = none) (ha : JA X T W (e :: es) fs) (hv : bootBuiltins x = some (.type id) := by decide +kernel)
    (hn : x ≠ "__name__" := by decide) (hdb : (x == ("__debug__" : Str)) = false := by decide) (he : starEach (e :: es) X.env = (false, eval e X.env) :: starEach es X.env := by rfl) (hpl : (backTo pos (starEach es X.env)).any (·.1) = false := by rfl) :
    JE X T W (.Call (.Name x p) (e :: es) [] pos) (fBi g fs) := PE.imp (pe_callTy hc hg hm hv ha hn hdb he hpl) fun _ _ _ h => t_bi hd h
def one1 (g : D → GH → R D) : GB := fun ds G => match ds with
  | [d] => g d G
  | _ => .st
theorem one1_of {g : D → GH → R D} {W : Value → Option Addr → Hp → Prop} {ms : Ms} {H : Hp} {G : GH} {ds : List D} {vs : List V} {Q : VK} (r : Reps T ms H ds vs) (h : OkE T W (one1 g ds G) ms H Q) : ∃ d v, vs = [v] ∧ Rep T ms H d v ∧ OkE T W (g d G) ms H Q := by
  match ds, h with
  | [d], h =>
    obtain ⟨v, rfl, rv⟩ := r.one
    exact ⟨d, v, rfl, rv, h⟩
  | [], h => exact h.elim
  | _ :: _ :: _, h => exact h.elim
/-- len of a list, a tuple, a text -/
def gLen : GB := one1 fun d G => match d with
  | .scr ns => .ok (.int ns.length) G
  | d => match vw G d with
    | .lst ds => .ok (.int ds.length) G
    | .tup ds => .ok (.int ds.length) G
    | .str z => if z.length ≤ sizeLine then .ok (.int z.length) G else .st
    | _ => .st
theorem bd_len : BiD T (fun xs H Q => (∃ p ys, xs = [.ref p] ∧ (SqL T.K H p ys ∨ SqT T.K H p ys) ∧ Q (.int ys.length) H) ∨ ∃ z, xs = [.str z] ∧ z.length ≤ sizeLine ∧ Q (.int z.length) H) gLen := fun W ms H G vs ds Q r c h => by
  obtain ⟨d, v, rfl, rv, h⟩ := one1_of r h
  split at h
  · obtain ⟨a, rfl, hs⟩ := scr_seq rv
    exact .inl ⟨a, _, rfl, .inl hs, by rw [List.length_map]; exact h _ H ms (Stp.refl _ _) rfl c⟩
  · split at h
    · rename_i ds e1
      obtain ⟨a, ws, rfl, ha, rs⟩ := vw_lst c rv e1
      exact .inl ⟨a, ws, rfl, .inl (.of ha), by rw [rs.len]; exact h _ H ms (Stp.refl _ _) rfl c⟩
    · rename_i ds e1
      obtain ⟨a, ws, rfl, ha, rs⟩ := vw_tup c rv e1
      exact .inl ⟨a, ws, rfl, .inr (.of ha), by rw [rs.len]; exact h _ H ms (Stp.refl _ _) rfl c⟩
    · rename_i z e1
      obtain ⟨hz, h⟩ := iflt h
      have := vw_str c rv e1
      subst this
      exact .inr ⟨z, rfl, hz, h _ H ms (Stp.refl _ _) rfl c⟩
    · exact h.elim
theorem cr_lenD : CallR X (.builtin "len") (fun xs H Q => (∃ p ys, xs = [.ref p] ∧ (SqL X.K H p ys ∨ SqT X.K H p ys) ∧ Q (.int ys.length) H) ∨ ∃ z, xs = [.str z] ∧ z.length ≤ sizeLine ∧ Q (.int z.length) H) := call_len_seq.or call_len_str
/-- int of an int, a bool -/
def gInt : GB := one1 fun d G => match d with
  | .int i => .ok (.int i) G
  | .bl b => .ok (.int (if b then 1 else 0)) G
  | _ => .st
theorem bd_int : BiD T (fun xs H Q => (∃ i, xs = [.int i] ∧ Q (.int i) H) ∨ ∃ k, xs = [.bl k] ∧ Q (.int (if k then 1 else 0)) H) gInt := fun W ms H G vs ds Q r c h => by
  obtain ⟨d, v, rfl, rv, h⟩ := one1_of r h
  cases d with
  | int i => cases rv; exact .inl ⟨i, rfl, h _ H ms (Stp.refl _ _) rfl c⟩
  | bl b => cases rv; exact .inr ⟨b, rfl, h _ H ms (Stp.refl _ _) rfl c⟩
  | _ => exact h.elim
/-- list(x): a list, a tuple -/
def gList (hh : Bool) : GB := one1 fun d G => match d with
  | .scr ns => mkL hh (ns.map D.int) G
  | d => match vw G d with
    | .lst ds => mkL hh ds G
    | .tup ds => mkL hh ds G
    | _ => .st
theorem bd_list {hh : Bool} : BiD T (fun xs H Q => ∃ p ys, xs = [.ref p] ∧ (SqL T.K H p ys ∨ SqT T.K H p ys) ∧ ∀ l, H l = none → Q (.ref l) (upd H l (.lst ys))) (gList hh) := fun W ms H G vs ds Q r c h => by
  obtain ⟨d, v, rfl, rv, h⟩ := one1_of r h
  split at h
  · obtain ⟨a, rfl, hs⟩ := scr_seq rv
    exact ⟨a, _, rfl, .inl hs, fun l hl => mkL_at c hl (Reps.ints _) h⟩
  · split at h
    · rename_i ds e1
      obtain ⟨a, ws, rfl, ha, rs⟩ := vw_lst c rv e1
      exact ⟨a, ws, rfl, .inl (.of ha), fun l hl => mkL_at c hl rs h⟩
    · rename_i ds e1
      obtain ⟨a, ws, rfl, ha, rs⟩ := vw_tup c rv e1
      exact ⟨a, ws, rfl, .inr (.of ha), fun l hl => mkL_at c hl rs h⟩
    · exact h.elim
/-- tuple(x): a list, a tuple -/
def gTup : GB := one1 fun d G => match vw G d with
  | .lst ds => .ok (.tup ds) G
  | .tup ds => .ok (.tup ds) G
  | _ => .st
theorem bd_tup : BiD T (fun xs H Q => ∃ p ys, xs = [.ref p] ∧ ((SqL T.K H p ys ∧ ∀ l, H l = none → Q (.ref l) (upd H l (.tup ys))) ∨ (SqT T.K H p ys ∧ Q (.ref p) H))) gTup := fun W ms H G vs ds Q r c h => by
  obtain ⟨d, v, rfl, rv, h⟩ := one1_of r h
  split at h
  · rename_i ds e1
    obtain ⟨a, ws, rfl, ha, rs⟩ := vw_lst c rv e1
    exact ⟨a, ws, rfl, .inl ⟨.of ha, fun l hl => rep_tup_at c hl rs h⟩⟩
  · rename_i ds e1
    obtain ⟨a, ws, rfl, ha, rs⟩ := vw_tup c rv e1
    exact ⟨a, ws, rfl, .inr ⟨.of ha, h _ H ms (Stp.refl _ _) ⟨a, ws, rfl, ha, rs⟩ c⟩⟩
  · exact h.elim
/-- min(i, j), max(i, j) -/
def two2 (g : Int → Int → Int) : GB := fun ds G => match ds with
  | [.int i, .int j] => .ok (.int (g i j)) G
  | _ => .st
theorem two2_of {g : Int → Int → Int} : BiD T (fun xs H Q => ∃ i j, xs = [.int i, .int j] ∧ Q (.int (g i j)) H) (two2 g) := fun W ms H G vs ds Q r c h => by
  unfold two2 at h
  split at h
  · rename_i i j
    obtain ⟨v, u, rfl, r1, r2⟩ := r.two
    cases r1
    cases r2
    exact ⟨i, j, rfl, h _ H ms (Stp.refl _ _) rfl c⟩
  · exact h.elim
abbrev gMax2 : GB := two2 fun i j => if j > i then j else i
abbrev gMin2 : GB := two2 fun i j => if j < i then j else i
/-- lists of ints, of bools -/
def intsO : List D → Option (List Int)
  | [] => some []
  | .int i :: ds => (match intsO ds with
    | some is => some (i :: is)
    | none => none)
  | _ :: _ => none
theorem intsO_eq : ∀ {ds : List D} {is : List Int}, intsO ds = some is → ds = is.map D.int
  | [], is, h => by cases h; rfl
  | d :: ds, is, h => by
    cases d with
    | int i =>
      have h' : (match intsO ds with | some is => some (i :: is) | none => none) = some is := h
      cases q : intsO ds with
      | none => rw [q] at h'; cases h'
      | some js => rw [q] at h'; cases h'; rw [intsO_eq q]; rfl
    | _ => cases h
theorem ints_vals {ms : Ms} {H : Hp} : ∀ {is : List Int} {vs : List V}, Reps T ms H (is.map D.int) vs → vs = is.map V.int
  | [], vs, h => h
  | i :: is, vs, h => by
    obtain ⟨v, r, rfl, h1, h2⟩ := h
    rw [ints_vals h2, h1]; rfl
def blsO : List D → Option (List Bool)
  | [] => some []
  | .bl i :: ds => (match blsO ds with
    | some is => some (i :: is)
    | none => none)
  | _ :: _ => none
theorem blsO_eq : ∀ {ds : List D} {is : List Bool}, blsO ds = some is → ds = is.map D.bl
  | [], is, h => by cases h; rfl
  | d :: ds, is, h => by
    cases d with
    | bl i =>
      have h' : (match blsO ds with | some is => some (i :: is) | none => none) = some is := h
      cases q : blsO ds with
      | none => rw [q] at h'; cases h'
      | some js => rw [q] at h'; cases h'; rw [blsO_eq q]; rfl
    | _ => cases h
theorem bls_vals {ms : Ms} {H : Hp} : ∀ {is : List Bool} {vs : List V}, Reps T ms H (is.map D.bl) vs → vs = is.map V.bl
  | [], vs, h => h
  | i :: is, vs, h => by
    obtain ⟨v, r, rfl, h1, h2⟩ := h
    rw [bls_vals h2, h1]; rfl
def ofInts (g : List Int → GH → R D) : GB := one1 fun d G => match vw G d with
  | .lst ds => (match intsO ds with
    | some is => g is G
    | none => .st)
  | _ => .st
theorem ofInts_of {g : List Int → GH → R D} {W : Value → Option Addr → Hp → Prop} {ms : Ms} {H : Hp} {G : GH} {ds : List D} {vs : List V} {Q : VK} (c : Cf T ms H G) (r : Reps T ms H ds vs) (h : OkE T W (ofInts g ds G) ms H Q) :
    ∃ (a : Addr) (is : List Int), vs = [V.ref a] ∧ SqL T.K H a (is.map V.int) ∧ OkE T W (g is G) ms H Q := by
  obtain ⟨d, v, rfl, rv, h⟩ := one1_of r h
  split at h
  · rename_i ds e1
    obtain ⟨a, ws, rfl, ha, rs⟩ := vw_lst c rv e1
    split at h
    · rename_i is hi
      have := intsO_eq hi
      subst this
      have e := ints_vals rs
      subst e
      exact ⟨a, is, rfl, .of ha, h⟩
    · exact h.elim
  · exact h.elim
def gSum : GB := ofInts fun is G => .ok (.int is.sum) G
theorem bd_sum : BiD T (rSum T.K) gSum := fun W ms H G vs ds Q r c h => by
  obtain ⟨a, is, rfl, hs, h⟩ := ofInts_of c r h
  exact ⟨a, is, rfl, hs, h _ H ms (Stp.refl _ _) rfl c⟩
def maxI : Int → List Int → Int
  | m, [] => m
  | m, i :: is => maxI (if i > m then i else m) is
def minI : Int → List Int → Int
  | m, [] => m
  | m, i :: is => minI (if i < m then i else m) is
theorem maxI_ge : ∀ (is : List Int) (m : Int), m ≤ maxI m is ∧ ∀ i ∈ is, i ≤ maxI m is
  | [], m => ⟨Int.le_refl _, fun i h => by simp at h⟩
  | j :: is, m => by
    obtain ⟨h1, h2⟩ := maxI_ge is (if j > m then j else m)
    have hm : m ≤ (if j > m then j else m) ∧ j ≤ (if j > m then j else m) := by constructor <;> split <;> omega
    unfold maxI
    refine ⟨Int.le_trans hm.1 h1, fun i hi => ?_⟩
    rcases List.mem_cons.mp hi with rfl | hi
    · exact Int.le_trans hm.2 h1
    · exact h2 i hi
theorem maxI_mem : ∀ (is : List Int) (m : Int), maxI m is ∈ m :: is
  | [], m => by simp [maxI]
  | j :: is, m => by
    have := maxI_mem is (if j > m then j else m)
    unfold maxI
    rcases List.mem_cons.mp this with h | h
    · rw [h]; split <;> simp
    · exact List.mem_cons_of_mem _ (List.mem_cons_of_mem _ h)
theorem minI_le : ∀ (is : List Int) (m : Int), minI m is ≤ m ∧ ∀ i ∈ is, minI m is ≤ i
  | [], m => ⟨Int.le_refl _, fun i h => by simp at h⟩
  | j :: is, m => by
    obtain ⟨h1, h2⟩ := minI_le is (if j < m then j else m)
    have hm : (if j < m then j else m) ≤ m ∧ (if j < m then j else m) ≤ j := by constructor <;> split <;> omega
    unfold minI
    refine ⟨Int.le_trans h1 hm.1, fun i hi => ?_⟩
    rcases List.mem_cons.mp hi with rfl | hi
    · exact Int.le_trans h1 hm.2
    · exact h2 i hi
theorem minI_mem : ∀ (is : List Int) (m : Int), minI m is ∈ m :: is
  | [], m => by simp [minI]
  | j :: is, m => by
    have := minI_mem is (if j < m then j else m)
    unfold minI
    rcases List.mem_cons.mp this with h | h
    · rw [h]; split <;> simp
    · exact List.mem_cons_of_mem _ (List.mem_cons_of_mem _ h)
/-- max(xs), min(xs) of ints -/
def gMaxL : GB := ofInts fun is G => match is with
  | [] => .st
  | i :: is => .ok (.int (maxI i is)) G
def gMinL : GB := ofInts fun is G => match is with
  | [] => .st
  | i :: is => .ok (.int (minI i is)) G
theorem bd_maxL : BiD T (rMax T.K) gMaxL := fun W ms H G vs ds Q r c h => by
  obtain ⟨a, is, rfl, hs, h⟩ := ofInts_of c r h
  cases is with
  | nil => exact h.elim
  | cons i is =>
    refine ⟨a, i :: is, rfl, hs, Nat.succ_pos _, fun m hm ho => ?_⟩
    have e : m = maxI i is := Int.le_antisymm (by
      rcases List.mem_cons.mp hm with rfl | hm
      · exact (maxI_ge is m).1
      · exact (maxI_ge is i).2 m hm) (ho _ (maxI_mem is i))
    subst e
    exact h _ H ms (Stp.refl _ _) rfl c
theorem bd_minL : BiD T (rMin T.K) gMinL := fun W ms H G vs ds Q r c h => by
  obtain ⟨a, is, rfl, hs, h⟩ := ofInts_of c r h
  cases is with
  | nil => exact h.elim
  | cons i is =>
    refine ⟨a, i :: is, rfl, hs, Nat.succ_pos _, fun m hm ho => ?_⟩
    have e : m = minI i is := Int.le_antisymm (ho _ (minI_mem is i)) (by
      rcases List.mem_cons.mp hm with rfl | hm
      · exact (minI_le is m).1
      · exact (minI_le is i).2 m hm)
    subst e
    exact h _ H ms (Stp.refl _ _) rfl c
def ofBls (g : List Bool → GH → R D) : GB := one1 fun d G => match vw G d with
  | .lst ds => (match blsO ds with
    | some is => g is G
    | none => .st)
  | _ => .st
theorem ofBls_of {g : List Bool → GH → R D} {W : Value → Option Addr → Hp → Prop} {ms : Ms} {H : Hp} {G : GH} {ds : List D} {vs : List V} {Q : VK} (c : Cf T ms H G) (r : Reps T ms H ds vs) (h : OkE T W (ofBls g ds G) ms H Q) :
    ∃ (a : Addr) (is : List Bool), vs = [V.ref a] ∧ SqL T.K H a (is.map V.bl) ∧ OkE T W (g is G) ms H Q := by
  obtain ⟨d, v, rfl, rv, h⟩ := one1_of r h
  split at h
  · rename_i ds e1
    obtain ⟨a, ws, rfl, ha, rs⟩ := vw_lst c rv e1
    split at h
    · rename_i is hi
      have := blsO_eq hi
      subst this
      have e := bls_vals rs
      subst e
      exact ⟨a, is, rfl, .of ha, h⟩
    · exact h.elim
  · exact h.elim
def gAny : GB := ofBls fun is G => .ok (.bl (is.any id)) G
def gAll : GB := ofBls fun is G => .ok (.bl (is.all id)) G
theorem bd_any : BiD T (rAny T.K) gAny := fun W ms H G vs ds Q r c h => by
  obtain ⟨a, is, rfl, hs, h⟩ := ofBls_of c r h
  exact ⟨a, is, rfl, hs, h _ H ms (Stp.refl _ _) rfl c⟩
theorem bd_all : BiD T (rAll T.K) gAll := fun W ms H G vs ds Q r c h => by
  obtain ⟨a, is, rfl, hs, h⟩ := ofBls_of c r h
  exact ⟨a, is, rfl, hs, h _ H ms (Stp.refl _ _) rfl c⟩
/-- sorted(xs), ints -/
def insI (i : Int) : List Int → List Int
  | [] => [i]
  | j :: js => if i ≤ j then i :: j :: js else j :: insI i js
def srtI : List Int → List Int
  | [] => []
  | i :: is => insI i (srtI is)
theorem insI_perm (i : Int) : ∀ js : List Int, (insI i js).Perm (i :: js)
  | [] => .refl _
  | j :: js => by
    unfold insI
    split
    · exact .refl _
    · exact (List.Perm.cons j (insI_perm i js)).trans (.swap i j js)
theorem srtI_perm : ∀ is : List Int, (srtI is).Perm is
  | [] => .refl _
  | i :: is => (insI_perm i (srtI is)).trans (.cons i (srtI_perm is))
theorem insI_sorted (i : Int) : ∀ js : List Int, js.Pairwise (· ≤ ·) → (insI i js).Pairwise (· ≤ ·)
  | [], _ => by simp [insI]
  | j :: js, h => by
    have h' := List.pairwise_cons.mp h
    unfold insI
    split
    · rename_i hle
      exact List.pairwise_cons.mpr ⟨fun x hx => (List.mem_cons.mp hx).elim (fun e => by rw [e]; exact hle) fun hx => Int.le_trans hle (h'.1 x hx), h⟩
    · rename_i hnl
      refine List.pairwise_cons.mpr ⟨fun x hx => ?_, insI_sorted i js h'.2⟩
      rcases List.mem_cons.mp ((insI_perm i js).mem_iff.mp hx) with rfl | hx
      · omega
      · exact h'.1 x hx
theorem srtI_sorted : ∀ is : List Int, (srtI is).Pairwise (· ≤ ·)
  | [] => List.Pairwise.nil
  | i :: is => insI_sorted i _ (srtI_sorted is)
theorem sorted_uniq {l m : List Int} (h : l.Perm m) (hl : l.Pairwise (· ≤ ·)) (hm : m.Pairwise (· ≤ ·)) : l = m := h.eq_of_pairwise (fun a b _ _ h1 h2 => Int.le_antisymm h1 h2) hl hm
def gSrt (hh : Bool) : GB := ofInts fun is G => mkL hh ((srtI is).map D.int) G
theorem bd_srt {hh : Bool} : BiD T (rSortedI T.K) (gSrt hh) := fun W ms H G vs ds Q r c h => by
  obtain ⟨a, is, rfl, hs, h⟩ := ofInts_of c r h
  refine ⟨a, is, rfl, hs, fun ns' q hp hpw hq => ?_⟩
  have e : ns' = srtI is := sorted_uniq (hp.trans (srtI_perm is).symm) hpw (srtI_sorted is)
  subst e
  exact mkL_at c hq (Reps.ints _) h
end DL

set_option Elab.async false
set_option linter.all false
set_option maxRecDepth 100000
set_option maxHeartbeats 2000000
set_option autoImplicit false
namespace DL
open PySem L2
variable {X : Cx} {T : TC} {W : WX} {a b c e o : Expr} {es : List Expr} {fa fb fc : F} {ga gb gc : FT} {pos p apos : Pos} {st : Stmt} {sts : List Stmt} {s t : FS} {k n : Nat} {x m : Str}

/-! ### a built-in type's method -/
abbrev GM := D → List D → GH → R D
def MtD (T : TC) (ty : String) (tt : D → Bool) (r : V → List V → Hp → VK → Prop) (g : GM) : Prop :=
  (∀ (ms : Ms) (H : Hp) (G : GH) (x : V) (d : D), Cf T ms H G → Rep T ms H d x → tt (vw G d) = true → tyV T.K ty x H) ∧
  ∀ (W : Value → Option Addr → Hp → Prop) (ms : Ms) (H : Hp) (G : GH) (x : V) (vs : List V) (d : D) (ds : List D) (Q : VK), Rep T ms H d x → Reps T ms H ds vs → Cf T ms H G → OkE T W (g d ds G) ms H Q → r x vs H Q
def fBm (tt : D → Bool) (g : GM) (fo : F) (fs : FA) : F := fun ρ G => (fo ρ G).bnd fun o G1 => if tt (vw G1 o) then (fs ρ G1).bnd fun ds G2 => g o ds G2 else .st
theorem j_bm0 {ty id : String} {name : Str} {tt : D → Bool} {r : V → List V → Hp → VK → Prop} {g : GM} {fo : F} {cpos : Pos} (pa : PlainAttrs ty) (slot : Slot ty name id) (hty : typeOf (.builtin id) = pure (.type "method_descriptor")) (hm : MtR X id r) (hd : MtD T ty tt r g) (ho : JE X T W o fo)
    (hbase : attributeBase o name X.env (eval o X.env) = eval o X.env := by rfl) (hline : (apos.endLine == cpos.line) = true := by rfl) (hK : T.K = X.K := by rfl) : JE X T W (.Call (.Attribute o name apos) [] [] cpos) (fBm tt g fo fNil) :=
  PE.imp (pe_bm0 pa slot hty hm ho hbase hline) fun σ H Q ⟨ρ, ms, G, he, hc, h⟩ => ⟨ρ, ms, G, he, hc, (OkG.bnd h).imp fun x H1 ⟨d, G1, ms1, _, s1, r1, c1, h1⟩ => by
    obtain ⟨q, h1⟩ := ifst h1
    exact ⟨by rw [← hK]; exact hd.1 ms1 H1 G1 x d c1 r1 q, hd.2 _ ms1 H1 G1 x [] d [] Q r1 rfl c1 h1⟩⟩
theorem j_bm {ty id : String} {name : Str} {tt : D → Bool} {r : V → List V → Hp → VK → Prop} {g : GM} {fo : F} {fs : FA} {cpos : Pos} (pa : PlainAttrs ty) (slot : Slot ty name id) (hty : typeOf (.builtin id) = pure (.type "method_descriptor")) (hm : MtR X id r) (hd : MtD T ty tt r g) (ho : JE X T W o fo) (ha : JA X T W (e :: es) fs)
    (hbase : attributeBase o name X.env (eval o X.env) = eval o X.env := by rfl)
    (hfew : ((backTo cpos (starEach (e :: es) X.env)).all (fun x => !x.1) && (backToKw cpos (keywordEach [] X.env)).all (fun x => x.1.isSome)
      && decide ((e :: es).length + ([] : List Keyword).length + (if ([] : List Keyword).isEmpty then 0 else 1) < 30)) = true := by rfl)
    (hline : (apos.endLine == cpos.line) = true := by rfl) (hs : starEach (e :: es) X.env = (false, eval e X.env) :: starEach es X.env := by rfl) (hplain : (backTo cpos (starEach es X.env)).any (·.1) = false := by rfl) (hK : T.K = X.K := by rfl) :
    JE X T W (.Call (.Attribute o name apos) (e :: es) [] cpos) (fBm tt g fo fs) :=
  PE.imp (pe_bm pa slot hty hm ho ha hbase hfew hline hs hplain) fun σ H Q ⟨ρ, ms, G, he, hc, h⟩ => ⟨ρ, ms, G, he, hc, (OkG.bnd h).imp fun x H1 ⟨d, G1, ms1, _, s1, r1, c1, h1⟩ => by
    obtain ⟨q, h1⟩ := ifst h1
    exact ⟨by rw [← hK]; exact hd.1 ms1 H1 G1 x d c1 r1 q, ρ, ms1, G1, he.mono s1, c1, (OkG.bnd h1).imp fun vs H2 ⟨ds, G2, ms2, _, s2, r2, c2, h2⟩ => hd.2 _ ms2 H2 G2 x vs d ds Q (Rep.mono s2 _ _ r1) r2 c2 h2⟩⟩
def isLst : D → Bool
  | .lst _ => true
  | _ => false
def isStr : D → Bool
  | .str _ => true
  | _ => false
theorem ty_lst : ∀ (ms : Ms) (H : Hp) (G : GH) (x : V) (d : D), Cf T ms H G → Rep T ms H d x → isLst (vw G d) = true → tyV T.K "list" x H := fun ms H G x d c r h => by
  cases e : vw G d with
  | lst ds =>
    obtain ⟨a, vs, rfl, ha, _⟩ := vw_lst c r e
    exact .inl ⟨rfl, vs, .of ha⟩
  | _ => rw [e] at h; cases h
theorem ty_str : ∀ (ms : Ms) (H : Hp) (G : GH) (x : V) (d : D), Cf T ms H G → Rep T ms H d x → isStr (vw G d) = true → tyV T.K "str" x H := fun ms H G x d c r h => by
  cases e : vw G d with
  | str z =>
    have := vw_str c r e
    subst this
    rfl
  | _ => rw [e] at h; cases h
/-- a list of the heap, changed -/
theorem wr_lst {ms : Ms} {H : Hp} {G : GH} {i : Nat} {ds : List D} {x : V} (c : Cf T ms H G) (r : Rep T ms H (.ref i) x) (hg : G[i]? = some (.lst ds)) : ∃ (q : Addr) (vs : List V), x = .ref q ∧ H q = some (.lst vs) ∧ Reps T ms H ds vs ∧
    ∀ (ds' : List D) (vs' : List V), Reps T ms H ds' vs' → Stp ms H ms (upd H q (.lst vs')) ∧ Cf T ms (upd H q (.lst vs')) (G.set i (.lst ds')) := by
  obtain ⟨q, rfl, hq⟩ := r
  obtain ⟨vs, h1, h2⟩ := c.obj i _ q hg hq
  refine ⟨q, vs, rfl, h1, h2, fun ds' vs' r' => ?_⟩
  have st : Stp ms H ms (upd H q (.lst vs')) := Stp.wr (List.mem_of_getElem? hq) h1 fun _ z => by cases z
  exact ⟨st, c.wr hq h1 (fun _ z => by cases z) ⟨vs', upd_same, Reps.mono st _ _ r'⟩⟩
def onLst (g : Nat → List D → GH → R D) (d : D) (G : GH) : R D := match d with
  | .ref i => (match G[i]? with
    | some (.lst ds) => g i ds G
    | _ => .st)
  | _ => .st
theorem onLst_of {g : Nat → List D → GH → R D} {d : D} {G : GH} {W : Value → Option Addr → Hp → Prop} {ms : Ms} {H : Hp} {Q : VK} (h : OkE T W (onLst g d G) ms H Q) : ∃ i ds, d = .ref i ∧ G[i]? = some (.lst ds) ∧ OkE T W (g i ds G) ms H Q := by
  unfold onLst at h
  split at h
  · rename_i i
    split at h
    · rename_i ds hg
      exact ⟨i, ds, rfl, hg, h⟩
    · exact h.elim
  · exact h.elim
def mAppend : GM := fun d ds G => match ds with
  | [y] => onLst (fun i xs G => if xs.length < sizeLine then .ok .non (G.set i (.lst (xs ++ [y]))) else .st) d G
  | _ => .st
theorem md_append : MtD T "list" isLst rAppend mAppend := ⟨ty_lst, fun W ms H G x vs d ds Q rd rs c h => by
  unfold mAppend at h
  split at h
  · rename_i y
    obtain ⟨i, xs, rfl, hg, h⟩ := onLst_of h
    obtain ⟨v, rfl, rv⟩ := rs.one
    obtain ⟨q, ws, rfl, hq, rw_, up⟩ := wr_lst c rd hg
    obtain ⟨hl, h⟩ := iflt h
    obtain ⟨s1, c1⟩ := up (xs ++ [y]) (ws ++ [v]) (rw_.app (Reps.cons rv Reps.nil))
    exact ⟨q, ws, v, rfl, rfl, hq, by rw [rw_.len]; exact hl, h _ _ ms s1 rfl c1⟩
  · exact h.elim⟩
def mExtend : GM := fun d ds G => match ds with
  | [y] => onLst (fun i xs G => match vw G y with
    | .lst ys => if xs.length + ys.length ≤ sizeLine then .ok .non (G.set i (.lst (xs ++ ys))) else .st
    | _ => .st) d G
  | _ => .st
theorem md_extend : MtD T "list" isLst rExtend mExtend := ⟨ty_lst, fun W ms H G x vs d ds Q rd rs c h => by
  unfold mExtend at h
  split at h
  · rename_i y
    obtain ⟨i, xs, rfl, hg, h⟩ := onLst_of h
    obtain ⟨v, rfl, rv⟩ := rs.one
    obtain ⟨q, ws, rfl, hq, rw_, up⟩ := wr_lst c rd hg
    split at h
    · rename_i ys e
      obtain ⟨hl, h⟩ := iflt h
      obtain ⟨b, us, rfl, hb, rb⟩ := vw_lst c rv e
      obtain ⟨s1, c1⟩ := up (xs ++ ys) (ws ++ us) (rw_.app rb)
      exact ⟨q, b, ws, us, rfl, rfl, hq, hb, by rw [rw_.len, rb.len]; exact hl, h _ _ ms s1 rfl c1⟩
    · exact h.elim
  · exact h.elim⟩
theorem Reps.dropLast {ms : Ms} {H : Hp} : ∀ {ds : List D} {vs : List V}, Reps T ms H ds vs → Reps T ms H ds.dropLast vs.dropLast := fun {ds vs} r => by
  rw [List.dropLast_eq_take, List.dropLast_eq_take, r.len]
  exact Reps.take _ r
theorem Reps.erase {ms : Ms} {H : Hp} : ∀ {ds : List D} {vs : List V} (i : Nat), Reps T ms H ds vs → Reps T ms H (ds.eraseIdx i) (vs.eraseIdx i)
  | [], _, _, h => by cases h; exact rfl
  | d :: ds, _, 0, ⟨v, r, rfl, h1, h2⟩ => h2
  | d :: ds, _, i + 1, ⟨v, r, rfl, h1, h2⟩ => ⟨v, r.eraseIdx i, rfl, h1, Reps.erase i h2⟩
def mPop : GM := fun d ds G => match ds with
  | [] => onLst (fun i xs G => match xs[xs.length - 1]? with
    | some y => .ok y (G.set i (.lst xs.dropLast))
    | none => .st) d G
  | _ => .st
theorem md_pop : MtD T "list" isLst rPop mPop := ⟨ty_lst, fun W ms H G x vs d ds Q rd rs c h => by
  unfold mPop at h
  split at h
  · obtain ⟨i, xs, rfl, hg, h⟩ := onLst_of h
    cases rs
    obtain ⟨q, ws, rfl, hq, rw_, up⟩ := wr_lst c rd hg
    split at h
    · rename_i y hy
      obtain ⟨v, hv, rv⟩ := rw_.at hy
      obtain ⟨s1, c1⟩ := up xs.dropLast ws.dropLast rw_.dropLast
      exact ⟨q, ws, v, rfl, rfl, hq, by rw [rw_.len]; exact hv, h _ _ ms s1 (Rep.mono s1 _ _ rv) c1⟩
    · exact h.elim
  · exact h.elim⟩
def mPopAt : GM := fun d ds G => match ds with
  | [.int j] => onLst (fun i xs G => if -(2 ^ 63) ≤ j ∧ j < 2 ^ 63 then (match seqIndex? j xs.length with
    | some kk => (match xs[kk]? with
      | some y => .ok y (G.set i (.lst (xs.eraseIdx kk)))
      | none => .st)
    | none => .st) else .st) d G
  | _ => .st
theorem md_popAt : MtD T "list" isLst rPopAt mPopAt := ⟨ty_lst, fun W ms H G x vs d ds Q rd rs c h => by
  unfold mPopAt at h
  split at h
  · rename_i j
    obtain ⟨i, xs, rfl, hg, h⟩ := onLst_of h
    obtain ⟨v, rfl, rv⟩ := rs.one
    cases rv
    obtain ⟨q, ws, rfl, hq, rw_, up⟩ := wr_lst c rd hg
    obtain ⟨hj, h⟩ := iflt h
    split at h
    · rename_i kk hk
      split at h
      · rename_i y hy
        obtain ⟨u, hu, ru⟩ := rw_.at hy
        obtain ⟨s1, c1⟩ := up (xs.eraseIdx kk) (ws.eraseIdx kk) (rw_.erase kk)
        exact ⟨q, ws, j, kk, u, rfl, rfl, hq, hj.1, hj.2, by rw [rw_.len]; exact hk, hu, h _ _ ms s1 (Rep.mono s1 _ _ ru) c1⟩
      · exact h.elim
    · exact h.elim
  · exact h.elim⟩
def mReverse : GM := fun d ds G => match ds with
  | [] => onLst (fun i xs G => .ok .non (G.set i (.lst xs.reverse))) d G
  | _ => .st
theorem md_reverse : MtD T "list" isLst rReverse mReverse := ⟨ty_lst, fun W ms H G x vs d ds Q rd rs c h => by
  unfold mReverse at h
  split at h
  · obtain ⟨i, xs, rfl, hg, h⟩ := onLst_of h
    cases rs
    obtain ⟨q, ws, rfl, hq, rw_, up⟩ := wr_lst c rd hg
    obtain ⟨s1, c1⟩ := up xs.reverse ws.reverse rw_.rev
    exact ⟨q, ws, rfl, rfl, hq, h _ _ ms s1 rfl c1⟩
  · exact h.elim⟩
/-- xs.index(y), data -/
def ixP (d : PyData) : List PyData → Nat → Option Nat
  | [], _ => none
  | z :: zs, j => if PyData.eqv z d then some j else ixP d zs (j + 1)
theorem ixP_at {d : PyData} : ∀ {zs : List PyData} {j i : Nat}, ixP d zs j = some i → j ≤ i ∧ (∃ z, zs[i - j]? = some z ∧ PyData.eqv z d = true) ∧ ∀ (m : Nat) (z : PyData), m < i - j → zs[m]? = some z → PyData.eqv z d = false
  | [], _, _, h => by cases h
  | z :: zs, j, i, h => by
    unfold ixP at h
    cases q : PyData.eqv z d with
    | true =>
      rw [q, if_pos rfl] at h
      cases h
      refine ⟨Nat.le_refl _, ⟨z, by simp, q⟩, fun m z' hm => by omega⟩
    | false =>
      rw [q, if_neg Bool.false_ne_true] at h
      obtain ⟨h1, ⟨y, hy, ey⟩, h3⟩ := ixP_at h
      refine ⟨by omega, ⟨y, ?_, ey⟩, fun m z' hm hz => ?_⟩
      · rw [show i - j = (i - (j + 1)) + 1 by omega]
        simpa using hy
      · cases m with
        | zero =>
          simp at hz
          rw [← hz]
          exact q
        | succ m => exact h3 m z' (by omega) (by simpa using hz)
def mIndex : GM := fun d ds G => match ds with
  | [y] => (match vw G d with
    | .lst xs => if arePy xs && SeqAt.shaped (.list (pys xs)) && okV G y then (match ixP (py (vw G y)) (pys xs) 0 with
      | some i => .ok (.int i) G
      | none => .st) else .st
    | _ => .st)
  | _ => .st
theorem md_index : MtD T "list" isLst (rIndexD T.K) mIndex := ⟨ty_lst, fun W ms H G x vs d ds Q rd rs c h => by
  unfold mIndex at h
  split at h
  · rename_i y
    obtain ⟨v, rfl, rv⟩ := rs.one
    split at h
    · rename_i xs e
      obtain ⟨q, h⟩ := ifst h
      rw [Bool.and_eq_true, Bool.and_eq_true] at q
      obtain ⟨a, ws, rfl, ha, rw_⟩ := vw_lst c rd e
      obtain ⟨y1, y2⟩ := okV_dp c rv q.2
      split at h
      · rename_i i hi
        obtain ⟨_, ⟨z, hz, ez⟩, ho⟩ := ixP_at hi
        exact ⟨a, v, _, _, i, z, rfl, rfl, .lst (.of ha) (dps_of xs ws q.1.1 rw_), y1, q.1.2, y2, by simpa using hz, ez, fun m z' hm hz' => ho m z' (by simpa using hm) hz', h _ H ms (Stp.refl _ _) rfl c⟩
      · exact h.elim
    · exact h.elim
  · exact h.elim⟩

/-! ### xs[i] = y -/
def gSubL (fo fi : F) : FG := fun d ρ G => match fo ρ G with
  | .ok (.ref j) G1 => (match fi ρ G1 with
    | .ok (.int i) G2 => (match G2[j]? with
      | some (.lst xs) => (match ixN xs.length i with
        | some kk => some (ρ, G2.set j (.lst (xs.set kk d)))
        | none => none)
      | _ => none)
    | _ => none)
  | _ => none
theorem jg_subL {own : List Nat} {i : Expr} {fo fi : F} (ho : JE X T WN o fo) (hi : JE X T WN i fi)
    (ha : ∀ v, assign (.Subscript o i pos) X.env v = (do
      let ov ← holding [v] (eval o X.env)
      let iv ← holding [v, ov] (eval i X.env)
      standAt pos
      holding [v, ov, iv] (setItem ov iv v)
      release [v, ov, iv] []) := by intro _; rfl) : JG X T own (.Subscript o i pos) (gSubL fo fi) :=
  PG.imp (pg_sub ho hi set_list ha) fun v σ H Q ⟨d, ρ, ms, G, r, he, hc, h⟩ => by
    refine ⟨ρ, ms, G, he, hc, ?_⟩
    unfold gSubL at h
    split at h
    · rename_i j G1 e1
      rw [e1]
      intro xo H1 ms1 s1 r1 c1
      refine ⟨ρ, ms1, G1, he.mono s1, c1, ?_⟩
      split at h
      · rename_i ii G2 e2
        rw [e2]
        intro xi H2 ms2 s2 r2 c2
        cases r2
        split at h
        · rename_i xs hg
          split at h
          · rename_i kk hk
            obtain ⟨q, ws, rfl, hq, rw_, up⟩ := wr_lst c2 (Rep.mono s2 _ _ r1) hg
            have st := s1.trans s2
            obtain ⟨s3, c3⟩ := up (xs.set kk d) (ws.set kk v) (Reps.set (Rep.mono st _ _ r) kk rw_)
            exact ⟨q, ws, ii, kk, rfl, rfl, hq, by rw [rw_.len]; exact hk, h σ _ ms2 ⟨rfl, fun _ _ => rfl⟩ (st.trans s3) (he.mono (st.trans s3)) c3⟩
          · exact h.elim
        · exact h.elim
      · exact h.elim
    · exact h.elim

/-! ### stars in displays -/
def seqO : D → Option (List D)
  | .tup ds => some ds
  | .lst ds => some ds
  | _ => none
def fStar (f : F) (fr : FA) : FA := fun ρ G => (f ρ G).bnd fun x G1 => match seqO (vw G1 x) with
  | some xs => (fr ρ G1).bnd fun ys G2 => .ok (xs ++ ys) G2
  | none => .st
theorem ja_star {fr : FA} (he : JE X T W e fa) (hr : JA X T W es fr) (hs : starEach (.Starred e p :: es) X.env = (true, eval e X.env) :: starEach es X.env := by rfl) (hK : T.K = X.K := by rfl) : JA X T W (.Starred e p :: es) (fStar fa fr) :=
  PA.imp (StX.pa_star he hr hs) fun σ H Q ⟨ρ, ms, G, he, hc, h⟩ => ⟨ρ, ms, G, he, hc, (OkG.bnd h).imp fun x H1 ⟨d, G1, ms1, _, s1, r1, c1, h1⟩ => by
    split at h1
    · rename_i xs hx
      have fin : ∀ vs, Reps T ms1 H1 xs vs → taOf T W fr σ H1 fun ys H2 => Q (vs ++ ys) H2 := fun vs rv => ⟨ρ, ms1, G1, he.mono s1, c1, (OkG.bnd h1).imp fun ys H2 ⟨ds, G2, ms2, _, s2, r2, c2, h2⟩ => h2 _ H2 ms2 (Stp.refl _ _) ((Reps.mono s2 _ _ rv).app r2) c2⟩
      cases e : vw G1 d with
      | tup ds =>
        rw [e] at hx
        cases hx
        obtain ⟨a, vs, rfl, ha, rv⟩ := vw_tup c1 r1 e
        exact ⟨a, vs, rfl, .inl (.of ha), fin vs rv⟩
      | lst ds =>
        rw [e] at hx
        cases hx
        obtain ⟨a, vs, rfl, ha, rv⟩ := vw_lst c1 r1 e
        exact ⟨a, vs, rfl, .inr (.of ha), fin vs rv⟩
      | _ => rw [e] at hx; cases hx
    · exact h1.elim⟩

/-! ### isinstance(x, int), .. of data -/
def tyB (tn : String) : D → Option Bool
  | .non => kitB "NoneType" tn
  | .bl _ => kitB "bool" tn
  | .int _ => kitB "int" tn
  | .str _ => kitB "str" tn
  | .tup _ => kitB "tuple" tn
  | .lst _ => kitB "list" tn
  | .dic _ _ => kitB "dict" tn
  | _ => none
theorem tyx_of {ms : Ms} {H : Hp} {G : GH} {d : D} {v : V} (c : Cf T ms H G) (r : Rep T ms H d v) {ty : String} (h : (match vw G d with
    | .bl _ => ty = "bool"
    | .int _ => ty = "int"
    | .str _ => ty = "str"
    | .tup _ => ty = "tuple"
    | .lst _ => ty = "list"
    | .dic _ _ => ty = "dict"
    | .non => ty = "NoneType" ∧ d = .non
    | _ => False)) : TyX T.K H v (.type ty) := by
  cases e : vw G d with
  | non =>
    rw [e] at h
    obtain ⟨h1, h2⟩ := h
    subst h1 h2
    cases r
    exact .base .non
  | bl b =>
    rw [e] at h
    cases h
    cases d with
    | bl b => cases r; exact .base (.bl _)
    | ref i =>
      exfalso
      have h' : (match G[i]? with
        | some (.lst ds) => D.lst ds
        | some (.tup [.lst ds]) => .lst ds
        | some (.dic ks ds) => .dic ks ds
        | some (.tup [.dic ks ds]) => .dic ks ds
        | some (.ins c ds) => .ins c ds
        | _ => .non) = .bl b := e
      split at h' <;> cases h'
    | _ => cases e
  | int b =>
    rw [e] at h
    cases h
    cases d with
    | int b => cases r; exact .base (.int _)
    | ref i =>
      exfalso
      have h' : (match G[i]? with
        | some (.lst ds) => D.lst ds
        | some (.tup [.lst ds]) => .lst ds
        | some (.dic ks ds) => .dic ks ds
        | some (.tup [.dic ks ds]) => .dic ks ds
        | some (.ins c ds) => .ins c ds
        | _ => .non) = .int b := e
      split at h' <;> cases h'
    | _ => cases e
  | str b =>
    rw [e] at h
    cases h
    have := vw_str c r e
    subst this
    exact .base (.str _)
  | tup ds =>
    rw [e] at h
    cases h
    obtain ⟨a, vs, rfl, ha, _⟩ := vw_tup c r e
    exact .base (.tup ha)
  | lst ds =>
    rw [e] at h
    cases h
    obtain ⟨a, vs, rfl, ha, _⟩ := vw_lst c r e
    exact .base (.lst ha)
  | dic ks ds =>
    rw [e] at h
    cases h
    obtain ⟨a, kv, ws, rfl, ⟨kvs, ha, _⟩, _⟩ := vw_dic c r e
    exact .base (.dK ha)
  | ins c ds => rw [e] at h; exact h.elim
  | ref i => rw [e] at h; exact h.elim
  | scr i => rw [e] at h; exact h.elim
def oIsi (tn : String) (d : D) (G : GH) : R D := match vw G d, d with
  | .non, .non => (match tyB tn .non with
    | some b => .ok (.bl b) G
    | none => .st)
  | .non, _ => .st
  | w, _ => (match tyB tn w with
    | some b => .ok (.bl b) G
    | none => .st)
def fIsi (tn : String) (f : F) : F := fun ρ G => (f ρ G).bnd fun d G1 => oIsi tn d G1
theorem j_isi {tn : Str} {ty : String} {p2 : Pos} (he : JE X T W e fa) (hg : Gl X "isinstance") (hm : X.mg "isinstance" = none) (hg2 : Gl X tn) (hm2 : X.mg tn = none) (hv : bootBuiltins tn = some (.type ty) := by decide +kernel)
    (hn : tn ≠ "__name__" := by decide) (hdb : (tn == ("__debug__" : Str)) = false := by decide)
    (h1 : starEach [e, .Name tn p2] X.env = (false, eval e X.env) :: starEach [.Name tn p2] X.env := by rfl) (h2 : starEach [.Name tn p2] X.env = (false, eval (.Name tn p2) X.env) :: starEach [] X.env := by rfl)
    (hpl : (backTo pos (starEach [.Name tn p2] X.env)).any (·.1) = false := by rfl) (hK : T.K = X.K := by rfl) : JE X T W (.Call (.Name "isinstance" p) [e, .Name tn p2] [] pos) (fIsi ty fa) :=
  PE.imp (pe_callB call_isi hg hm (by decide +kernel) (pa_cons he (pa_cons (pe_bltn (v := .ty ty) hg2 hm2 hv rfl hn hdb) pa_nil h2) h1) (by decide) (by decide) h1 hpl) fun σ H Q ⟨ρ, ms, G, he, hc, h⟩ => ⟨ρ, ms, G, he, hc, (OkG.bnd h).imp fun x H1 ⟨d, G1, ms1, _, s1, r1, c1, h1⟩ => by
    have fin : ∀ (w : D) (tt : String), vw G1 d = w → TyX T.K H1 x (.type tt) → tyB ty w = kitB tt ty → OkE T (wat W σ) (match tyB ty w with
        | some b => .ok (.bl b) G1
        | none => .st) ms1 H1 Q → rIsi X.K [x, .ty ty] H1 Q := fun w tt e ht hk h => by
      rw [hk] at h
      cases q : kitB tt ty with
      | none => rw [q] at h; exact h.elim
      | some b =>
        rw [q] at h
        exact ⟨x, .ty ty, .type tt, .type ty, b, rfl, .ty ty, by rw [← hK]; exact ht, kit_ty q, h _ H1 ms1 (Stp.refl _ _) rfl c1⟩
    unfold oIsi at h1
    cases e : vw G1 d with
    | non =>
      rw [e] at h1
      cases d with
      | non => exact fin .non "NoneType" e (tyx_of c1 r1 (by rw [e]; exact ⟨rfl, rfl⟩)) rfl h1
      | _ => exact h1.elim
    | bl b => rw [e] at h1; exact fin _ "bool" e (tyx_of c1 r1 (by rw [e])) rfl h1
    | int b => rw [e] at h1; exact fin _ "int" e (tyx_of c1 r1 (by rw [e])) rfl h1
    | str b => rw [e] at h1; exact fin _ "str" e (tyx_of c1 r1 (by rw [e])) rfl h1
    | tup b => rw [e] at h1; exact fin _ "tuple" e (tyx_of c1 r1 (by rw [e])) rfl h1
    | lst b => rw [e] at h1; exact fin _ "list" e (tyx_of c1 r1 (by rw [e])) rfl h1
    | dic b c => rw [e] at h1; exact fin _ "dict" e (tyx_of c1 r1 (by rw [e])) rfl h1
    | _ => rw [e] at h1; exact h1.elim⟩
end DL

set_option Elab.async false
set_option linter.all false
set_option maxRecDepth 100000
set_option maxHeartbeats 2000000
set_option autoImplicit false
namespace DL
open PySem L2
variable {X : Cx} {T : TC} {W : WX} {a b c e o : Expr} {es : List Expr} {fa fb fc : F} {ga gb gc : FT} {pos p apos : Pos} {st : Stmt} {sts : List Stmt} {s t : FS} {k n : Nat} {x m : Str}

/-! ### keys that are ints, texts -/
def keyO : D → Option Key
  | .int i => some (.inl i)
  | .str x => some (.inr x)
  | _ => none
theorem keyO_rep {ms : Ms} {H : Hp} {d : D} {v : V} {q : Key} (r : Rep T ms H d v) (h : keyO d = some q) : v = kV q := by
  cases d with
  | int i => cases h; cases r; rfl
  | str i => cases h; cases r; rfl
  | _ => cases h
theorem keyO_of {ms : Ms} {H : Hp} {d : D} {q : Key} (r : Rep T ms H d (kV q)) : keyO d = some q := by
  cases q with
  | inl i =>
    cases d with
    | int j => have : V.int i = V.int j := r; cases this; rfl
    | non => have : V.int i = V.non := r; cases this
    | bl b => have : V.int i = V.bl b := r; cases this
    | str b => have : V.int i = V.str b := r; cases this
    | tup ds => obtain ⟨a, vs, e, _⟩ := r; cases e
    | lst ds => obtain ⟨a, vs, e, _⟩ := r; cases e
    | dic ks ds => obtain ⟨a, vs, _, e, _⟩ := r; cases e
    | ins c ds => obtain ⟨a, vs, _, e, _⟩ := r; cases e
    | ref i => obtain ⟨a, e, _⟩ := r; cases e
    | scr i => obtain ⟨a, e, _⟩ := r; cases e
  | inr i =>
    cases d with
    | str j => have : V.str i = V.str j := r; cases this; rfl
    | non => have : V.str i = V.non := r; cases this
    | bl b => have : V.str i = V.bl b := r; cases this
    | int b => have : V.str i = V.int b := r; cases this
    | tup ds => obtain ⟨a, vs, e, _⟩ := r; cases e
    | lst ds => obtain ⟨a, vs, e, _⟩ := r; cases e
    | dic ks ds => obtain ⟨a, vs, _, e, _⟩ := r; cases e
    | ins c ds => obtain ⟨a, vs, _, e, _⟩ := r; cases e
    | ref i => obtain ⟨a, e, _⟩ := r; cases e
    | scr i => obtain ⟨a, e, _⟩ := r; cases e
def kEq : D → D → Bool
  | .int i, .int j => decide (i = j)
  | .str x, .str y => decide (x = y)
  | _, _ => false
theorem kEq_key {d e : D} {q r : Key} (h1 : keyO d = some q) (h2 : keyO e = some r) : kEq d e = decide (q = r) := by
  cases d with
  | int i =>
    cases h1
    cases e with
    | int j => cases h2; unfold kEq; exact decide_eq_decide.mpr ⟨fun z => by rw [z], fun z => Sum.inl.inj z⟩
    | str j => cases h2; unfold kEq; exact (decide_eq_false (by simp)).symm
    | _ => cases h2
  | str i =>
    cases h1
    cases e with
    | str j => cases h2; unfold kEq; exact decide_eq_decide.mpr ⟨fun z => by rw [z], fun z => Sum.inr.inj z⟩
    | int j => cases h2; unfold kEq; exact (decide_eq_false (by simp)).symm
    | _ => cases h2
  | _ => cases h1
def dicGet : List D → List D → D → Option D
  | k :: ks, v :: vs, q => if kEq k q then some v else dicGet ks vs q
  | _, _, _ => none
def putVs : List D → List D → D → D → List D
  | k :: ks, w :: vs, q, v => (if kEq k q then v else w) :: putVs ks vs q v
  | _, vs, _, _ => vs
def dicHas (ks : List D) (q : D) : Bool := ks.any fun k => kEq k q
def putD (ks vs : List D) (q v : D) : List D × List D := if dicHas ks q then (ks, putVs ks vs q v) else (ks ++ [q], vs ++ [v])
section
variable {ms : Ms} {H : Hp}
theorem dicGet_val {q : D} {key : Key} (hq : keyO q = some key) : ∀ {ks vs : List D} {kvs : List (Key × V)}, Reps T ms H ks (kvs.map fun z => kV z.1) → Reps T ms H vs (kvs.map (·.2)) →
    match dicGet ks vs q with
    | some d => ∃ v, valV kvs key = some v ∧ Rep T ms H d v
    | none => valV kvs key = none
  | [], vs, kvs, h1, h2 => by
    cases kvs with
    | nil => rfl
    | cons z kvs => cases h1
  | k :: ks, [], kvs, h1, h2 => by
    cases kvs with
    | nil => rfl
    | cons z kvs => cases h2
  | k :: ks, v :: vs, kvs, h1, h2 => by
    cases kvs with
    | nil => obtain ⟨_, _, e, _⟩ := h1; cases e
    | cons z kvs =>
      obtain ⟨k1, kr, e1, r1, rs1⟩ := h1
      obtain ⟨v1, vr, e2, r2, rs2⟩ := h2
      cases e1
      cases e2
      have hk := keyO_of r1
      have ek := kEq_key hk hq
      unfold dicGet
      by_cases hz : z.1 = key
      · rw [ek, decide_eq_true hz, if_pos rfl]
        exact ⟨z.2, valV_pos hz, r2⟩
      · rw [ek, decide_eq_false hz, if_neg Bool.false_ne_true, valV_neg hz]
        exact dicGet_val hq rs1 rs2
theorem dicHas_val {q : D} {key : Key} (hq : keyO q = some key) : ∀ {ks : List D} {kvs : List (Key × V)}, Reps T ms H ks (kvs.map fun z => kV z.1) → dicHas ks q = kvs.any fun kv => decide (kv.1 = key)
  | [], kvs, h1 => by
    cases kvs with
    | nil => rfl
    | cons z kvs => cases h1
  | k :: ks, kvs, h1 => by
    cases kvs with
    | nil => obtain ⟨_, _, e, _⟩ := h1; cases e
    | cons z kvs =>
      obtain ⟨k1, kr, e1, r1, rs1⟩ := h1
      cases e1
      have ih := dicHas_val hq rs1
      unfold dicHas at ih ⊢
      rw [List.any_cons, List.any_cons, ih, kEq_key (keyO_of r1) hq]
theorem putVs_rep {q d : D} {v : V} {key : Key} (hq : keyO q = some key) (rv : Rep T ms H d v) : ∀ {ks vs : List D} {kvs : List (Key × V)}, Reps T ms H ks (kvs.map fun z => kV z.1) → Reps T ms H vs (kvs.map (·.2)) →
    Reps T ms H (putVs ks vs q d) ((kvs.map (fun kv => if kv.1 = key then (kv.1, v) else kv)).map (·.2)) ∧ (kvs.map (fun kv => if kv.1 = key then (kv.1, v) else kv)).map (fun z => kV z.1) = kvs.map (fun z => kV z.1)
  | [], vs, kvs, h1, h2 => by
    cases kvs with
    | nil => exact ⟨h2, rfl⟩
    | cons z kvs => cases h1
  | k :: ks, [], kvs, h1, h2 => by
    cases kvs with
    | nil => exact ⟨h2, rfl⟩
    | cons z kvs => cases h2
  | k :: ks, w :: vs, kvs, h1, h2 => by
    cases kvs with
    | nil => obtain ⟨_, _, e, _⟩ := h1; cases e
    | cons z kvs =>
      obtain ⟨k1, kr, e1, r1, rs1⟩ := h1
      obtain ⟨v1, vr, e2, r2, rs2⟩ := h2
      cases e1
      cases e2
      obtain ⟨i1, i2⟩ := putVs_rep hq rv rs1 rs2
      have ek := kEq_key (keyO_of r1) hq
      unfold putVs
      by_cases hz : z.1 = key
      · rw [ek, decide_eq_true hz, if_pos rfl, List.map_cons, List.map_cons, List.map_cons, if_pos hz]
        exact ⟨⟨_, _, rfl, rv, i1⟩, by rw [i2]; rfl⟩
      · rw [ek, decide_eq_false hz, if_neg Bool.false_ne_true, List.map_cons, List.map_cons, List.map_cons, if_neg hz]
        exact ⟨⟨_, _, rfl, r2, i1⟩, by rw [i2]; rfl⟩
theorem putD_rep {q d : D} {u v : V} {key : Key} {ks vs : List D} {kvs : List (Key × V)} (hq : keyO q = some key) (rq : Rep T ms H q u) (rv : Rep T ms H d v) (h1 : Reps T ms H ks (kvs.map fun z => kV z.1)) (h2 : Reps T ms H vs (kvs.map (·.2))) :
    Reps T ms H (putD ks vs q d).1 ((putK kvs key v).map fun z => kV z.1) ∧ Reps T ms H (putD ks vs q d).2 ((putK kvs key v).map (·.2)) := by
  have e := dicHas_val hq h1
  unfold putD putK
  cases z : kvs.any fun kv => decide (kv.1 = key) with
  | true =>
    rw [e, z, if_pos rfl, if_pos rfl]
    obtain ⟨i1, i2⟩ := putVs_rep hq rv h1 h2
    exact ⟨by rw [i2]; exact h1, i1⟩
  | false =>
    rw [e, z, if_neg Bool.false_ne_true, if_neg Bool.false_ne_true, List.map_append, List.map_append]
    have rq' : Rep T ms H q (kV key) := by rw [← keyO_rep rq hq]; exact rq
    exact ⟨h1.app ⟨_, [], rfl, rq', rfl⟩, h2.app ⟨v, [], rfl, rv, rfl⟩⟩
end

/-! ### keys that are tuples -/
mutual
def NIs (H : Hp) : NestedKey → V → Prop
  | .none, v => v = .non
  | .num i, v => v = .int i
  | .text z, v => v = .str z
  | .tup ks, v => ∃ a vs, v = .ref a ∧ H a = some (.tup vs) ∧ NIsL H ks vs
def NIsL (H : Hp) : List NestedKey → List V → Prop
  | [], vs => vs = []
  | k :: ks, vs => ∃ v r, vs = v :: r ∧ NIs H k v ∧ NIsL H ks r
end
section
variable {ms : Ms} {H : Hp}
mutual
theorem nis_of : ∀ (d : D) (v : V) (q : NestedKey), nkO d = some q → Rep T ms H d v → NIs H q v
  | .non, v, q, h, r => by cases h; exact r
  | .int i, v, q, h, r => by cases h; exact r
  | .str i, v, q, h, r => by cases h; exact r
  | .tup ds, v, q, h, r => by
    have h' : (match nksO ds with | some ks => some (NestedKey.tup ks) | none => none) = some q := h
    cases e : nksO ds with
    | none => rw [e] at h'; cases h'
    | some ks =>
      rw [e] at h'
      cases h'
      obtain ⟨a, vs, rfl, ha, rs⟩ := r
      exact ⟨a, vs, rfl, ha, nisl_of ds vs ks e rs⟩
  | .bl b, _, _, h, _ => by cases h
  | .lst b, _, _, h, _ => by cases h
  | .dic b c, _, _, h, _ => by cases h
  | .ins b c, _, _, h, _ => by cases h
  | .ref b, _, _, h, _ => by cases h
  | .scr b, _, _, h, _ => by cases h
theorem nisl_of : ∀ (ds : List D) (vs : List V) (qs : List NestedKey), nksO ds = some qs → Reps T ms H ds vs → NIsL H qs vs
  | [], vs, qs, h, r => by cases h; exact r
  | d :: ds, vs, qs, h, r => by
    obtain ⟨v, w, rfl, r1, r2⟩ := r
    have h' : (match nkO d, nksO ds with | some k, some ks => some (k :: ks) | _, _ => none) = some qs := h
    cases e1 : nkO d with
    | none => rw [e1] at h'; cases h'
    | some q =>
      cases e2 : nksO ds with
      | none => rw [e1, e2] at h'; cases h'
      | some qs2 =>
        rw [e1, e2] at h'
        cases h'
        exact ⟨v, w, rfl, nis_of d v q e1 r1, nisl_of ds w qs2 e2 r2⟩
end
mutual
theorem nis_heap {P : Program} {w : World} {h : Heap} (ok : HOk P w H h) : ∀ (q : NestedKey) (v : V) (u : Value), NIs H q v → RelV v u → NestedIs h q u
  | .none, v, u, h1, h2 => by cases h1; cases h2; exact .none
  | .num i, v, u, h1, h2 => by cases h1; obtain ⟨t, rfl⟩ := h2; exact .int i t
  | .text i, v, u, h1, h2 => by cases h1; obtain ⟨t, rfl⟩ := h2; exact .text i t
  | .tup ks, v, u, h1, h2 => by
    obtain ⟨a, vs, rfl, ha, rs⟩ := h1
    obtain rfl : u = Value.ref a := h2
    obtain ⟨_, its, rv, o, ho, hc, n, hd⟩ := ok a _ ha
    exact .tup ho hc hd (by simpa using nisl_heap ok ks vs its rs rv)
theorem nisl_heap {P : Program} {w : World} {h : Heap} (ok : HOk P w H h) : ∀ (qs : List NestedKey) (vs : List V) (us : List Value), NIsL H qs vs → Vals vs us → NestedAll h qs us
  | [], vs, us, h1, h2 => by cases h1; cases h2; exact .nil
  | q :: qs, vs, us, h1, h2 => by
    obtain ⟨v, r, rfl, r1, r2⟩ := h1
    cases h2 with
    | cons a t => exact .cons (nis_heap ok q v _ r1 a) (nisl_heap ok qs r _ r2 t)
end
end
/-- the dict at a with its entries, as the heap has it -/
structure NAt (P : Program) (w : World) (H : Hp) (a : Addr) (xs : List (NestedKey × Addr × Value)) : Prop where
  ob : ∃ es : Array DictEntry, H a = some (NDO a es) ∧ es.toList = xs.map (entryOfKey (nestedKind P w))
  nd : (xs.map (·.1)).Nodup
  ks : ∀ y ∈ xs, NIs H y.1 (.ref y.2.1) ∧ y.1.depth ≤ 8
  len : xs.length ≤ sizeLine
  hs : (a == sysModules) = false
section
variable {pins : List (Addr × Obj)} {σ : St} {H : Hp} {sh : Shared} {aa : Addr} {xs : List (NestedKey × Addr × Value)} {A : Around} {E : Value → Shared → Prop}
theorem NAt.dict (I : Inv X pins σ H sh) (z : NAt X.prog X.w H aa xs) : sh.heap.DictOfH (nestedKind X.prog X.w) aa xs ∧ (aa == sysModules) = false := by
  obtain ⟨es, h1, h2⟩ := z.ob
  obtain ⟨⟨hs, ob, ep, g1, g2, g3⟩, _, _⟩ := I.hok aa _ h1
  exact ⟨⟨ob, es, ep, g1, g2, g3, h2, fun y hy => ⟨nis_heap I.hok _ _ _ (z.ks y hy).1 rfl, (z.ks y hy).2⟩, z.nd⟩, hs⟩
/-- d[y], d a dict whose keys are tuples -/
def rIxN (P : Program) (w : World) : R2 := fun x y H Q => ∃ a b q xs p v, x = .ref a ∧ y = .ref b ∧ NAt P w H a xs ∧ NIs H q (.ref b) ∧ q.depth ≤ 8 ∧ atKey xs q = some p ∧ RelV v p.2 ∧ Q v H
theorem ix_nd (hu : X.A.units + 64 < cLine) : IxR X (rIxN X.prog X.w) := by
  intro value slice pins s σ H x y v u Q I rx ry h hs
  obtain ⟨a, b, q, xs, p, r, rfl, rfl, na, nq, hd, hp, rr, hQ⟩ := h
  obtain rfl : v = Value.ref a := rx
  obtain rfl : u = Value.ref b := ry
  obtain ⟨dd, _⟩ := na.dict I
  exact PyProof.Rows.tail_any dd.typeIs F.slot_dict_getitem.lookup (wpAny_getItem_heap (knd := nestedKind X.prog X.w) (k := q) (by show X.A.units + 1 + 8 < cLine; omega) ⟨nis_heap I.hok _ _ _ nq rfl, hd⟩ dd hp ⟨r, H, I.tok _, rr, hQ⟩) hs
def rInN (P : Program) (w : World) (neg : Bool) : R2 := fun y x H Q => ∃ a b q xs, x = .ref a ∧ y = .ref b ∧ NAt P w H a xs ∧ NIs H q (.ref b) ∧ q.depth ≤ 8 ∧ Q (.bl (if neg then !(atKey xs q).isSome else (atKey xs q).isSome)) H
theorem op_inN (hu : X.A.units + 64 < cLine) : OpR X (compareOp .In) (rInN X.prog X.w false) := by
  intro pins s σ H y x u v Q I ry rx h
  obtain ⟨a, b, q, xs, rfl, rfl, na, nq, hd, hQ⟩ := h
  obtain rfl : v = Value.ref a := rx
  obtain rfl : u = Value.ref b := ry
  obtain ⟨dd, hs⟩ := na.dict I
  exact wpAny_in_heap (knd := nestedKind X.prog X.w) (k := q) (by show X.A.units + 1 + 8 < cLine; omega) ⟨nis_heap I.hok _ _ _ nq rfl, hd⟩ hs dd ⟨.bl _, H, I.tok _, rfl, hQ⟩
theorem op_notInN (hu : X.A.units + 64 < cLine) : OpR X (compareOp .NotIn) (rInN X.prog X.w true) := by
  intro pins s σ H y x u v Q I ry rx h
  obtain ⟨a, b, q, xs, rfl, rfl, na, nq, hd, hQ⟩ := h
  obtain rfl : v = Value.ref a := rx
  obtain rfl : u = Value.ref b := ry
  obtain ⟨dd, hs⟩ := na.dict I
  show wpAny _ _ (do return Value.bool (!(← contains (.ref a) (.ref b)))) _ _ _
  exact wpAny_bind (wpAny_contains_heap (knd := nestedKind X.prog X.w) (k := q) (by show X.A.units + 1 + 8 < cLine; omega) ⟨nis_heap I.hok _ _ _ nq rfl, hd⟩ hs dd (wpAny_pure ⟨.bl _, H, I.tok _, rfl, hQ⟩))
/-- d[y] = v -/
def rSetN (P : Program) (w : World) : TSet := fun o i v H Q => ∃ a b q xs, o = .ref a ∧ i = .ref b ∧ NAt P w H a xs ∧ NIs H q (.ref b) ∧ q.depth ≤ 8 ∧ xs.length < sizeLine ∧
  ∀ u es, RelV v u → es.toList = (storedH xs q b u).map (entryOfKey (nestedKind P w)) → ((storedH xs q b u).map (·.1)).Nodup → Q (upd H a (NDO a es))
theorem set_nd (hu : X.A.units + 64 < cLine) : PSet X (rSetN X.prog X.w) := by
  intro pins s σ H o i v ov iv u Q I ro ri rv h
  obtain ⟨a, b, q, xs, rfl, rfl, na, nq, hd, hl, hQ⟩ := h
  obtain rfl : ov = Value.ref a := ro
  obtain rfl : iv = Value.ref b := ri
  obtain ⟨dd, hs⟩ := na.dict I
  refine wpAny_setItem_heap (knd := nestedKind X.prog X.w) (k := q) (hsz := na.len) (by show X.A.units + 1 + 8 < cLine; omega) ⟨nis_heap I.hok _ _ _ nq rfl, hd⟩ dd fun h' dd' sb => ?_
  obtain ⟨ob, es, ep, h1, h2, h3, h4, h5, h6⟩ := dd'
  obtain ⟨es0, e0, _⟩ := na.ob
  have J : Inv X pins σ (upd H a (NDO a es)) { s with heap := h', toks := s.toks + (nestedKind X.prog X.w).draws q } := d_write I (by rw [e0]; exact True.intro) sb ⟨ob, h1⟩
    ⟨⟨hs, ob, ep, h1, h2, h3⟩, ⟨ob, h1⟩, fun g1 g2 ⟨_, ob2, ep2, f1, f2, f3⟩ k => ⟨hs, ob2, ep2, k _ f1, f2, f3⟩⟩
  exact ⟨_, J, hQ u es rv h4 h6⟩
end
end DL

set_option Elab.async false
set_option linter.all false
set_option maxRecDepth 100000
set_option maxHeartbeats 2000000
set_option autoImplicit false
namespace DL
open PySem L2
variable {X : Cx} {T : TC} {W : WX} {a b c e o : Expr} {es : List Expr} {fa fb fc : F} {ga gb gc : FT} {pos p apos : Pos} {st : Stmt} {sts : List Stmt} {s t : FS} {k n : Nat} {x m : Str}

/-! ### tuple keys, by values -/
mutual
def beqK : D → D → Bool
  | .non, .non => true
  | .int i, .int j => decide (i = j)
  | .str x, .str y => decide (x = y)
  | .tup ds, .tup es => beqKs ds es
  | _, _ => false
def beqKs : List D → List D → Bool
  | [], [] => true
  | d :: ds, e :: es => beqK d e && beqKs ds es
  | _, _ => false
end
theorem nkO_tup {ds : List D} {q : NestedKey} (h : nkO (.tup ds) = some q) : ∃ ks, nksO ds = some ks ∧ q = .tup ks := by
  have h' : (match nksO ds with | some ks => some (NestedKey.tup ks) | none => none) = some q := h
  cases e : nksO ds with
  | none => rw [e] at h'; cases h'
  | some ks => rw [e] at h'; cases h'; exact ⟨ks, rfl, rfl⟩
theorem nksO_cons {d : D} {ds : List D} {qs : List NestedKey} (h : nksO (d :: ds) = some qs) : ∃ k ks, nkO d = some k ∧ nksO ds = some ks ∧ qs = k :: ks := by
  have h' : (match nkO d, nksO ds with | some k, some ks => some (k :: ks) | _, _ => none) = some qs := h
  cases e1 : nkO d with
  | none => rw [e1] at h'; cases h'
  | some q =>
    cases e2 : nksO ds with
    | none => rw [e1, e2] at h'; cases h'
    | some qs2 => rw [e1, e2] at h'; cases h'; exact ⟨q, qs2, rfl, rfl, rfl⟩
mutual
theorem beqK_key : ∀ (d e : D) (q r : NestedKey), nkO d = some q → nkO e = some r → beqK d e = NestedKey.beq q r
  | .non, e, q, r, h1, h2 => by
    cases h1
    cases e with
    | tup es => obtain ⟨_, _, rfl⟩ := nkO_tup h2; rfl
    | non => cases h2; rfl
    | int i => cases h2; rfl
    | str i => cases h2; rfl
    | _ => cases h2
  | .int i, e, q, r, h1, h2 => by
    cases h1
    cases e with
    | tup es => obtain ⟨_, _, rfl⟩ := nkO_tup h2; rfl
    | non => cases h2; rfl
    | int i => cases h2; rfl
    | str i => cases h2; rfl
    | _ => cases h2
  | .str i, e, q, r, h1, h2 => by
    cases h1
    cases e with
    | tup es => obtain ⟨_, _, rfl⟩ := nkO_tup h2; rfl
    | non => cases h2; rfl
    | int i => cases h2; rfl
    | str i => cases h2; rfl
    | _ => cases h2
  | .tup ds, e, q, r, h1, h2 => by
    obtain ⟨ks, hk, rfl⟩ := nkO_tup h1
    cases e with
    | tup es =>
      obtain ⟨js, hj, rfl⟩ := nkO_tup h2
      show beqKs ds es = NestedKey.beqAll ks js
      exact beqKs_key ds es ks js hk hj
    | non => cases h2; rfl
    | int i => cases h2; rfl
    | str i => cases h2; rfl
    | _ => cases h2
  | .bl _, _, _, _, h1, _ => by cases h1
  | .lst _, _, _, _, h1, _ => by cases h1
  | .dic _ _, _, _, _, h1, _ => by cases h1
  | .ins _ _, _, _, _, h1, _ => by cases h1
  | .ref _, _, _, _, h1, _ => by cases h1
  | .scr _, _, _, _, h1, _ => by cases h1
theorem beqKs_key : ∀ (ds es : List D) (qs rs : List NestedKey), nksO ds = some qs → nksO es = some rs → beqKs ds es = NestedKey.beqAll qs rs
  | [], [], qs, rs, h1, h2 => by cases h1; cases h2; rfl
  | [], e :: es, qs, rs, h1, h2 => by
    cases h1
    obtain ⟨_, _, _, _, rfl⟩ := nksO_cons h2
    rfl
  | d :: ds, [], qs, rs, h1, h2 => by
    cases h2
    obtain ⟨_, _, _, _, rfl⟩ := nksO_cons h1
    rfl
  | d :: ds, e :: es, qs, rs, h1, h2 => by
    obtain ⟨k1, ks1, a1, b1, rfl⟩ := nksO_cons h1
    obtain ⟨k2, ks2, a2, b2, rfl⟩ := nksO_cons h2
    show (beqK d e && beqKs ds es) = (NestedKey.beq k1 k2 && NestedKey.beqAll ks1 ks2)
    rw [beqK_key d e k1 k2 a1 a2, beqKs_key ds es ks1 ks2 b1 b2]
end
def nGet : List D → List D → D → Option D
  | k :: ks, v :: vs, q => if beqK k q then some v else nGet ks vs q
  | _, _, _ => none
def nPutVs : List D → List D → D → D → List D
  | k :: ks, w :: vs, q, v => (if beqK k q then v else w) :: nPutVs ks vs q v
  | _, vs, _, _ => vs
def nHas (ks : List D) (q : D) : Bool := ks.any fun k => beqK k q
def nPut (ks vs : List D) (q v : D) : List D × List D := if nHas ks q then (ks, nPutVs ks vs q v) else (ks ++ [q], vs ++ [v])
/-- a tuple that may be a key -/
def nKey (q : D) : Bool := match q with
  | .tup _ => (match nkO q with
    | some k => decide (k.depth ≤ 8)
    | none => false)
  | _ => false
section
variable {ms : Ms} {H : Hp}
theorem nKey_of {q : D} {v : V} (h : nKey q = true) (r : Rep T ms H q v) : ∃ b k, v = .ref b ∧ nkO q = some k ∧ NIs H k (.ref b) ∧ k.depth ≤ 8 := by
  cases q with
  | tup ds =>
    have h' : (match nkO (.tup ds) with | some k => decide (k.depth ≤ 8) | none => false) = true := h
    cases e : nkO (.tup ds) with
    | none => rw [e] at h'; cases h'
    | some k =>
      rw [e] at h'
      obtain ⟨a, vs, rfl, ha, rs⟩ := id r
      exact ⟨a, k, rfl, rfl, nis_of _ _ _ e r, of_decide_eq_true h'⟩
  | _ => cases h
theorem Reps.map_ref {xs : List (NestedKey × Addr × Value)} {ks : List D} (r : Reps T ms H ks (xs.map fun x => V.ref x.2.1)) (h : nksO ks = some (xs.map (·.1))) : ∀ y ∈ xs, NIs H y.1 (.ref y.2.1) := by
  induction xs generalizing ks with
  | nil => intro y hy; simp at hy
  | cons x xs ih =>
    cases ks with
    | nil => cases r
    | cons d ks =>
      obtain ⟨v, w, e, r1, r2⟩ := r
      cases e
      obtain ⟨k1, ks1, a1, b1, e2⟩ := nksO_cons h
      cases e2
      intro y hy
      rcases List.mem_cons.mp hy with rfl | hy
      · exact nis_of _ _ _ a1 r1
      · exact ih r2 b1 y hy
theorem nObj_at {a : Addr} {ks : List D} {kv ws : List V} (h : NObj T H a ks kv ws) (r : Reps T ms H ks kv) : ∃ xs, NAt T.P T.w H a xs ∧ nksO ks = some (xs.map (·.1)) ∧ kv = xs.map (fun x => V.ref x.2.1) ∧ Vals ws (xs.map (·.2.2)) := by
  obtain ⟨xs, es, h1, h2, h3, h4, h5, h6, h7, h8, h9⟩ := h
  subst h3
  exact ⟨xs, ⟨⟨es, h1, h5⟩, h6, fun y hy => ⟨Reps.map_ref r h2 y hy, h7 y hy⟩, h8, h9⟩, h2, rfl, h4⟩
theorem nGet_at {q : D} {key : NestedKey} (hq : nkO q = some key) : ∀ {xs : List (NestedKey × Addr × Value)} {ks vs : List D} {ws : List V}, nksO ks = some (xs.map (·.1)) → Reps T ms H vs ws → Vals ws (xs.map (·.2.2)) →
    match nGet ks vs q with
    | some d => ∃ p v, atKey xs key = some p ∧ RelV v p.2 ∧ Rep T ms H d v
    | none => atKey xs key = none
  | [], [], vs, ws, h1, h2, h3 => by
    cases vs <;> rfl
  | [], k :: ks, vs, ws, h1, h2, h3 => by obtain ⟨_, _, _, _, e⟩ := nksO_cons h1; cases e
  | x :: xs, [], vs, ws, h1, h2, h3 => by cases h1
  | x :: xs, k :: ks, vs, ws, h1, h2, h3 => by
    obtain ⟨k1, ks1, a1, b1, e⟩ := nksO_cons h1
    cases e
    cases h3 with
    | cons rw_ rt =>
      cases vs with
      | nil => cases h2
      | cons v vs =>
        obtain ⟨v1, vr, e2, r2, rs2⟩ := h2
        cases e2
        have eb := beqK_key k q _ _ a1 hq
        have key_iff := NestedKey.decide_eq x.1 key
        unfold nGet
        by_cases hz : x.1 = key
        · rw [eb, ← key_iff, decide_eq_true hz, if_pos rfl]
          refine ⟨x.2, _, ?_, rw_, r2⟩
          unfold atKey
          rw [List.find?_cons, decide_eq_true hz]
          rfl
        · rw [eb, ← key_iff, decide_eq_false hz, if_neg Bool.false_ne_true]
          have e3 : atKey (x :: xs) key = atKey xs key := by
            unfold atKey
            rw [List.find?_cons, decide_eq_false hz]
          rw [e3]
          exact nGet_at hq b1 rs2 rt
theorem nHas_at {q : D} {key : NestedKey} (hq : nkO q = some key) : ∀ {xs : List (NestedKey × Addr × Value)} {ks : List D}, nksO ks = some (xs.map (·.1)) → nHas ks q = (atKey xs key).isSome
  | [], [], h1 => rfl
  | [], k :: ks, h1 => by obtain ⟨_, _, _, _, e⟩ := nksO_cons h1; cases e
  | x :: xs, [], h1 => by cases h1
  | x :: xs, k :: ks, h1 => by
    obtain ⟨k1, ks1, a1, b1, e⟩ := nksO_cons h1
    cases e
    have ih := nHas_at hq b1
    have eb := beqK_key k q _ _ a1 hq
    unfold nHas at ih ⊢
    rw [List.any_cons, ih, eb, ← NestedKey.decide_eq]
    unfold atKey
    rw [List.find?_cons]
    by_cases hz : x.1 = key
    · rw [decide_eq_true hz]; rfl
    · rw [decide_eq_false hz]; rfl
theorem nksO_app : ∀ {ds es : List D} {ks js : List NestedKey}, nksO ds = some ks → nksO es = some js → nksO (ds ++ es) = some (ks ++ js)
  | [], es, ks, js, h1, h2 => by cases h1; exact h2
  | d :: ds, es, ks, js, h1, h2 => by
    obtain ⟨k1, ks1, a1, b1, rfl⟩ := nksO_cons h1
    have ih := nksO_app b1 h2
    show (match nkO d, nksO (ds ++ es) with | some k, some ks => some (k :: ks) | _, _ => none) = some (k1 :: (ks1 ++ js))
    rw [a1, ih]
theorem nPutVs_at {q d : D} {key : NestedKey} {v : V} {u : Value} (hq : nkO q = some key) (rv : Rep T ms H d v) (ru : RelV v u) : ∀ {xs : List (NestedKey × Addr × Value)} {ks vs : List D} {ws : List V}, nksO ks = some (xs.map (·.1)) → Reps T ms H vs ws → Vals ws (xs.map (·.2.2)) →
    ∃ ws', Reps T ms H (nPutVs ks vs q d) ws' ∧ Vals ws' ((xs.map (putAt key u)).map (·.2.2)) ∧ (xs.map (putAt key u)).map (·.1) = xs.map (·.1) ∧ (xs.map (putAt key u)).map (fun x => V.ref x.2.1) = xs.map (fun x => V.ref x.2.1)
  | [], [], vs, ws, h1, h2, h3 => by
    cases h3
    cases vs with
    | nil => exact ⟨[], rfl, .nil, rfl, rfl⟩
    | cons v vs => obtain ⟨_, _, e, _⟩ := h2; cases e
  | [], k :: ks, vs, ws, h1, h2, h3 => by obtain ⟨_, _, _, _, e⟩ := nksO_cons h1; cases e
  | x :: xs, [], vs, ws, h1, h2, h3 => by cases h1
  | x :: xs, k :: ks, vs, ws, h1, h2, h3 => by
    obtain ⟨k1, ks1, a1, b1, e⟩ := nksO_cons h1
    cases e
    cases h3 with
    | cons rw_ rt =>
      cases vs with
      | nil => cases h2
      | cons v2 vs =>
        obtain ⟨v1, vr, e2, r2, rs2⟩ := h2
        cases e2
        obtain ⟨ws', i1, i2, i3, i4⟩ := nPutVs_at hq rv ru b1 rs2 rt
        have eb := beqK_key k q _ _ a1 hq
        have key_iff := NestedKey.decide_eq x.1 key
        unfold nPutVs
        by_cases hz : x.1 = key
        · rw [eb, ← key_iff, decide_eq_true hz, if_pos rfl]
          have ep : putAt key u x = (x.1, x.2.1, u) := by unfold putAt; rw [if_pos hz]
          exact ⟨v :: ws', ⟨_, _, rfl, rv, i1⟩, by rw [List.map_cons, ep]; exact .cons ru i2, by rw [List.map_cons, List.map_cons, List.map_cons, ep, i3], by rw [List.map_cons, List.map_cons, List.map_cons, ep, i4]⟩
        · rw [eb, ← key_iff, decide_eq_false hz, if_neg Bool.false_ne_true]
          have ep : putAt key u x = x := by unfold putAt; rw [if_neg hz]
          exact ⟨_ :: ws', ⟨_, _, rfl, r2, i1⟩, by rw [List.map_cons, ep]; exact .cons rw_ i2, by rw [List.map_cons, List.map_cons, List.map_cons, ep, i3], by rw [List.map_cons, List.map_cons, List.map_cons, ep, i4]⟩
end
/-- a number of the heap that is a dict with tuple keys -/
def nDic (G : GH) : D → Option (Nat × List D × List D)
  | .ref j => (match G[j]? with
    | some (.tup [.tup ks, .tup vs]) => some (j, ks, vs)
    | _ => none)
  | _ => none
theorem nDic_of {ms : Ms} {H : Hp} {G : GH} {d : D} {v : V} {j : Nat} {ks vs : List D} (c : Cf T ms H G) (r : Rep T ms H d v) (h : nDic G d = some (j, ks, vs)) :
    ∃ q xs ws, v = .ref q ∧ ms.nm[j]? = some q ∧ G[j]? = some (.tup [.tup ks, .tup vs]) ∧ NAt T.P T.w H q xs ∧ nksO ks = some (xs.map (·.1)) ∧ Reps T ms H ks (xs.map (fun x => V.ref x.2.1)) ∧ Vals ws (xs.map (·.2.2)) ∧ Reps T ms H vs ws := by
  unfold nDic at h
  split at h
  · rename_i j2
    split at h
    · rename_i ks2 vs2 hg
      cases h
      obtain ⟨q, rfl, hq⟩ := r
      obtain ⟨kv, ws, h1, h2, h3⟩ := c.obj j _ q hg hq
      obtain ⟨xs, na, e1, e2, e3⟩ := nObj_at h1 h2
      subst e2
      exact ⟨q, xs, ws, rfl, hq, hg, na, e1, h2, e3, h3⟩
    · cases h
  · cases h

/-! ### x[y], of all kinds -/
def oIxA (x y : D) (G : GH) : R D := match nDic G x with
  | some (_, ks, vs) => if nKey y then oSome (nGet ks vs y) G else .st
  | none => match vw G x with
    | .dic ks vs => (match keyO y with
      | some _ => oSome (dicGet ks vs y) G
      | none => .st)
    | _ => oIx x y G
def rIxAll (K : PySem.W.Frag) (P : Program) (w : World) : R2 := fun x y H Q => rIxN P w x y H Q ∨ (∃ a v, x = .ref a ∧ DGet H a y (some v) ∧ Q v H) ∨ rIx K x y H Q
theorem ix_dget (hu : X.A.units + 64 < cLine) : IxR X (fun x y H Q => ∃ a v, x = .ref a ∧ DGet H a y (some v) ∧ Q v H) := by
  intro value slice pins s σ H x y v u Q I rx ry h hs
  obtain ⟨a, r, rfl, g, q⟩ := h
  obtain rfl : v = Value.ref a := rx
  exact PyProof.Rows.tail_any (dict_typeIs I g) F.slot_dict_getitem.lookup (d_getItem (by omega) I g ry fun w' s3 I3 rw' => ⟨r, H, I3, rw', q⟩) hs
theorem ix_all (hu : X.A.units + 64 < cLine) : IxR X (rIxAll X.K X.prog X.w) := (ix_nd hu).or ((ix_dget hu).or ix_seq)
theorem od_ixA : OpD T (rIxAll T.K T.P T.w) oIxA := fun W ms H G x y dx dy Q rx ry c h => by
  unfold oIxA at h
  split at h
  · rename_i j ks vs hn
    obtain ⟨p, h⟩ := ifst h
    obtain ⟨d, hd, h⟩ := oSome_of h
    obtain ⟨q, xs, ws, rfl, _, _, na, e1, _, e3, r3⟩ := nDic_of c rx hn
    obtain ⟨b, key, rfl, hk, hnk, hdp⟩ := nKey_of p ry
    have g := nGet_at hk e1 r3 e3
    rw [hd] at g
    obtain ⟨pp, v, h1, h2, h3⟩ := g
    exact .inl ⟨q, b, key, xs, pp, v, rfl, rfl, na, hnk, hdp, h1, h2, h v H ms (Stp.refl _ _) h3 c⟩
  · split at h
    · rename_i ks vs e
      split at h
      · rename_i key hk
        obtain ⟨d, hd, h⟩ := oSome_of h
        obtain ⟨a, kv, wv, rfl, ⟨kvs, h0, rfl, rfl⟩, r1, r2⟩ := vw_dic c rx e
        have g := dicGet_val hk r1 r2
        rw [hd] at g
        obtain ⟨v, g1, g2⟩ := g
        exact .inr (.inl ⟨a, v, rfl, .inl ⟨kvs, key, .inl h0, keyO_rep ry hk, g1.symm⟩, h v H ms (Stp.refl _ _) g2 c⟩)
      · exact h.elim
    · exact .inr (.inr (od_ix W ms H G x y dx dy Q rx ry c h))
theorem jixA {k : Nat} (B : Bd X T W k) (hP : T.P = X.prog) (hw : T.w = X.w) (ha : JE X T W a fa) (hb : JE X T W b fb) (hs : PlainIx b := by exact fun _ _ => rfl) : JE X T W (.Subscript a b pos) (fBin oIxA fa fb) :=
  PE.imp (pe_ix (ix_all B.u64) ha hb hs) fun _ _ _ h => t_bin (by rw [← hP, ← hw, ← B.hK]; exact od_ixA) h

/-! ### in -/
def okL (xs : List D) : Bool := arePy xs && SeqAt.shaped (.list (pys xs))
def oIn (neg : Bool) (x y : D) (G : GH) : R D := match nDic G y with
  | some (_, ks, _) => if nKey x then .ok (.bl (neg.xor (nHas ks x))) G else .st
  | none => match vw G y with
    | .dic ks vs => (match keyO x with
      | some _ => .ok (.bl (neg.xor (dicHas ks x))) G
      | none => .st)
    | .lst xs => if okL xs && okV G x then .ok (.bl (neg.xor ((pys xs).any fun z => PyData.eqv z (py (vw G x))))) G else .st
    | .str z => (match x with
      | .str q => (match q.cps.toList with
        | [cc] => .ok (.bl (neg.xor (decide (cc ∈ z.cps.toList)))) G
        | _ => .st)
      | _ => .st)
    | _ => .st
def rInAll (K : PySem.W.Frag) (P : Program) (w : World) : R2 := fun x y H Q => rInN P w false x y H Q ∨ (∃ a o, y = .ref a ∧ DGet H a x o ∧ Q (.bl o.isSome) H) ∨ rInD K x y H Q ∨ ∃ (c : Nat) (z : Str), x = .str ⟨#[c]⟩ ∧ y = .str z ∧ Q (.bl (decide (c ∈ z.cps.toList))) H
def rNotInAll (K : PySem.W.Frag) (P : Program) (w : World) : R2 := fun x y H Q => rInN P w true x y H Q ∨ (∃ a o, y = .ref a ∧ DGet H a x o ∧ Q (.bl (!o.isSome)) H) ∨ rNotInD K x y H Q ∨ ∃ (c : Nat) (z : Str), x = .str ⟨#[c]⟩ ∧ y = .str z ∧ Q (.bl (!decide (c ∈ z.cps.toList))) H
theorem op_din (hu : X.A.units + 64 < cLine) : OpR X (compareOp .In) (fun x y H Q => ∃ a o, y = .ref a ∧ DGet H a x o ∧ Q (.bl o.isSome) H) := by
  intro pins s σ H x y u v Q I rx ry h
  obtain ⟨a, r, rfl, g, q⟩ := h
  obtain rfl : v = Value.ref a := ry
  exact d_in (by omega) I g rx fun s' I' => ⟨.bl r.isSome, H, I', rfl, q⟩
theorem op_dnotin (hu : X.A.units + 64 < cLine) : OpR X (compareOp .NotIn) (fun x y H Q => ∃ a o, y = .ref a ∧ DGet H a x o ∧ Q (.bl (!o.isSome)) H) := by
  intro pins s σ H x y u v Q I rx ry h
  obtain ⟨a, r, rfl, g, q⟩ := h
  obtain rfl : v = Value.ref a := ry
  exact d_notIn (by omega) I g rx fun s' I' => ⟨.bl (!r.isSome), H, I', rfl, q⟩
theorem op_inAll (hu : X.A.units + 65 < cLine) : OpR X (compareOp .In) (rInAll X.K X.prog X.w) := (op_inN (by omega)).or ((op_din (by omega)).or ((op_inD hu).or op_in_sign))
theorem op_notInAll (hu : X.A.units + 65 < cLine) : OpR X (compareOp .NotIn) (rNotInAll X.K X.prog X.w) := (op_notInN (by omega)).or ((op_dnotin (by omega)).or ((op_notInD hu).or op_notIn_sign))
theorem str_one {q : Str} {cc : Nat} (h : q.cps.toList = [cc]) : q = ⟨#[cc]⟩ := by
  obtain ⟨cps⟩ := q
  have h' : cps.toList = [cc] := h
  obtain ⟨l⟩ := cps
  have h2 : l = [cc] := h'
  rw [h2]
theorem in_core {ms : Ms} {H : Hp} {G : GH} {x y : V} {dx dy : D} {neg : Bool} {Q : VK} {W : Value → Option Addr → Hp → Prop} (rx : Rep T ms H dx x) (ry : Rep T ms H dy y) (c : Cf T ms H G) (h : OkE T W (oIn neg dx dy G) ms H Q) :
    (∃ a b q xs, y = .ref a ∧ x = .ref b ∧ NAt T.P T.w H a xs ∧ NIs H q (.ref b) ∧ q.depth ≤ 8 ∧ Q (.bl (neg.xor (atKey xs q).isSome)) H) ∨ (∃ a o, y = .ref a ∧ DGet H a x o ∧ Q (.bl (neg.xor o.isSome)) H) ∨
    (∃ d ds, Dp T.K H x d ∧ Dp T.K H y (.list ds) ∧ SeqAt.shaped d = true ∧ SeqAt.shaped (.list ds) = true ∧ Q (.bl (neg.xor (ds.any fun z => PyData.eqv z d))) H) ∨ ∃ (c : Nat) (z : Str), x = .str ⟨#[c]⟩ ∧ y = .str z ∧ Q (.bl (neg.xor (decide (c ∈ z.cps.toList)))) H := by
  unfold oIn at h
  split at h
  · rename_i j ks vs hn
    obtain ⟨p, h⟩ := ifst h
    obtain ⟨q, xs, ws, rfl, _, _, na, e1, _, e3, r3⟩ := nDic_of c ry hn
    obtain ⟨b, key, rfl, hk, hnk, hdp⟩ := nKey_of p rx
    rw [nHas_at hk e1] at h
    exact .inl ⟨q, b, key, xs, rfl, rfl, na, hnk, hdp, h _ H ms (Stp.refl _ _) rfl c⟩
  · split at h
    · rename_i ks vs e
      split at h
      · rename_i key hk
        obtain ⟨a, kv, wv, rfl, ⟨kvs, h0, rfl, rfl⟩, r1, r2⟩ := vw_dic c ry e
        rw [dicHas_val hk r1, valV_any] at h
        exact .inr (.inl ⟨a, valV kvs key, rfl, .inl ⟨kvs, key, .inl h0, keyO_rep rx hk, rfl⟩, h _ H ms (Stp.refl _ _) rfl c⟩)
      · exact h.elim
    · rename_i xs e
      obtain ⟨p, h⟩ := ifst h
      unfold okL at p
      rw [Bool.and_eq_true, Bool.and_eq_true] at p
      obtain ⟨a, vs, rfl, ha, rs⟩ := vw_lst c ry e
      obtain ⟨d1, d2⟩ := okV_dp c rx p.2
      exact .inr (.inr (.inl ⟨_, _, d1, .lst (.of ha) (dps_of xs vs p.1.1 rs), d2, p.1.2, h _ H ms (Stp.refl _ _) rfl c⟩))
    · rename_i z e
      have ey := vw_str c ry e
      split at h
      · rename_i q
        split at h
        · rename_i cc hcc
          have eq := str_one hcc
          subst eq
          exact .inr (.inr (.inr ⟨cc, z, rx, ey, h _ H ms (Stp.refl _ _) rfl c⟩))
        · exact h.elim
      · exact h.elim
    · exact h.elim
theorem od_in : OpD T (rInAll T.K T.P T.w) (oIn false) := fun W ms H G x y dx dy Q rx ry c h => by
  rcases in_core rx ry c h with ⟨a, b, q, xs, h1, h2, h3, h4, h5, h6⟩ | ⟨a, r, h1, h2, h3⟩ | ⟨d, ds, h1, h2, h3, h4, h5⟩ | ⟨cc, z, h1, h2, h3⟩
  · exact .inl ⟨a, b, q, xs, h1, h2, h3, h4, h5, by simpa using h6⟩
  · exact .inr (.inl ⟨a, r, h1, h2, by simpa using h3⟩)
  · exact .inr (.inr (.inl ⟨d, ds, h1, h2, h3, h4, by simpa using h5⟩))
  · exact .inr (.inr (.inr ⟨cc, z, h1, h2, by simpa using h3⟩))
theorem od_notin : OpD T (rNotInAll T.K T.P T.w) (oIn true) := fun W ms H G x y dx dy Q rx ry c h => by
  rcases in_core rx ry c h with ⟨a, b, q, xs, h1, h2, h3, h4, h5, h6⟩ | ⟨a, r, h1, h2, h3⟩ | ⟨d, ds, h1, h2, h3, h4, h5⟩ | ⟨cc, z, h1, h2, h3⟩
  · exact .inl ⟨a, b, q, xs, h1, h2, h3, h4, h5, by simpa using h6⟩
  · exact .inr (.inl ⟨a, r, h1, h2, by simpa using h3⟩)
  · exact .inr (.inr (.inl ⟨d, ds, h1, h2, h3, h4, by simpa using h5⟩))
  · exact .inr (.inr (.inr ⟨cc, z, h1, h2, by simpa using h3⟩))
theorem op_inT (hu : X.A.units + 65 < cLine) (hP : T.P = X.prog) (hw : T.w = X.w) (hK : T.K = X.K) : OpR X (compareOp .In) (rInAll T.K T.P T.w) := by rw [hP, hw, hK]; exact op_inAll hu
theorem op_notInT (hu : X.A.units + 65 < cLine) (hP : T.P = X.prog) (hw : T.w = X.w) (hK : T.K = X.K) : OpR X (compareOp .NotIn) (rNotInAll T.K T.P T.w) := by rw [hP, hw, hK]; exact op_notInAll hu

/-! ### x[i] = y, of all kinds -/
/-- a dict of the heap, changed -/
theorem wr_dic {ms : Ms} {H : Hp} {G : GH} {i : Nat} {ks vs : List D} {x : V} (c : Cf T ms H G) (r : Rep T ms H (.ref i) x) (hg : G[i]? = some (.dic ks vs)) : ∃ (q : Addr) (kvs : List (Key × V)), x = .ref q ∧ H q = some (.dK kvs) ∧ Reps T ms H ks (kvs.map fun z => kV z.1) ∧ Reps T ms H vs (kvs.map (·.2)) ∧
    ∀ (ks' vs' : List D) (kvs' : List (Key × V)), Reps T ms H ks' (kvs'.map fun z => kV z.1) → Reps T ms H vs' (kvs'.map (·.2)) → Stp ms H ms (upd H q (.dK kvs')) ∧ Cf T ms (upd H q (.dK kvs')) (G.set i (.dic ks' vs')) := by
  obtain ⟨q, rfl, hq⟩ := r
  obtain ⟨kv, ws, ⟨kvs, h0, rfl, rfl⟩, h1, h2⟩ := c.obj i _ q hg hq
  refine ⟨q, kvs, rfl, h0, h1, h2, fun ks' vs' kvs' r1 r2 => ?_⟩
  have st : Stp ms H ms (upd H q (.dK kvs')) := Stp.wr (List.mem_of_getElem? hq) h0 fun _ z => by cases z
  exact ⟨st, c.wr hq h0 (fun _ z => by cases z) ⟨_, _, ⟨kvs', upd_same, rfl, rfl⟩, Reps.mono st _ _ r1, Reps.mono st _ _ r2⟩⟩
def setIx (o i d : D) (G : GH) : Option GH := match o with
  | .ref j => (match G[j]? with
    | some (.lst xs) => (match i with
      | .int ii => (match ixN xs.length ii with
        | some kk => some (G.set j (.lst (xs.set kk d)))
        | none => none)
      | _ => none)
    | some (.dic ks vs) => (match keyO i with
      | some _ => if ks.length < sizeLine then some (G.set j (.dic (putD ks vs i d).1 (putD ks vs i d).2)) else none
      | none => none)
    | some (.tup [.tup ks, .tup vs]) => if nKey i && decide (ks.length < sizeLine) then some (G.set j (.tup [.tup (nPut ks vs i d).1, .tup (nPut ks vs i d).2])) else none
    | _ => none)
  | _ => none
def rSetAll (P : Program) (w : World) : TSet := fun o i v H Q => rSetL o i v H Q ∨ rSetD o i v H Q ∨ rSetN P w o i v H Q
theorem set_all (hu : X.A.units + 64 < cLine) : PSet X (rSetAll X.prog X.w) := by
  intro pins s σ H o i v ov iv u Q I ro ri rv h
  rcases h with h | h | h
  · exact set_list pins s σ H o i v ov iv u Q I ro ri rv h
  · exact set_dict (by omega) pins s σ H o i v ov iv u Q I ro ri rv h
  · exact set_nd hu pins s σ H o i v ov iv u Q I ro ri rv h
theorem set_ix {ms : Ms} {H : Hp} {G G2 : GH} {o i d : D} {xo xi v : V} {Q : Hp → Prop} (c : Cf T ms H G) (ro : Rep T ms H o xo) (ri : Rep T ms H i xi) (rv : Rep T ms H d v) (h : setIx o i d G = some G2)
    (k : ∀ H', Stp ms H ms H' → Cf T ms H' G2 → Q H') : rSetAll T.P T.w xo xi v H Q := by
  unfold setIx at h
  split at h
  · rename_i j
    split at h
    · rename_i xs hg
      split at h
      · rename_i ii
        split at h
        · rename_i kk hk
          cases h
          obtain ⟨q, ws, rfl, hq, rw_, up⟩ := wr_lst c ro hg
          cases ri
          obtain ⟨s3, c3⟩ := up (xs.set kk d) (ws.set kk v) (Reps.set rv kk rw_)
          exact .inl ⟨q, ws, ii, kk, rfl, rfl, hq, by rw [rw_.len]; exact hk, k _ s3 c3⟩
        · cases h
      · cases h
    · rename_i ks vs hg
      split at h
      · rename_i key hk
        by_cases hl : ks.length < sizeLine
        · rw [if_pos hl] at h
          cases h
          obtain ⟨q, kvs, rfl, hq, r1, r2, up⟩ := wr_dic c ro hg
          obtain ⟨p1, p2⟩ := putD_rep hk ri rv r1 r2
          obtain ⟨s3, c3⟩ := up _ _ _ p1 p2
          exact .inr (.inl ⟨q, _, rfl, .inl ⟨kvs, key, hq, keyO_rep ri hk, by have := r1.len; rw [List.length_map] at this; rw [this]; exact hl, rfl⟩, k _ s3 c3⟩)
        · rw [if_neg hl] at h
          cases h
      · cases h
    · rename_i ks vs hg
      cases hb : nKey i && decide (ks.length < sizeLine) with
      | false => rw [hb] at h; cases h
      | true =>
        rw [hb, if_pos rfl] at h
        cases h
        rw [Bool.and_eq_true] at hb
        have hn : nDic G (.ref j) = some (j, ks, vs) := by unfold nDic; simp only [hg]
        obtain ⟨q, xs, ws, rfl, hq, _, na, e1, rk, e3, r3⟩ := nDic_of c ro hn
        obtain ⟨b, key, rfl, hk, hnk, hdp⟩ := nKey_of hb.1 ri
        have hlen : ks.length = xs.length := by have := rk.len; rw [List.length_map] at this; exact this.symm
        refine .inr (.inr ⟨q, b, key, xs, rfl, rfl, na, hnk, hdp, by rw [← hlen]; exact of_decide_eq_true hb.2, fun u es ru hes hnd => ?_⟩)
        obtain ⟨es0, h0, h00⟩ := na.ob
        have st : Stp ms H ms (upd H q (NDO q es)) := Stp.wr (List.mem_of_getElem? hq) h0 fun _ z => by cases z
        refine k _ st (c.wr hq h0 (fun _ z => by cases z) ?_)
        have hh := nHas_at hk e1
        have key_len : (storedH xs key b u).length ≤ sizeLine := by
          unfold storedH
          split
          · rw [List.length_map]; exact na.len
          · rw [List.length_append, List.length_singleton, ← hlen]; exact of_decide_eq_true hb.2
        have key_dep : ∀ y ∈ storedH xs key b u, y.1.depth ≤ 8 := by
          unfold storedH
          split
          · intro y hy
            obtain ⟨z, hz, rfl⟩ := List.mem_map.mp hy
            unfold putAt
            split
            · exact (na.ks z hz).2
            · exact (na.ks z hz).2
          · intro y hy
            rcases List.mem_append.mp hy with hy | hy
            · exact (na.ks y hy).2
            · rw [List.mem_singleton.mp hy]; exact hdp
        unfold nPut
        cases z : nHas ks i with
        | true =>
          rw [z] at hh
          have es1 : storedH xs key b u = xs.map (putAt key u) := by unfold storedH; rw [if_pos hh.symm]
          obtain ⟨ws', i1, i2, i3, i4⟩ := nPutVs_at hk rv ru e1 r3 e3
          refine ⟨_, ws', ⟨xs.map (putAt key u), es, upd_same, by rw [i3]; exact e1, rfl, i2, by rw [hes, es1], by rw [← es1]; exact hnd, by rw [← es1]; exact key_dep, by rw [← es1]; exact key_len, na.hs⟩, ?_, Reps.mono st _ _ i1⟩
          rw [i4]
          exact Reps.mono st _ _ rk
        | false =>
          rw [z] at hh
          have es1 : storedH xs key b u = xs ++ [(key, b, u)] := by unfold storedH; rw [← hh, if_neg Bool.false_ne_true]
          have k1 : nksO [i] = some [key] := by
            show (match nkO i, (some [] : Option (List NestedKey)) with | some k, some ks => some (k :: ks) | _, _ => none) = some [key]
            rw [hk]
          refine ⟨_, ws ++ [v], ⟨xs ++ [(key, b, u)], es, upd_same, by rw [List.map_append]; exact nksO_app e1 k1, rfl, by rw [List.map_append]; exact e3.append (.cons ru .nil), by rw [hes, es1], by rw [← es1]; exact hnd, by rw [← es1]; exact key_dep, by rw [← es1]; exact key_len, na.hs⟩, ?_, ?_⟩
          · rw [List.map_append]
            exact (Reps.mono st _ _ rk).app ⟨_, [], rfl, Rep.mono st _ _ ri, rfl⟩
          · exact (Reps.mono st _ _ r3).app ⟨_, [], rfl, Rep.mono st _ _ rv, rfl⟩
    · cases h
  · cases h
def gSub (fo fi : F) : FG := fun d ρ G => match fo ρ G with
  | .ok o G1 => (match fi ρ G1 with
    | .ok i G2 => (match setIx o i d G2 with
      | some G3 => some (ρ, G3)
      | none => none)
    | _ => none)
  | _ => none
theorem jg_sub {k : Nat} {own : List Nat} {i : Expr} {fo fi : F} (B : Bd X T W k) (hP : T.P = X.prog) (hw : T.w = X.w) (ho : JE X T WN o fo) (hi : JE X T WN i fi)
    (ha : ∀ v, assign (.Subscript o i pos) X.env v = (do
      let ov ← holding [v] (eval o X.env)
      let iv ← holding [v, ov] (eval i X.env)
      standAt pos
      holding [v, ov, iv] (setItem ov iv v)
      release [v, ov, iv] []) := by intro _; rfl) : JG X T own (.Subscript o i pos) (gSub fo fi) :=
  PG.imp (pg_sub ho hi (set_all B.u64) ha) fun v σ H Q ⟨d, ρ, ms, G, r, he, hc, h⟩ => by
    refine ⟨ρ, ms, G, he, hc, ?_⟩
    unfold gSub at h
    split at h
    · rename_i oo G1 e1
      rw [e1]
      intro xo H1 ms1 s1 r1 c1
      refine ⟨ρ, ms1, G1, he.mono s1, c1, ?_⟩
      split at h
      · rename_i ii G2 e2
        rw [e2]
        intro xi H2 ms2 s2 r2 c2
        split at h
        · rename_i G3 e3
          have st := s1.trans s2
          rw [← hP, ← hw]
          exact set_ix c2 (Rep.mono s2 _ _ r1) r2 (Rep.mono st _ _ r) e3 fun H' s3 c3 => h σ H' ms2 ⟨rfl, fun _ _ => rfl⟩ (st.trans s3) (he.mono (st.trans s3)) c3
        · exact h.elim
      · exact h.elim
    · exact h.elim
end DL

set_option Elab.async false
set_option linter.all false
set_option maxRecDepth 100000
set_option maxHeartbeats 2000000
set_option autoImplicit false
namespace DL
open PySem L2
/-! ### enumerate(x) of a tuple, of a text -/
theorem enum_new1 {v : Value} {o : Obj} {R : Heap → Prop} (B : Begins v o R) :
    Meets (Builtin.«enumerate.__new__» ⟨[.type "enumerate", v], []⟩) (fun _ Z s => R s.heap ∧ Z (.ok (.ret (.ref (s.heap.push o).objs.size)))
      { s with heap := (s.heap.push o).push { cls := .type "enumerate", data := .fields #[.none, .bool false, .ref s.heap.objs.size, rawInt 0, .none, .none] } }) :=
  .of_wp fun prog w A Z s hz => by
    obtain ⟨hp, gg, dd, tk, os⟩ := s
    obtain ⟨r0, fin⟩ := hz
    have subE := sub_enumerate
    have itr : ∀ {A2 : Around} {E : Value → Shared → Prop} {Q : Value → Shared → Prop}, Q (.ref hp.objs.size) ⟨hp.push o, gg, dd, tk, os⟩ → wpAny (model prog w) A2 (pyIter v) Q E ⟨hp, gg, dd, tk, os⟩ := fun q => B.iter prog w _ _ ⟨hp, gg, dd, tk, os⟩ _ r0 q
    wp_walk using itr
    refine wpAny_stack_any fun stk => wpAny_pure ?_
    split
    · rename_i cc _ _ _ _ _
      cases (cc == Value.type "enumerate") <;> (wp_walk using itr; exact ⟨_, rfl, fin⟩)
    · wp_walk using itr
      exact ⟨_, rfl, fin⟩
theorem enum_call1 {prog : Program} {w : World} {A : Around} {E : Value → Shared → Prop} {s : Shared} {v : Value} {o : Obj} {R : Heap → Prop} {Q : Value → Shared → Prop} (B : Begins v o R) (r0 : R s.heap)
    (fin : ∀ h', IsEnum h' (s.heap.objs.size + 1) s.heap.objs.size 0 .none → h'.get? s.heap.objs.size = some o → (∀ b ob, s.heap.get? b = some ob → h'.get? b = some ob) → Q (.ref (s.heap.objs.size + 1)) { s with heap := h' }) :
    wpAny (model prog w) A (call (.type "enumerate") [v]) Q E s := by
  refine callType_new F.called_enumerate (by decide) (F.typeCall_enumerate_1 _) (F.newCall_enumerate_1 _) (fun obj => F.args_object_init_2 obj _) F.entry_enumerate_new (enum_new1 B) ⟨r0, ?_⟩
  have sz : (s.heap.push o).objs.size = s.heap.objs.size + 1 := Heap.size_push ..
  have atE : ((s.heap.push o).push { cls := .type "enumerate", data := .fields #[.none, .bool false, .ref s.heap.objs.size, rawInt 0, .none, .none] }).get? (s.heap.objs.size + 1) = some { cls := .type "enumerate", data := .fields #[.none, .bool false, .ref s.heap.objs.size, rawInt 0, .none, .none] } := by
    rw [← sz]
    exact Heap.get?_push_size _ rfl
  show _ ∧ _
  rw [sz]
  exact ⟨⟨_, atE, rfl⟩, fin _ atE (Heap.get?_push_of_some _ (Heap.get?_push_size _ B.free)) fun b ob q => Heap.get?_push_of_some _ (Heap.get?_push_of_some _ q)⟩
/-- the n items that Y tells, each in a new pair with its place -/
def ItEn (n : Nat) (Y : Nat → Hp → V → Prop) (S : Hp → Prop) : It := ⟨fun i H => i < n ∧ S H, fun i H v H' => ∃ Tp y, v = .ref Tp ∧ H Tp = none ∧ H' = upd H Tp (.tup [.int (i : Nat), y]) ∧ Y i H y, fun i H => i = n ∧ S H⟩
/-- what an iterator under enumerate must be -/
structure EnSrc (P : Program) (w : World) (K : PySem.W.Frag) (it : Addr) (n : Nat) (Y : Nat → Hp → V → Prop) (S : Hp → Prop) (tn : Nat → Heap → Prop) : Prop where
  src : ∀ (X : Cx), X.prog = P → X.w = w → X.K = K → X.calm = true → ∀ (i : Nat) (pins : List (Addr × Obj)) (s : Shared) (σ : St) (H : Hp), Inv X pins σ H s → H it = none → tn i s.heap → S H →
    ∃ (fp : List Addr) (Pv : Nat → Value → Prop) (Sv : Nat → Heap → Prop), Draws P w X.A.in1 it (it :: fp) n Pv Sv ∧ Sv i s.heap ∧ (∀ b ∈ fp, H b ≠ none) ∧ (∀ j h, Sv j h → tn j h) ∧ ∀ j u, Pv j u → ∃ y, RelV y u ∧ Y j H y
  obj : ∀ i h, tn i h → ∃ o, h.get? it = some o ∧ ∀ v, o.data ≠ .cell v
  keep : ∀ i h h', tn i h → (∀ o, h.get? it = some o → h'.get? it = some o) → tn i h'
theorem turn_en {P : Program} {w : World} {K : PySem.W.Frag} {elts : List Expr} {kk n : Nat} {tpos : Pos} {e it : Addr} {Y : Nat → Hp → V → Prop} {S : Hp → Prop} {tn : Nat → Heap → Prop} (hne : e ≠ it) (Z : EnSrc P w K it n Y S tn) :
    Turn P w K (.Tuple elts kk tpos) (ItEn n Y S) [e, it] e (fun i h => (∃ old, IsEnum h e it ((i : Nat) : Int) old) ∧ tn i h) where
  mem := by simp
  obj := fun i h st b hb => by
    obtain ⟨⟨old, he⟩, t⟩ := st
    rcases (by simpa using hb : b = e ∨ b = it) with z | z
    · subst z
      exact ⟨_, he, fun v q => nomatch q⟩
    · rw [z]; exact Z.obj i h t
  keep := fun i h h' st k => by
    obtain ⟨⟨old, he⟩, t⟩ := st
    exact ⟨⟨old, k e (by simp) _ he⟩, Z.keep i h h' t fun o q => k it (by simp) o q⟩
  item := by
    intro X hP hw hK hc i pins s σ H E I hf st hg
    obtain ⟨⟨old, he⟩, t⟩ := st
    obtain ⟨hi, hS⟩ := hg
    obtain ⟨fp, Pv, Sv, dr, sv, far, svt, val⟩ := Z.src X hP hw hK hc i pins s σ H I (hf it (by simp)).1 t hS
    have eOut : e ∉ it :: fp := fun q => by
      rcases List.mem_cons.mp q with q | q
      · exact hne q
      · exact far e q (hf e (by simp)).1
    have elt : e < s.heap.objs.size := Heap.lt_size he
    have ilt : it < s.heap.objs.size := by obtain ⟨o, q, _⟩ := Z.obj i _ t; exact Heap.lt_size q
    subst hP hw hK
    refine wpAny_pyNext_enum_itemC dr he sv hi hne eOut fun x h' tk px out sv' hT hz hk => ?_
    refine ⟨_, rfl, wpAny_letOwnedTupleGo_enum (s := { s with heap := h', toks := tk + 1 }) out fun h'' he' sb => ?_⟩
    obtain ⟨y, ry, hy⟩ := val i x px
    have hT2 := (sb.2 _ (Nat.ne_of_gt elt)).trans hT
    have okT : ObjOk X.prog X.w (upd H s.heap.objs.size (.tup [.int (i : Nat), y])) h'' s.heap.objs.size (.tup [.int (i : Nat), y]) :=
      ⟨by show 2 ≤ sizeLine; decide, [.int i tk, x], .cons ⟨_, rfl⟩ (.cons ry .nil), ⟨_, hT2, rfl, _, rfl⟩⟩
    have J : Inv X pins σ (upd H s.heap.objs.size (.tup [.int (i : Nat), y])) { s with heap := h'', toks := tk + 1 } :=
      I.turnedNew (ch := [e, it]) (fun b ob hb q => by
        have hbe : b ≠ e := fun z => hb (by simp [z])
        have hbi : b ≠ it := fun z => hb (by simp [z])
        exact (sb.2 b hbe).trans (hk b ob hbe hbi q)) hf (Nat.le_refl _) okT
    refine ⟨.ref s.heap.objs.size, _, J, rfl, ⟨_, y, rfl, I.hok.fresh (Nat.le_refl _), rfl, hy⟩, ⟨⟨x, by rw [show ((i + 1 : Nat) : Int) = (i : Int) + 1 by omega]; exact he'⟩, Z.keep _ _ _ (svt _ _ sv') fun o q => (sb.2 it (Ne.symm hne)).trans q⟩, fun b hb => ?_⟩
    have hb' : b < s.heap.objs.size := by
      rcases (by simpa using hb : b = e ∨ b = it) with z | z
      · rw [z]; exact elt
      · rw [z]; exact ilt
    rw [upd_ne (Nat.ne_of_lt hb')]
    exact (hf b hb).1
  done := by
    intro X hP hw hK hc i pins s σ H E I hf st hg
    obtain ⟨⟨old, he⟩, t⟩ := st
    obtain ⟨rfl, hS⟩ := hg
    obtain ⟨fp, Pv, Sv, dr, sv, far, svt, val⟩ := Z.src X hP hw hK hc i pins s σ H I (hf it (by simp)).1 t hS
    obtain ⟨f0, f1, f2, f3, f4, f5⟩ := hf it (by simp)
    subst hP hw hK
    exact wpAny_pyNext_enum_endD dr he sv fun h' hx => ⟨rfl, I.turned (t' := s.toks) (fun b o hb q => hx b o hb q) f0 f1 f3 f4 f5⟩
  self := fun A i s Q E st h => by
    obtain ⟨⟨_, he⟩, _⟩ := st
    exact wpAny_pyIter_enum he h
theorem vals_back : ∀ {xs : List V} {us : List Value} {i : Nat} {u : Value}, Vals xs us → us[i]? = some u → ∃ y, xs[i]? = some y ∧ RelV y u
  | _, _, _, _, .nil, h => by simp at h
  | _, _, 0, _, .cons r t, h => by
    simp at h
    subst h
    exact ⟨_, rfl, r⟩
  | _, _, i + 1, _, .cons r t, h => by
    obtain ⟨y, h1, h2⟩ := vals_back (i := i) t (by simpa using h)
    exact ⟨y, by simpa using h1, h2⟩
theorem en_tup {P : Program} {w : World} {K : PySem.W.Frag} {it a : Addr} {xs : List V} (hne : it ≠ a) : EnSrc P w K it xs.length (fun i _ y => xs[i]? = some y) (fun H => H a = some (.tup xs)) (fun i h => h.IsTupleIter it a i) where
  src := by
    intro X hP hw hK hc i pins s σ H I hit t hS
    obtain ⟨its, rv, tp, hz⟩ := I.tuple (SqT.of (K := X.K) hS)
    have hl := rv.length
    subst hP hw hK
    refine ⟨[a], fun i v => its.toArray[i]? = some v, fun i h => h.IsTupleIter it a i ∧ h.IsTuple a its.toArray, ?_, ⟨t, tp⟩, fun b hb => by rw [List.mem_singleton.mp hb, hS]; simp, fun j h q => q.1, fun j u q => ?_⟩
    · have := Draws.tuple (prog := X.prog) (w := X.w) (A := X.A.in1) (I.ok.hd hc) it a (Ne.symm hne) its.toArray
      rw [List.size_toArray, ← hl] at this
      exact this
    · obtain ⟨y, hy, ry⟩ := vals_back (u := u) (i := j) rv (by simpa using q)
      exact ⟨y, ry, hy⟩
  obj := fun i h t => by
    obtain ⟨o, ho, hc, hd⟩ := t
    exact ⟨o, ho, fun v q => by rw [hd] at q; cases q⟩
  keep := fun i h h' t k => t.at fun o q => k o q

theorem en_text {P : Program} {w : World} {K : PySem.W.Frag} {it : Addr} {z : Str} {t0 : Tok} : EnSrc P w K it z.cps.size (fun i _ y => ∃ c, z.cps[i]? = some c ∧ y = .str ⟨#[c]⟩) (fun _ => True) (fun i h => h.IsStrIter it (strIterType z) z t0 i) where
  src := by
    intro X hP hw hK hc i pins s σ H I hit t _
    subst hP hw hK
    refine ⟨[], _, fun i h => h.IsStrIter it (strIterType z) z t0 i, Draws.text (A := X.A.in1) (I.ok.hd hc) it z t0, t, fun b hb => by simp at hb, fun j h q => q, fun j u q => ?_⟩
    obtain ⟨c, u0, h1, h2⟩ := q
    exact ⟨.str ⟨#[c]⟩, ⟨u0, h2⟩, c, h1, rfl⟩
  obj := fun i h t => by
    obtain ⟨o, ho, hc, hd⟩ := t
    exact ⟨o, ho, fun v q => by rw [hd] at q; cases q⟩
  keep := fun i h h' t k => by
    obtain ⟨o, ho, r⟩ := t
    exact ⟨o, k o ho, r⟩
variable {X : Cx} {T : TC} {W : WX} {e : Expr} {fa : F}
def iEnT (ta : TA) : TI := fun σ H R => ta σ H fun vs H1 => ∃ x, vs = [x] ∧ ((∃ a xs, x = .ref a ∧ H1 a = some (.tup xs) ∧ R (ItEn xs.length (fun i _ y => xs[i]? = some y) fun H => H a = some (.tup xs)) H1) ∨
  ∃ z, x = .str z ∧ R (ItEn z.cps.size (fun i _ y => ∃ c, z.cps[i]? = some c ∧ y = .str ⟨#[c]⟩) fun _ => True) H1)
theorem pi_enT {ta : TA} {p pos tpos : Pos} {elts : List Expr} {kk : Nat} (hg : Gl X "enumerate") (hm : X.mg "enumerate" = none) (ha : PA X [e] ta) (hs : starEach [e] X.env = [(false, eval e X.env)] := by rfl) :
    PI X (.Tuple elts kk tpos) (.Call (.Name "enumerate" p) [e] [] pos) (iEnT ta) := by
  refine ⟨fun pins s σ H R I h => ?_⟩
  refine PyProof.Rows.Call_ (ld_blt I hg hm PyProof.Rows.boot_enumerate (PyProof.Rows.callWith_type1 (thn (ha.run pos pins s σ H _ I h) fun us s1 ⟨vs, H1, I1, r1, q1⟩ => ?_) hs rfl))
  obtain ⟨x, ex, q⟩ := q1
  subst ex
  obtain ⟨u, rfl, rx⟩ := Vals.one r1
  have two : ∀ b, b ∈ [s1.heap.objs.size + 1, s1.heap.objs.size] → FpOk X pins H1 b := fun b hb => by
    have hle : s1.heap.objs.size ≤ b := by
      rcases (by simpa using hb : b = s1.heap.objs.size + 1 ∨ b = s1.heap.objs.size) with z | z
      · rw [z]; exact Nat.le_add_right _ _
      · rw [z]; exact Nat.le_refl _
    exact I1.fpOk hle (I1.hok.fresh hle)
  rcases q with ⟨a, xs, rfl, ha2, q⟩ | ⟨z, rfl, q⟩
  · obtain rfl : u = Value.ref a := rx
    obtain ⟨its, rv, tp, hz⟩ := I1.tuple (SqT.of (K := X.K) ha2)
    have alt : a < s1.heap.objs.size := by obtain ⟨o, q, _⟩ := tp; exact Heap.lt_size q
    refine enum_call1 (begins_tuple a its.toArray) tp fun h' he hit hk => wpAny_pyIter_enum he ?_
    have I2 : Inv X pins σ H1 { s1 with heap := h' } := I1.kept (t' := s1.toks) hk
    exact ⟨s1.heap.objs.size + 1, [s1.heap.objs.size + 1, s1.heap.objs.size], _, _, H1, rfl, I2, turn_en (Nat.succ_ne_self _) (en_tup (Nat.ne_of_gt alt)), ⟨⟨.none, he⟩, ⟨_, hit, rfl, rfl⟩⟩, two, q⟩
  · obtain ⟨t0, rfl⟩ : ∃ t, u = Value.str z t := rx
    refine enum_call1 (o := { cls := .type (strIterType z), data := .fields #[.str z t0, .int 0 0] }) (R := fun _ => True) ⟨fun prog w A E s Q _ hq => wpAny_pyIter_strU hq, fun _ _ _ _ => trivial, rfl⟩ trivial fun h' he hit hk => wpAny_pyIter_enum he ?_
    have I2 : Inv X pins σ H1 { s1 with heap := h' } := I1.kept (t' := s1.toks) hk
    exact ⟨s1.heap.objs.size + 1, [s1.heap.objs.size + 1, s1.heap.objs.size], _, _, H1, rfl, I2, turn_en (Nat.succ_ne_self _) en_text, ⟨⟨.none, he⟩, ⟨_, hit, rfl, rfl⟩⟩, two, q⟩
/-! ### by mirrors -/
def pairsUp (c : Int) : Nat → List D → List D
  | _, [] => []
  | i, d :: ds => .tup [.int (c + (i : Int)), d] :: pairsUp c (i + 1) ds
theorem pairsUp_at (c : Int) : ∀ (ds : List D) (j i : Nat), (pairsUp c j ds)[i]? = (ds[i]?).map fun d => D.tup [.int (c + ((j + i : Nat) : Int)), d]
  | [], j, i => by simp [pairsUp]
  | d :: ds, j, 0 => by simp [pairsUp]
  | d :: ds, j, i + 1 => by
    show (pairsUp c (j + 1) ds)[i]? = _
    rw [pairsUp_at c ds (j + 1) i]
    rw [show j + 1 + i = j + (i + 1) by omega]
    simp
theorem pairsUp_len (c : Int) : ∀ (ds : List D) (j : Nat), (pairsUp c j ds).length = ds.length
  | [], j => rfl
  | d :: ds, j => by
    show (pairsUp c (j + 1) ds).length + 1 = ds.length + 1
    rw [pairsUp_len c ds (j + 1)]
/-- a new pair -/
theorem pair_new {ms : Ms} {H : Hp} {G : GH} {q : Addr} {d1 d2 : D} {v1 v2 : V} (c : Cf T ms H G) (hq : H q = none) (r1 : Rep T ms H d1 v1) (r2 : Rep T ms H d2 v2) :
    Stp ms H ms (upd H q (.tup [v1, v2])) ∧ Rep T ms (upd H q (.tup [v1, v2])) (.tup [d1, d2]) (.ref q) ∧ Cf T ms (upd H q (.tup [v1, v2])) G := c.tupNew (ds := [d1, d2]) ⟨_, _, rfl, r1, _, _, rfl, r2, rfl⟩ hq
theorem gives_en {ms : Ms} {H : Hp} {n : Nat} {Y : Nat → Hp → V → Prop} {S : Hp → Prop} {ds : List D} (hn : ds.length = n) (hS : ∀ ms' H', Stp ms H ms' H' → S H')
    (hY : ∀ (i : Nat) (ms1 : Ms) (H1 : Hp) (y : V) (d : D), Stp ms H ms1 H1 → ds[i]? = some d → Y i H1 y → Rep T ms1 H1 d y) : Gives T (ItEn n Y S) (pairsUp 0 0 ds) ms H :=
  ⟨S, (ItEn n Y S).yld, by
    rw [pairsUp_len, hn]
    exact ⟨fun i H hi h => ⟨hi, h⟩, fun H h => ⟨rfl, h⟩, fun i H x H' _ _ y => y⟩, hS, fun i ms1 H1 G x H2 d s c hd ⟨q, y, e, hq, eH, hy⟩ => by
    subst e eH
    rw [pairsUp_at] at hd
    cases z : ds[i]? with
    | none => rw [z] at hd; cases hd
    | some dd =>
      rw [z] at hd
      cases hd
      have ry := hY i ms1 H1 y dd s z hy
      refine pair_new c hq ?_ ry
      show (.int (i : Nat)) = V.int (0 + ((0 + i : Nat) : Int))
      simp⟩
def fEnum (f : F) : FA := fun ρ G => (f ρ G).bnd fun d G1 => match d with
  | .tup ds => .ok (pairsUp 0 0 ds) G1
  | .lst ds => .ok (pairsUp 0 0 ds) G1
  | .str z => .ok (pairsUp 0 0 (signs z)) G1
  | _ => .st
theorem ji_enum {p pos tpos : Pos} {elts : List Expr} {kk : Nat} (hg : Gl X "enumerate") (hm : X.mg "enumerate" = none) (he : JE X T W e fa) (hs : starEach [e] X.env = [(false, eval e X.env)] := by rfl) :
    JI X T W (.Tuple elts kk tpos) (.Call (.Name "enumerate" p) [e] [] pos) (fEnum fa) :=
  PI.imp (PI.or (pi_enT hg hm (pa_cons he pa_nil hs) hs) (pi_enum hg hm (pa_cons he pa_nil hs) hs)) fun σ H Q ⟨ρ, ms, G, he, hc, h⟩ => by
    have key : ∀ (d : D) (G1 : GH), fa ρ G = .ok d G1 → OkG T (wat W σ) (fun ms H ds J => Gives T J ds ms H) (match d with
          | .tup ds => .ok (pairsUp 0 0 ds) G1
          | .lst ds => .ok (pairsUp 0 0 ds) G1
          | .str z => .ok (pairsUp 0 0 (signs z)) G1
          | _ => .st) ms H Q → iEnT (tCons (tOf T W fa) tNil) σ H Q ∨ iEnum X.K (tCons (tOf T W fa) tNil) σ H Q := fun d G1 e h => by
      cases d with
      | tup ds => exact .inl ⟨ρ, ms, G, he, hc, by rw [e]; exact fun v H1 ms1 s1 ⟨a, vs, e1, h1, r1⟩ c1 => ⟨v, rfl, .inl ⟨a, vs, e1, h1, h _ H1 ms1 s1 (gives_en r1.len.symm (fun ms' H' s => s.tups a _ h1) fun i ms2 H2 y d s hd hy => by
          obtain ⟨w, hw, rw_⟩ := (Reps.mono s _ _ r1).at hd
          rw [hy] at hw
          cases hw
          exact rw_) c1⟩⟩⟩
      | lst ds => exact .inr ⟨ρ, ms, G, he, hc, by rw [e]; exact fun v H1 ms1 s1 ⟨a, vs, e1, n1, h1, r1⟩ c1 => ⟨a, vs, by rw [e1], .of h1, h _ H1 ms1 s1 ⟨fun H => SqL X.K H a vs, YPair (fun i => some (.int (i : Nat))) (fun i => vs[i]?), by
          rw [pairsUp_len, ← r1.len]
          exact walk_enum, fun ms' H' s => .of (s.keep a _ h1 n1.1 (by intro _ z; cases z)), fun i ms2 H2 G2 x H3 d s c hd ⟨q, y1, y2, ev, hq, eH, hy1, hy2⟩ => by
          subst ev eH
          rw [pairsUp_at] at hd
          cases z : ds[i]? with
          | none => rw [z] at hd; cases hd
          | some dd =>
            rw [z] at hd
            cases hd
            cases hy1
            obtain ⟨w, hw, rw_⟩ := (Reps.mono s _ _ r1).at z
            have hy2' : vs[i]? = some y2 := hy2
            rw [hy2'] at hw
            cases hw
            refine pair_new c hq ?_ rw_
            show (.int (i : Nat)) = V.int (0 + ((0 + i : Nat) : Int))
            simp⟩ c1⟩⟩
      | str z => exact .inl ⟨ρ, ms, G, he, hc, by rw [e]; exact fun v H1 ms1 s1 e1 c1 => ⟨v, rfl, .inr ⟨z, e1, h _ H1 ms1 s1 (gives_en (by unfold signs; rw [List.length_map, Array.length_toList]) (fun _ _ _ => trivial) fun i ms2 H2 y d s hd ⟨c, hc, hy⟩ => by
          unfold signs at hd
          rw [List.getElem?_map, Array.getElem?_toList, hc] at hd
          cases hd
          exact hy) c1⟩⟩⟩
      | _ => exact h.elim
    unfold fEnum at h
    cases q : fa ρ G with
    | ok d G1 => rw [q] at h; exact key d G1 q h
    | ex e G1 => rw [q] at h; exact .inl ⟨ρ, ms, G, he, hc, by rw [q]; exact h⟩
    | st => rw [q] at h; exact h.elim
end DL

set_option Elab.async false
set_option linter.all false
set_option maxRecDepth 100000
set_option maxHeartbeats 2000000
set_option autoImplicit false
namespace DL
open PySem L2
variable {X : Cx} {T : TC} {W : WX} {a b c e o : Expr} {es : List Expr} {fa fb fc : F} {ga gb gc : FT} {pos p apos : Pos} {st : Stmt} {sts : List Stmt} {s t : FS} {k n : Nat} {x m : Str}

/-! ### what is never reached -/
def fSt : F := fun _ _ => .st
def gSt : FT := fun _ _ => .st
def sSt : FS := fun _ _ => .st
theorem j_st : JE X T W e fSt := ⟨fun _ _ _ _ _ _ ⟨_, _, _, _, _, h⟩ => h.elim⟩
theorem js_st : JS X T W st sSt := ⟨fun _ _ _ _ _ _ ⟨_, _, _, _, _, h⟩ => h.elim⟩
theorem jb_st : JB X T W sts sSt := ⟨fun _ _ _ _ _ _ ⟨_, _, _, _, _, h⟩ => h.elim⟩

/-! ### tests of values: PT by PE -/
theorem jt_val (h : JE X T W e fa) : True := trivial

/-! ### -i -/
def fNeg (f : F) : F := fun ρ G => (f ρ G).bnd fun d G1 => match d with
  | .int i => .ok (.int (-i)) G1
  | _ => .st
theorem j_neg (ha : JE X T W a fa) : JE X T W (.UnaryOp .USub a pos) (fNeg fa) :=
  PE.imp (pe_un un_neg ha) fun σ H Q ⟨ρ, ms, G, he, hc, h⟩ => ⟨ρ, ms, G, he, hc, (OkG.bnd h).imp fun x H1 ⟨d, G1, ms1, _, s1, r1, c1, h1⟩ => by
    cases d with
    | int i => exact ⟨i, r1, h1 _ H1 ms1 (Stp.refl _ _) rfl c1⟩
    | _ => exact h1.elim⟩

/-! ### a new dict -/
theorem Cf.dicNew {ms : Ms} {H : Hp} {G : GH} {q : Addr} {ks ds : List D} {kvs : List (Key × V)} (c : Cf T ms H G) (r1 : Reps T ms H ks (kvs.map fun z => kV z.1)) (r2 : Reps T ms H ds (kvs.map (·.2))) (h : H q = none) :
    Stp ms H ms (upd H q (.dK kvs)) ∧ Rep T ms (upd H q (.dK kvs)) (.dic ks ds) (.ref q) ∧ Cf T ms (upd H q (.dK kvs)) G :=
  ⟨Stp.new h, ⟨q, _, _, rfl, c.out h, ⟨kvs, upd_same, rfl, rfl⟩, Reps.mono (Stp.new h) _ _ r1, Reps.mono (Stp.new h) _ _ r2⟩, c.new h⟩
theorem Cf.dicNewR {ms : Ms} {H : Hp} {G : GH} {q : Addr} {ks ds : List D} {kvs : List (Key × V)} (c : Cf T ms H G) (r1 : Reps T ms H ks (kvs.map fun z => kV z.1)) (r2 : Reps T ms H ds (kvs.map (·.2))) (h : H q = none) :
    Stp ms H (ms.add q) (upd H q (.dK kvs)) ∧ Rep T (ms.add q) (upd H q (.dK kvs)) (.ref G.length) (.ref q) ∧ Cf T (ms.add q) (upd H q (.dK kvs)) (G ++ [.dic ks ds]) :=
  ⟨Stp.newR h, ⟨q, rfl, by rw [← c.len, List.getElem?_append_right (Nat.le_refl _)]; simp⟩, c.newR h ⟨_, _, ⟨kvs, upd_same, rfl, rfl⟩, Reps.mono (Stp.newR h) _ _ r1, Reps.mono (Stp.newR h) _ _ r2⟩⟩
def mkD (h : Bool) (ks ds : List D) (G : GH) : R D := match h with
  | true => .ok (.ref G.length) (G ++ [.dic ks ds])
  | false => .ok (.dic ks ds) G
theorem mkD_at {h : Bool} {ms : Ms} {H : Hp} {G : GH} {ks ds : List D} {q : Addr} {kvs : List (Key × V)} {W : Value → Option Addr → Hp → Prop} {Q : VK} (c : Cf T ms H G) (hq : H q = none) (r1 : Reps T ms H ks (kvs.map fun z => kV z.1)) (r2 : Reps T ms H ds (kvs.map (·.2)))
    (k : OkE T W (mkD h ks ds G) ms H Q) : Q (.ref q) (upd H q (.dK kvs)) := by
  cases h with
  | true =>
    obtain ⟨a1, a2, a3⟩ := c.dicNewR r1 r2 hq
    exact k _ _ _ a1 a2 a3
  | false =>
    obtain ⟨a1, a2, a3⟩ := c.dicNew r1 r2 hq
    exact k _ _ _ a1 a2 a3
/-- {} with keys that are ints, texts -/
def fDic0 (h : Bool) : F := fun _ G => mkD h [] [] G
theorem j_dic0 {h : Bool} : JE X T W (.Dict [] [] pos) (fDic0 h) := PE.imp pe_dnewK fun σ H Q ⟨ρ, ms, G, he, hc, q⟩ p hp => mkD_at (ks := []) (ds := []) (kvs := []) hc hp (show Reps T ms H [] [] from rfl) (show Reps T ms H [] [] from rfl) q
/-- {} with keys that are tuples, of the heap -/
def fDicN : F := fun _ G => .ok (.ref G.length) (G ++ [.tup [.tup [], .tup []]])
theorem pe_dnewN : PE X (.Dict [] [] pos) (fun _ H Q => ∀ p, H p = none → (p == sysModules) = false → Q (.ref p) (upd H p (NDO p #[]))) := ⟨fun pins s σ H Q I h => by
  have hb : (s.heap.objs.size == sysModules) = false := by
    have := I.big
    exact beq_eq_false_iff_ne.mpr (Nat.ne_of_gt this)
  have hg : (s.heap.push { cls := .type "dict", data := .dict #[] }).get? s.heap.objs.size = some { cls := .type "dict", data := .dict #[] } := Heap.get?_push_size _ rfl
  obtain ⟨_, _, vs, _, dd⟩ := dk_empty (P := X.prog) (w := X.w) (H := H) s.heap I.big
  obtain ⟨ob, _, _, g1, g2, _⟩ := dd
  have eo : ob = { cls := .type "dict", data := .dict #[] } := Option.some.inj (g1.symm.trans hg)
  exact wpAny_Dict_empty ⟨.ref s.heap.objs.size, _, I.laid (t' := s.toks) (o := NDO s.heap.objs.size #[]) (fun b u e => Heap.get?_push_of_some _ e) (Nat.le_refl _)
    ⟨⟨hb, ob, _, g1, g2, by rw [eo]⟩, ⟨ob, g1⟩, fun h1 h2 ⟨_, o1, ep, f1, f2, f3⟩ k => ⟨hb, o1, ep, k _ f1, f2, f3⟩⟩, rfl, h _ (I.hok.fresh (Nat.le_refl _)) hb⟩⟩
theorem j_dicN : JE X T W (.Dict [] [] pos) fDicN := PE.imp pe_dnewN fun σ H Q ⟨ρ, ms, G, he, hc, q⟩ p hp hps => by
  have st : Stp ms H (ms.add p) (upd H p (NDO p #[])) := Stp.newR hp
  refine q _ _ _ st ⟨p, rfl, by rw [← hc.len, List.getElem?_append_right (Nat.le_refl _)]; simp⟩ (hc.newR hp ⟨[], [], ⟨[], #[], upd_same, rfl, rfl, .nil, rfl, List.nodup_nil, fun x h => by simp at h, Nat.zero_le _, hps⟩, rfl, rfl⟩)

/-! ### d.get(k, x), d.get(k) -/
def isDic : D → Bool
  | .dic _ _ => true
  | _ => false
def fGet2 (fo fk fx : F) : F := fun ρ G => (fo ρ G).bnd fun o G1 => if isDic (vw G1 o) then (fk ρ G1).bnd fun q G2 => (fx ρ G2).bnd fun z G3 => match vw G3 o with
  | .dic ks vs => (match keyO q with
    | some _ => .ok ((dicGet ks vs q).getD z) G3
    | none => .st)
  | _ => .st else .st
theorem isD_of {ms : Ms} {H : Hp} {G : GH} {o : D} {x : V} (c : Cf T ms H G) (r : Rep T ms H o x) (h : isDic (vw G o) = true) : ∃ a, x = .ref a ∧ IsD H a := by
  cases e : vw G o with
  | dic ks vs =>
    obtain ⟨a, kv, ws, rfl, ⟨kvs, h0, _⟩, _⟩ := vw_dic c r e
    exact ⟨a, rfl, .inl ⟨kvs, .inl h0⟩⟩
  | _ => rw [e] at h; cases h
theorem j_get2 {k : Nat} {i j : Expr} {cpos : Pos} (B : Bd X T W k) (ho : JE X T W o fa) (hi : JE X T W i fb) (hj : JE X T W j fc) (m : M2 X o "get" apos i j cpos := by exact ⟨rfl, rfl, rfl, rfl⟩) : JE X T W (.Call (.Attribute o "get" apos) [i, j] [] cpos) (fGet2 fa fb fc) :=
  PE.imp (pe_dget2 (by have := B.u64; omega) ho hi hj m) fun σ H Q ⟨ρ, ms, G, he, hc, h⟩ => ⟨ρ, ms, G, he, hc, (OkG.bnd h).imp fun x H1 ⟨d, G1, ms1, _, s1, r1, c1, h1⟩ => by
    obtain ⟨q1, h1⟩ := ifst h1
    obtain ⟨a, rfl, hd⟩ := isD_of c1 r1 q1
    refine ⟨a, rfl, hd, ρ, ms1, G1, he.mono s1, c1, (OkG.bnd h1).imp fun y H2 ⟨dy, G2, ms2, _, s2, r2, c2, h2⟩ => ⟨ρ, ms2, G2, (he.mono s1).mono s2, c2, (OkG.bnd h2).imp fun z H3 ⟨dz, G3, ms3, _, s3, r3, c3, h3⟩ => ?_⟩⟩
    have ro := Rep.mono (s2.trans s3) _ _ r1
    split at h3
    · rename_i ks vs e
      split at h3
      · rename_i key hk
        obtain ⟨a2, kv, wv, ea, ⟨kvs, h0, rfl, rfl⟩, k1, k2⟩ := vw_dic c3 ro e
        cases ea
        have g := dicGet_val hk k1 k2
        refine ⟨valV kvs key, .inl ⟨kvs, key, .inl h0, keyO_rep (Rep.mono s3 _ _ r2) hk, rfl⟩, ?_⟩
        cases q : dicGet ks vs dy with
        | some d2 =>
          rw [q] at g h3
          obtain ⟨v, g1, g2⟩ := g
          rw [g1]
          exact h3 v H3 ms3 (Stp.refl _ _) g2 c3
        | none =>
          rw [q] at g h3
          have g' : valV kvs key = none := g
          rw [g']
          exact h3 z H3 ms3 (Stp.refl _ _) r3 c3
      · exact h3.elim
    · exact h3.elim⟩
def fGet1 (fo fk : F) : F := fun ρ G => (fo ρ G).bnd fun o G1 => if isDic (vw G1 o) then (fk ρ G1).bnd fun q G2 => match vw G2 o with
  | .dic ks vs => (match keyO q with
    | some _ => .ok ((dicGet ks vs q).getD .non) G2
    | none => .st)
  | _ => .st else .st
theorem j_get1 {k : Nat} {i : Expr} {cpos : Pos} (B : Bd X T W k) (ho : JE X T W o fa) (hi : JE X T W i fb) (m : M1 X o "get" apos i cpos := by exact ⟨rfl, rfl, rfl, rfl⟩) : JE X T W (.Call (.Attribute o "get" apos) [i] [] cpos) (fGet1 fa fb) :=
  PE.imp (pe_dget1 (by have := B.u64; omega) ho hi m) fun σ H Q ⟨ρ, ms, G, he, hc, h⟩ => ⟨ρ, ms, G, he, hc, (OkG.bnd h).imp fun x H1 ⟨d, G1, ms1, _, s1, r1, c1, h1⟩ => by
    obtain ⟨q1, h1⟩ := ifst h1
    obtain ⟨a, rfl, hd⟩ := isD_of c1 r1 q1
    refine ⟨a, rfl, hd, ρ, ms1, G1, he.mono s1, c1, (OkG.bnd h1).imp fun y H2 ⟨dy, G2, ms2, _, s2, r2, c2, h2⟩ => ?_⟩
    have ro := Rep.mono s2 _ _ r1
    split at h2
    · rename_i ks vs e
      split at h2
      · rename_i key hk
        obtain ⟨a2, kv, wv, ea, ⟨kvs, h0, rfl, rfl⟩, k1, k2⟩ := vw_dic c2 ro e
        cases ea
        have g := dicGet_val hk k1 k2
        refine ⟨valV kvs key, .inl ⟨kvs, key, .inl h0, keyO_rep r2 hk, rfl⟩, ?_⟩
        cases q : dicGet ks vs dy with
        | some d2 =>
          rw [q] at g h2
          obtain ⟨v, g1, g2⟩ := g
          rw [g1]
          exact h2 v H2 ms2 (Stp.refl _ _) g2 c2
        | none =>
          rw [q] at g h2
          have g' : valV kvs key = none := g
          rw [g']
          exact h2 .non H2 ms2 (Stp.refl _ _) rfl c2
      · exact h2.elim
    · exact h2.elim⟩

/-! ### list(range(..)), tuple(range(..)) -/
def rgOk (a b : Int) : Bool := inR a && inR b && decide ((b - a).toNat ≤ 2 ^ 24)
theorem rgOk_of {a b : Int} (h : rgOk a b = true) : RgOk a b := by
  unfold rgOk at h
  rw [Bool.and_eq_true, Bool.and_eq_true] at h
  have h1 := inR_of h.1.1
  have h2 := inR_of h.1.2
  exact ⟨h1.1, h1.2, h2.1, h2.2, of_decide_eq_true h.2⟩
theorem upTo_rep {ms : Ms} {H : Hp} (a b : Int) : Reps T ms H (upTo a (b - a).toNat) (rgV a b) := by
  unfold upTo rgV
  induction (List.range (b - a).toNat) with
  | nil => rfl
  | cons i l ih => exact ⟨_, _, rfl, rfl, ih⟩
abbrev FR2 := Env → GH → R (Int × Int)
def rg1 (f : F) : FR2 := fun ρ G => (f ρ G).bnd fun d G1 => match d with
  | .int j => .ok (0, j) G1
  | _ => .st
def rg2 (f g : F) : FR2 := fun ρ G => (f ρ G).bnd fun d G1 => (g ρ G1).bnd fun e G2 => match d, e with
  | .int i, .int j => .ok (i, j) G2
  | _, _ => .st
def trOf (T : TC) (W : WX) (f : FR2) : St → Hp → (Int → Int → Hp → Prop) → Prop := fun σ H Q => ∃ ρ ms G, REnv T ms H σ ρ ∧ Cf T ms H G ∧ OkG T (wat W σ) (fun _ _ (a b : Int × Int) => a = b) (f ρ G) ms H fun q H' => Q q.1 q.2 H'
abbrev JR (X : Cx) (T : TC) (W : WX) (e : Expr) (f : FR2) : Prop := PRg X e (trOf T W f)
theorem PRg.imp' {t t' : St → Hp → (Int → Int → Hp → Prop) → Prop} (h : PRg X e t) (k : ∀ σ H Q, t' σ H Q → t σ H Q) : PRg X e t' := fun pins s σ H Q I q => h pins s σ H Q I (k σ H Q q)
theorem jr_1 (hg : Gl X "range") (hm : X.mg "range" = none) (ha : JE X T W a fa) (na : starEach [a] X.env = (false, eval a X.env) :: starEach [] X.env := by rfl) : JR X T W (.Call (.Name "range" p) [a] [] pos) (rg1 fa) :=
  PRg.imp' (prg_1 hg hm ha na) fun σ H Q ⟨ρ, ms, G, he, hc, h⟩ => ⟨ρ, ms, G, he, hc, (OkG.bnd h).imp fun x H1 ⟨d, G1, ms1, _, s1, r1, c1, h1⟩ => by
    cases d with
    | int j => exact ⟨j, r1, h1 (0, j) H1 ms1 (Stp.refl _ _) rfl c1⟩
    | _ => exact h1.elim⟩
theorem jr_2 (hg : Gl X "range") (hm : X.mg "range" = none) (ha : JE X T W a fa) (hb : JE X T W b fb) (na : starEach [a, b] X.env = (false, eval a X.env) :: starEach [b] X.env := by rfl)
    (nb : starEach [b] X.env = (false, eval b X.env) :: starEach [] X.env := by rfl) (hp : (backTo pos (starEach [b] X.env)).any (·.1) = false := by rfl) : JR X T W (.Call (.Name "range" p) [a, b] [] pos) (rg2 fa fb) :=
  PRg.imp' (prg_2 hg hm ha hb na nb hp) fun σ H Q ⟨ρ, ms, G, he, hc, h⟩ => ⟨ρ, ms, G, he, hc, (OkG.bnd h).imp fun x H1 ⟨d, G1, ms1, _, s1, r1, c1, h1⟩ =>
    ⟨ρ, ms1, G1, he.mono s1, c1, (OkG.bnd h1).imp fun y H2 ⟨d2, G2, ms2, _, s2, r2, c2, h2⟩ => by
      cases d with
      | int i =>
        cases d2 with
        | int j => exact ⟨i, j, r1, r2, h2 (i, j) H2 ms2 (Stp.refl _ _) rfl c2⟩
        | _ => exact h2.elim
      | _ => exact h2.elim⟩⟩
def fLstRg (h : Bool) (f : FR2) : F := fun ρ G => (f ρ G).bnd fun q G1 => if rgOk q.1 q.2 then mkL h (upTo q.1 (q.2 - q.1).toNat) G1 else .st
def fTupRg (f : FR2) : F := fun ρ G => (f ρ G).bnd fun q G1 => if rgOk q.1 q.2 then .ok (.tup (upTo q.1 (q.2 - q.1).toNat)) G1 else .st
theorem j_lstRg {k : Nat} {h : Bool} {f : FR2} (B : Bd X T W k) (hg : Gl X "list") (hm : X.mg "list" = none) (he : JR X T W e f) (na : starEach [e] X.env = (false, eval e X.env) :: starEach [] X.env := by rfl) : JE X T W (.Call (.Name "list" p) [e] [] pos) (fLstRg h f) :=
  PE.imp (pe_listRg B.cm hg hm he na) fun σ H Q ⟨ρ, ms, G, he, hc, h⟩ => ⟨ρ, ms, G, he, hc, (OkG.bnd h).imp fun x H1 ⟨d, G1, ms1, _, s1, r1, c1, h1⟩ => by
    cases r1
    obtain ⟨q, h1⟩ := ifst h1
    exact ⟨rgOk_of q, fun q hq => mkL_at c1 hq (upTo_rep _ _) h1⟩⟩
theorem j_tupRg {k : Nat} {f : FR2} (B : Bd X T W k) (hg : Gl X "tuple") (hm : X.mg "tuple" = none) (he : JR X T W e f) (na : starEach [e] X.env = (false, eval e X.env) :: starEach [] X.env := by rfl) : JE X T W (.Call (.Name "tuple" p) [e] [] pos) (fTupRg f) :=
  PE.imp (pe_tupRg B.cm hg hm he na) fun σ H Q ⟨ρ, ms, G, he, hc, h⟩ => ⟨ρ, ms, G, he, hc, (OkG.bnd h).imp fun x H1 ⟨d, G1, ms1, _, s1, r1, c1, h1⟩ => by
    cases r1
    obtain ⟨q, h1⟩ := ifst h1
    exact ⟨rgOk_of q, fun q hq => rep_tup_at c1 hq (upTo_rep _ _) h1⟩⟩

/-! ### for x, y in zip(u, v): two lists or two tuples -/
def zipD : List D → List D → List D
  | x :: xs, y :: ys => .tup [x, y] :: zipD xs ys
  | _, _ => []
theorem zipD_at : ∀ (xs ys : List D) (i : Nat), (zipD xs ys)[i]? = match xs[i]?, ys[i]? with
    | some x, some y => some (.tup [x, y])
    | _, _ => none
  | [], ys, i => by simp [zipD]
  | x :: xs, [], i => by cases i <;> simp [zipD] <;> split <;> simp_all
  | x :: xs, y :: ys, 0 => by simp [zipD]
  | x :: xs, y :: ys, i + 1 => by
    show (zipD xs ys)[i]? = _
    rw [zipD_at xs ys i]
    rfl
theorem zipD_len : ∀ (xs ys : List D), (zipD xs ys).length = min xs.length ys.length
  | [], ys => by simp [zipD]
  | x :: xs, [] => by simp [zipD]
  | x :: xs, y :: ys => by
    show (zipD xs ys).length + 1 = _
    rw [zipD_len xs ys]
    simp
def gZip (ds : List D) (G : GH) : R (List D) := match ds with
  | [.lst xs, .lst ys] => .ok (zipD xs ys) G
  | [.tup xs, .tup ys] => .ok (zipD xs ys) G
  | _ => .st
def fZip (fs : FA) : FA := fun ρ G => (fs ρ G).bnd gZip
theorem gives_zip {ms : Ms} {H : Hp} {J : It} {xs ys : List D} {vs ws : List V} {S : Hp → Prop} (rx : Reps T ms H xs vs) (ry : Reps T ms H ys ws) (hS : ∀ ms' H', Stp ms H ms' H' → S H')
    (w : Walk J (min vs.length ws.length) S (YPair (fun i => vs[i]?) (fun i => ws[i]?))) : Gives T J (zipD xs ys) ms H :=
  ⟨S, YPair (fun i => vs[i]?) (fun i => ws[i]?), by rw [zipD_len, ← rx.len, ← ry.len]; exact w, hS, fun i ms1 H1 G x H2 d s c hd ⟨q, y1, y2, ev, hq, eH, hy1, hy2⟩ => by
    subst ev eH
    rw [zipD_at] at hd
    cases z1 : xs[i]? with
    | none => rw [z1] at hd; cases hd
    | some d1 =>
      cases z2 : ys[i]? with
      | none => rw [z1, z2] at hd; cases hd
      | some d2 =>
        rw [z1, z2] at hd
        cases hd
        obtain ⟨u1, a1, b1⟩ := (Reps.mono s _ _ rx).at z1
        obtain ⟨u2, a2, b2⟩ := (Reps.mono s _ _ ry).at z2
        have hy1' : vs[i]? = some y1 := hy1
        have hy2' : ws[i]? = some y2 := hy2
        rw [hy1'] at a1
        rw [hy2'] at a2
        cases a1
        cases a2
        exact pair_new c hq b1 b2⟩
theorem walk_zipT {K : PySem.W.Frag} {a b : Addr} {xs ys : List V} : Walk (RZ.ItzT K a b) (min xs.length ys.length) (fun H => SqT K H a xs ∧ SqT K H b ys) (YPair (fun i => xs[i]?) (fun i => ys[i]?)) := by
  refine ⟨fun i _ hi q => ?_, fun _ q => ⟨xs, ys, q.1, q.2, by omega⟩, fun i H v H' _ q y => ?_⟩
  · have h1 : i < xs.length := by omega
    have h2 : i < ys.length := by omega
    exact ⟨xs, ys, xs[i], ys[i], q.1, q.2, by simp [h1], by simp [h2]⟩
  · obtain ⟨Tp, x, z, h1, h2, h3, h4, h5⟩ := y
    exact ⟨Tp, x, z, h1, h2, h3, h4 xs q.1, h5 ys q.2⟩
theorem ji_zip {tpos : Pos} {elts : List Expr} {kk : Nat} {fs : FA} (hg : Gl X "zip") (hm : X.mg "zip" = none) (ha : JA X T W [a, b] fs)
    (hs : starEach [a, b] X.env = (false, eval a X.env) :: starEach [b] X.env := by rfl) (hpl : (backTo pos (starEach [b] X.env)).any (·.1) = false := by rfl) :
    JI X T W (.Tuple elts kk tpos) (.Call (.Name "zip" p) [a, b] [] pos) (fZip fs) :=
  PI.imp (RZ.pi_zipA hg hm ha hs hpl) fun σ H Q ⟨ρ, ms, G, he, hc, h⟩ => ⟨ρ, ms, G, he, hc, (OkG.bnd h).imp fun vs H1 ⟨ds, G1, ms1, _, s1, r1, c1, h1⟩ => by
    unfold gZip at h1
    split at h1
    · rename_i xs ys
      obtain ⟨v, u, rfl, ⟨q1, us, rfl, o1, e1, k1⟩, ⟨q2, ws, rfl, o2, e2, k2⟩⟩ := r1.two
      exact ⟨q1, q2, us, ws, rfl, .inl ⟨.of e1, .of e2, h1 _ H1 ms1 (Stp.refl _ _) (gives_zip k1 k2 (S := fun H => SqL X.K H q1 us ∧ SqL X.K H q2 ws) (fun ms' H' s => ⟨.of (s.keep q1 _ e1 o1.1 (by intro _ z; cases z)), .of (s.keep q2 _ e2 o2.1 (by intro _ z; cases z))⟩) (walk_zip rfl)) c1⟩⟩
    · rename_i xs ys
      obtain ⟨v, u, rfl, ⟨q1, us, rfl, e1, k1⟩, ⟨q2, ws, rfl, e2, k2⟩⟩ := r1.two
      exact ⟨q1, q2, us, ws, rfl, .inr ⟨.of e1, .of e2, h1 _ H1 ms1 (Stp.refl _ _) (gives_zip k1 k2 (S := fun H => SqT X.K H q1 us ∧ SqT X.K H q2 ws) (fun ms' H' s => ⟨.of (s.tups q1 _ e1), .of (s.tups q2 _ e2)⟩) walk_zipT) c1⟩⟩
    · exact h1.elim⟩

/-! ### None in (a, b, ..) -/
def rNoneT (K : PySem.W.Frag) (neg : Bool) : R2 := fun x y H Q => ∃ q ds, x = .non ∧ y = .ref q ∧ Dp K H y (.tuple ds) ∧ SeqAt.shaped (.tuple ds) = true ∧ Q (.bl (neg.xor (ds.any fun z => PyData.eqv z .none))) H
theorem op_noneT (hu : X.A.units + 65 < cLine) : OpR X (compareOp .In) (rNoneT X.K false) := by
  intro pins s σ H x y v u Q I rx ry h
  obtain ⟨q, ds, rfl, rfl, hd, sd, hQ⟩ := h
  obtain ⟨bs, r2⟩ := Dp.reads I (.tuple ds) _ u hd ry
  obtain ⟨as, r1⟩ := Dp.reads I .none .non v .non rx
  exact SeqAt.in_tuple_reads r2 r1 (SeqAt.canLay_of_shaped sd) (SeqAt.canLay_of_shaped (d := .none) rfl) (PyProof.Rows.room_in_shaped (d := .none) rfl hu) ⟨.bl _, H, I, rfl, by simpa using hQ⟩
def oNoneT (x y : D) (G : GH) : R D := match x, y with
  | .non, .tup ds => if arePy ds && SeqAt.shaped (.tuple (pys ds)) then .ok (.bl ((pys ds).any fun z => PyData.eqv z .none)) G else .st
  | _, _ => .st
theorem od_noneT : OpD T (rNoneT T.K false) oNoneT := fun W ms H G x y dx dy Q rx ry c h => by
  unfold oNoneT at h
  split at h
  · rename_i ds
    obtain ⟨q, h⟩ := ifst h
    rw [Bool.and_eq_true] at q
    obtain ⟨a, vs, rfl, ha, rs⟩ := ry
    exact ⟨a, pys ds, rx, rfl, .tup (.of ha) (dps_of ds vs q.1 rs), q.2, by simpa using h _ H ms (Stp.refl _ _) rfl c⟩
  · exact h.elim

/-! ### len of an instance with an own __len__ -/
def fLenO (c : Nat) (m : FM) (f : F) : F := fun ρ G => (f ρ G).bnd fun o G1 => if isIns c (vw G1 o) then (m [o] G1).bnd fun d G2 => match d with
  | .int i => if 0 ≤ i ∧ i < 2 ^ 63 then .ok (.int i) G2 else .st
  | _ => .st else .st
theorem j_lenO {Y : Tx} {c : Nat} {qual : Str} {ps : List Str} {mm : FM} {fo : F} (B : Bd X T W (k + 1)) (i : In X T Y) (D : Km Y T k c "__len__" qual st ps mm) (hC : Cls T.K (T.cls c)) (hps : ps.length = 1) (hg : Gl X "len") (hm : X.mg "len" = none)
    (hb : ∀ f fd, Fun T.K "__len__" qual st f fd → KB T.K fd ps 1 0 [] []) (ho : JE X T W o fo) (hs : starEach [o] X.env = (false, eval o X.env) :: starEach [] X.env := by rfl) : JE X T W (.Call (.Name "len" p) [o] [] pos) (fLenO c (pureW mm) fo) := by
  obtain ⟨f, fd, hmt, F, G⟩ := D
  obtain ⟨e1, e2, e3, e4, e5⟩ := i
  rw [← e1, ← e2, ← e3, ← e4, ← e5] at G
  refine ⟨fun pins s σ H Q I h => ?_⟩
  obtain ⟨ρ, ms, G0, he, hc, h⟩ := h
  refine PyProof.Rows.Call_ (ld_blt I hg hm boot_len ?_)
  refine PyProof.Rows.callWith_builtin1 (PyProof.Rows.args_cons (thn (ho.run pins s σ H _ I ⟨ρ, ms, G0, he, hc, OkG.bnd h⟩) fun u s1 ⟨y, H1, I1, ry, dy, G1, ms1, _, st1, r1, c1, h1⟩ => PyProof.Rows.args_nil ?_) hs) hs rfl
  obtain ⟨q1, h1⟩ := ifst h1
  obtain ⟨ds0, e0⟩ := isIns_of q1
  obtain ⟨a, dx, fs0, rfl, ea, hl0, rr0⟩ := vw_ins c1 r1 e0
  obtain rfl : u = Value.ref a := ry
  obtain ⟨mA, O, _⟩ := ins_get I1.hok ea
  obtain ⟨od, J, _⟩ := O.look
  have KI : T.K.In X.base := by rw [← e5]; exact I1.ok.mod.kin
  obtain ⟨mfr, frr⟩ := I1.fr
  refine PySem.W.len_K (K := T.K) frr KI J hmt.at_ hmt.fn ?_
  have B2 : Bd X T W k := B.mono (Nat.le_succ k)
  have bnd := hb f fd F s1 [.ref a] [] [] (by rw [← e5]; exact I1.kIn) rfl rfl rfl
  have cal := G.run X.A.in1 X.stack s1 H1 ⟨[.ref a], []⟩ [.ref a] [.ref a] (fun v H2 => ∃ i, v = .int i ∧ 0 ≤ i ∧ i < 2 ^ 63 ∧ Q (.int i) H2) (wat W σ) B.gd (Room.in1 B.rm) I1.env0.in1 bnd (.cons (show RelV (V.ref a) (Value.ref a) from rfl) .nil)
    (spD_pure _ _ _ _ ⟨by rw [hps]; rfl, [dy], ms1, G1, ⟨_, _, rfl, r1, rfl⟩, c1, (OkG.bnd h1).imp fun v H2 ⟨d, G2, ms2, _, st2, r2, c2, h2⟩ => by
      cases d with
      | int i =>
        obtain ⟨hi, h2⟩ := iflt h2
        exact ⟨i, r2, hi.1, hi.2, h2 _ H2 ms2 (Stp.refl _ _) rfl c2⟩
      | _ => exact h2.elim⟩)
  refine wpAny_call (codeAny_mono cal fun r s' hq => ?_)
  match r, hq with
  | .error e, hq => exact passAt B.tk σ pins H1 s1 e s' I1 hq
  | .ok (.ret u), hq =>
    obtain ⟨v, H2, I3, rv, i, ev, h0, h1, q3⟩ := I1.after hq
    subst ev
    obtain ⟨t, rfl⟩ := (show ∃ t, u = Value.int i t from rv)
    exact ⟨⟨h0, h1⟩, .int i, H2, I3.tok _, ⟨_, rfl⟩, q3⟩
  | .ok .next, hq => exact False.elim hq
  | .ok .brk, hq => exact False.elim hq
  | .ok .cont, hq => exact False.elim hq
end DL

set_option Elab.async false
set_option linter.all false
set_option maxRecDepth 100000
set_option maxHeartbeats 2000000
set_option autoImplicit false
namespace DL
open PySem L2
variable {X : Cx} {T : TC} {W : WX} {a b c e o : Expr} {es : List Expr} {fa fb fc : F} {ga gb gc : FT} {pos p apos cpos : Pos} {st : Stmt} {sts : List Stmt} {s t : FS} {k n : Nat} {x m : Str}

/-! ### repr(x) of data -/
theorem cr_reprD (hg : X.A.guards = some []) (hu : X.A.units + 64 < cLine) : CallR X (.builtin "repr") (fun xs H Q => ∃ a d, xs = [.ref a] ∧ Dp X.K H (.ref a) d ∧ d.showable = true ∧ d.hasDict = false ∧ d.depth ≤ 60 ∧ d.shown.length ≤ sizeLine ∧ Q (.str d.shown) H) := by
  intro pins s σ H xs us Q I r h
  obtain ⟨a, d, rfl, hd, h1, h2, h3, h4, q⟩ := h
  obtain rfl := Vals.ref1 r
  obtain ⟨as, rd⟩ := Dp.reads I d (.ref a) (.ref a) hd rfl
  exact repr_of_reads' rd h1 (PyData.noDict_hsm h2) hg (by omega) (fun _ _ z => z) (fun h' u tk hk => ⟨.str d.shown, H, I.kept (t' := tk) hk, ⟨u, rfl⟩, q⟩) h4
def gRepr : GB := one1 fun d G => match d with
  | .int i => if i.natAbs.log2 < 1920 then .ok (.str (toString i)) G else .st
  | .tup ds => if isPy (.tup ds) && (py (.tup ds)).showable && !(py (.tup ds)).hasDict && decide ((py (.tup ds)).depth ≤ 60) && decide ((py (.tup ds)).shown.length ≤ sizeLine) then .ok (.str (py (.tup ds)).shown) G else .st
  | d => match vw G d with
    | .lst ds => if isPy (.lst ds) && (py (.lst ds)).showable && !(py (.lst ds)).hasDict && decide ((py (.lst ds)).depth ≤ 60) && decide ((py (.lst ds)).shown.length ≤ sizeLine) then .ok (.str (py (.lst ds)).shown) G else .st
    | _ => .st
theorem bd_repr : BiD T (fun xs H Q => (∃ i, xs = [.int i] ∧ i.natAbs.log2 < 1920 ∧ Q (.str (toString i)) H) ∨ ∃ a d, xs = [.ref a] ∧ Dp T.K H (.ref a) d ∧ d.showable = true ∧ d.hasDict = false ∧ d.depth ≤ 60 ∧ d.shown.length ≤ sizeLine ∧ Q (.str d.shown) H) gRepr := fun W ms H G vs ds Q r c h => by
  obtain ⟨d, v, rfl, rv, h⟩ := one1_of r h
  split at h
  · rename_i i
    obtain ⟨hi, h⟩ := iflt h
    cases rv
    exact .inl ⟨i, rfl, hi, h _ H ms (Stp.refl _ _) rfl c⟩
  · rename_i xs
    obtain ⟨q, h⟩ := ifst h
    simp only [Bool.and_eq_true, Bool.not_eq_true', decide_eq_true_eq] at q
    obtain ⟨a, ws, rfl, ha, rs⟩ := id rv
    exact .inr ⟨a, _, rfl, dp_of (.tup xs) _ q.1.1.1.1 rv, q.1.1.1.2, q.1.1.2, q.1.2, q.2, h _ H ms (Stp.refl _ _) rfl c⟩
  · split at h
    · rename_i xs e
      obtain ⟨q, h⟩ := ifst h
      simp only [Bool.and_eq_true, Bool.not_eq_true', decide_eq_true_eq] at q
      obtain ⟨a, ws, rfl, ha, rs⟩ := vw_lst c rv e
      exact .inr ⟨a, _, rfl, .lst (.of ha) (dps_of xs ws q.1.1.1.1 rs), q.1.1.1.2, q.1.1.2, q.1.2, q.2, h _ H ms (Stp.refl _ _) rfl c⟩
    · exact h.elim
theorem cr_repr (hg : X.A.guards = some []) (hu : X.A.units + 64 < cLine) : CallR X (.builtin "repr") (fun xs H Q => (∃ i, xs = [.int i] ∧ i.natAbs.log2 < 1920 ∧ Q (.str (toString i)) H) ∨ ∃ a d, xs = [.ref a] ∧ Dp X.K H (.ref a) d ∧ d.showable = true ∧ d.hasDict = false ∧ d.depth ≤ 60 ∧ d.shown.length ≤ sizeLine ∧ Q (.str d.shown) H) :=
  SkE.call_repr_int.or (cr_reprD hg hu)

/-! ### sorted(d.items()) of ints by ints -/
abbrev IP := Int × Int
def leP (p q : IP) : Bool := decide (p.1 < q.1) || (decide (p.1 = q.1) && decide (p.2 ≤ q.2))
def insP (p : IP) : List IP → List IP
  | [] => [p]
  | q :: qs => if leP p q then p :: q :: qs else q :: insP p qs
def srtP : List IP → List IP
  | [] => []
  | p :: ps => insP p (srtP ps)
theorem leP_iff {p q : IP} : leP p q = true ↔ p.1 < q.1 ∨ (p.1 = q.1 ∧ p.2 ≤ q.2) := by
  unfold leP
  rw [Bool.or_eq_true, Bool.and_eq_true, decide_eq_true_eq, decide_eq_true_eq, decide_eq_true_eq]
theorem insP_perm (p : IP) : ∀ qs : List IP, (insP p qs).Perm (p :: qs)
  | [] => .refl _
  | q :: qs => by
    unfold insP
    split
    · exact .refl _
    · exact (List.Perm.cons q (insP_perm p qs)).trans (.swap p q qs)
theorem srtP_perm : ∀ ps : List IP, (srtP ps).Perm ps
  | [] => .refl _
  | p :: ps => (insP_perm p (srtP ps)).trans (.cons p (srtP_perm ps))
theorem insP_sorted (p : IP) : ∀ qs : List IP, qs.Pairwise (fun x y => leP x y = true) → (insP p qs).Pairwise (fun x y => leP x y = true)
  | [], _ => by simp [insP]
  | q :: qs, h => by
    have h' := List.pairwise_cons.mp h
    unfold insP
    by_cases e : leP p q = true
    · rw [if_pos e]
      refine List.pairwise_cons.mpr ⟨fun y hy => ?_, h⟩
      rcases List.mem_cons.mp hy with rfl | hy
      · exact e
      · have z := h'.1 y hy
        rw [leP_iff] at e z ⊢
        omega
    · rw [if_neg e]
      refine List.pairwise_cons.mpr ⟨fun y hy => ?_, insP_sorted p qs h'.2⟩
      rcases List.mem_cons.mp ((insP_perm p qs).mem_iff.mp hy) with rfl | hy
      · rw [leP_iff] at e ⊢
        omega
      · exact h'.1 y hy
theorem srtP_sorted : ∀ ps : List IP, (srtP ps).Pairwise (fun x y => leP x y = true)
  | [] => List.Pairwise.nil
  | p :: ps => insP_sorted p _ (srtP_sorted ps)
theorem sortedP_uniq {l m : List IP} (h : l.Perm m) (hl : l.Pairwise (fun x y => leP x y = true)) (hm : m.Pairwise (fun x y => leP x y = true)) : l = m :=
  h.eq_of_pairwise (fun p q _ _ h1 h2 => by
    rw [leP_iff] at h1 h2
    obtain ⟨p1, p2⟩ := p
    obtain ⟨q1, q2⟩ := q
    simp only at h1 h2
    have : p1 = q1 := by omega
    have : p2 = q2 := by omega
    subst_vars
    rfl) hl hm
/-- what sorted(d.items()) asks and gives: ps the pairs as they lie -/
def rSrtItems : V → Hp → VK → Prop := fun x H Q => ∃ (d : Addr) (kvs : List (Key × V)) (ps : List IP), x = .ref d ∧ H d = some (.dK kvs) ∧ kvs = ps.map (fun z => (Sum.inl z.1, V.int z.2)) ∧
  ∀ (H' : Hp) (l : Addr) (ts : List Addr), (∀ b o, H b = some o → H' b = some o) → H l = none → (∀ t ∈ ts, H t = none) → H' l = some (.lst (ts.map V.ref)) →
    Paired (fun (t : Addr) (z : IP) => H' t = some (.tup [.int z.1, .int z.2])) ts (srtP ps) → Q (.ref l) H'
def tSrtItems (te : TE) : TE := fun σ H Q => te σ H fun x H1 => rSrtItems x H1 Q

theorem pairs_at {P : Program} {w : World} : ∀ {es : List DictEntry} {kvs : List (Key × Value)} {j : Nat} {e : DictEntry}, PySem.Pairs (mixKind P w) es kvs → es[j]? = some e → ∃ q, kvs[j]? = some q ∧ (mixKind P w).is q.1 e.key = true ∧ e.val = q.2
  | _, _, _, _, .nil, h => by simp at h
  | _, _, 0, _, .cons h1 h2 t, h => by
    simp at h
    subst h
    exact ⟨_, rfl, h1, h2⟩
  | _, _, j + 1, _, .cons h1 h2 t, h => by
    obtain ⟨q, a, b⟩ := pairs_at (j := j) t (by simpa using h)
    exact ⟨q, by simpa using a, b⟩
theorem pairs_len {P : Program} {w : World} : ∀ {es : List DictEntry} {kvs : List (Key × Value)}, PySem.Pairs (mixKind P w) es kvs → es.length = kvs.length
  | _, _, .nil => rfl
  | _, _, .cons _ _ t => by rw [List.length_cons, List.length_cons, pairs_len t]
theorem relV_int {j : Int} {u : Value} (h : RelV (.int j) u) : ∃ t, u = Value.int j t := h
/-- the state at A.in1 -/
abbrev inX (X : Cx) : Cx := { X with A := X.A.in1 }
theorem Inv.inX {pins : List (Addr × Obj)} {σ : St} {H : Hp} {s : Shared} (I : L2.Inv X pins σ H s) : L2.Inv (DL.inX X) pins σ H s :=
  ⟨⟨I.ok.mod, I.ok.kind, I.ok.glob, I.ok.blt, I.ok.above, I.ok.inj, I.ok.has, I.ok.cab, I.ok.hd, I.ok.frames, I.ok.stk, I.ok.exf, I.ok.bs, I.ok.bsz, I.ok.noex, I.ok.exfs, I.ok.funs, I.ok.frf⟩, I.os, I.bare, I.base, I.loc, I.cell, I.free, I.freeC, I.pin, I.hok, I.len⟩
theorem Inv.ofX {pins : List (Addr × Obj)} {σ : St} {H : Hp} {s : Shared} (I : L2.Inv (DL.inX X) pins σ H s) : L2.Inv X pins σ H s :=
  ⟨⟨I.ok.mod, I.ok.kind, I.ok.glob, I.ok.blt, I.ok.above, I.ok.inj, I.ok.has, I.ok.cab, I.ok.hd, I.ok.frames, I.ok.stk, I.ok.exf, I.ok.bs, I.ok.bsz, I.ok.noex, I.ok.exfs, I.ok.funs, I.ok.frf⟩, I.os, I.bare, I.base, I.loc, I.cell, I.free, I.freeC, I.pin, I.hok, I.len⟩
theorem paired_map {α β : Type} {R : α → β → Prop} {f : α → β} : ∀ {l : List α}, (∀ x ∈ l, R x (f x)) → Paired R l (l.map f)
  | [], _ => .nil
  | x :: l, h => .cons (h x List.mem_cons_self) (paired_map fun y hy => h y (List.mem_cons_of_mem _ hy))
/-- sorted(e.items()) -/
theorem pe_srtItems {te : TE} (hcm : X.calm = true) (hu : X.A.units + 64 < cLine) (he : PE X e te) (hg : Gl X "sorted") (hm : X.mg "sorted" = none) (hbase : attributeBase e "items" X.env (eval e X.env) = eval e X.env := by rfl) (hline : (apos.endLine == cpos.line) = true := by rfl)
    (hs : starEach [.Call (.Attribute e "items" apos) [] [] cpos] X.env = (false, eval (.Call (.Attribute e "items" apos) [] [] cpos) X.env) :: starEach [] X.env := by rfl) :
    PE X (.Call (.Name "sorted" p) [.Call (.Attribute e "items" apos) [] [] cpos] [] pos) (tSrtItems te) := by
  refine ⟨fun pins s σ H Q I hq => ?_⟩
  refine wpAny_Call_Name_kw (ld_blt I hg hm PyProof.Rows.boot_sorted ?_)
  refine PyProof.Rows.callWith_builtin1 ?_ hs rfl
  rw [hs]
  show wpAny _ _ (spliced ((false, eval (.Call (.Attribute e "items" apos) [] [] cpos) X.env) :: backTo pos (starEach [] X.env))) _ _ s
  refine Calls.spliced_cons ?_
  refine wpAny_Call_method (T := "dict") (id := "dict.items") hbase rfl hline F.plainAttrs_dict F.slot_dict_items F.type_dict_items (thn (he.run pins s σ H _ I hq) fun u s1 ⟨x, H1, I1, rx, d, kvs, ps, ex, hd, ek, q⟩ => ?_)
  subst ex
  obtain rfl : u = Value.ref d := rx
  obtain ⟨hz, hs0, vs, kv, hdo⟩ := I1.hok d _ hd
  have lk : kvs.length = vs.length := Paired.length kv
  have I2 : L2.Inv X pins σ H1 { s1 with heap := s1.heap.push { cls := .type "dict_items", data := .fields #[.ref d] } } := I1.kept (t' := s1.toks) fun b ob q => Heap.get?_push_of_some _ q
  refine ⟨hdo.typeIs, hdo.mapOf.noDict, ?_⟩
  show wpAny _ _ (callWith cpos (.builtin "dict.items") [.ref d] [] []) _ X.xe s1
  refine method_meetsIn F.slot_dict_items F.entry_dict_items rfl (PySem.evalArgs_none ⟨rfl, hdo.typeIs, F.args_dict_items_1 _, _, meets_dict_items (mixKind X.prog X.w) d hs0, ⟨vs, hdo⟩, ?_⟩)
  refine Calls.spliced_nil ?_
  obtain ⟨ob, ens, ep, g1, g2, g3, _, g5, g6⟩ := id hdo
  have hsz : ens.size = vs.length := by rw [← pairs_len g5, Array.length_toList]
  have raw : DT.Raw (s1.heap.push { cls := .type "dict_items", data := .fields #[.ref d] }) d ens ep := ⟨ob, Heap.get?_push_of_some _ g1, g2, g3⟩
  generalize hs2 : ({ s1 with heap := s1.heap.push { cls := .type "dict_items", data := .fields #[.ref d] } } : Shared) = s2 at I2
  have hheap : s2.heap = s1.heap.push { cls := .type "dict_items", data := .fields #[.ref d] } := by rw [← hs2]
  have hview : s2.heap.IsItemsView s1.heap.objs.size d := by rw [hheap]; exact ⟨_, Heap.get?_push_size _ rfl, rfl, rfl⟩
  rw [← hheap] at raw
  refine DT.sortedI (es := ens) (ep := ep) (I2.ok.hd hcm) hview raw (by omega) fun h' tk as hk hlt hl hG => ?_
  have lak : as.length = ps.length := by
    have e1 : kvs.length = ps.length := by rw [ek, List.length_map]
    omega
  have nd : as.Nodup := List.Pairwise.imp (fun {a b} (h : a < b) => Nat.ne_of_lt h) hG.rise
  have newA : ∀ t ∈ as, H1 t = none := fun t ht => I2.hok.fresh (Nat.le_of_lt (hG.above t ht))
  -- the pairs that were made
  have pr : ∀ (j : Nat) (t : Addr), as[j]? = some t → ∃ z t1 t2, ps[j]? = some z ∧ h'.get? t = some { cls := .type "tuple", data := .seq #[.int z.1 t1, .int z.2 t2] } := by
    intro j t hj
    obtain ⟨en, he2, hg2⟩ := hG.pairs j t hj
    obtain ⟨qv, f1, f2, f3⟩ := pairs_at (j := j) g5 (by simpa using he2)
    obtain ⟨xv, y1, y2⟩ := KV.at' kv f1
    rw [ek, List.getElem?_map] at y1
    cases z : ps[j]? with
    | none => rw [z] at y1; cases y1
    | some zz =>
      rw [z] at y1
      have e3 := Option.some.inj y1
      have k1 : Sum.inl zz.1 = qv.1 := congrArg Prod.fst e3
      have k2 : V.int zz.2 = xv := congrArg Prod.snd e3
      subst k2
      obtain ⟨t2, e4⟩ := relV_int y2
      have rk : RelV (kV qv.1) en.key := relV_key (show keyIs qv.1 en.key = true from f2)
      rw [← k1] at rk
      obtain ⟨t1, e5⟩ := relV_int rk
      exact ⟨zz, t1, t2, rfl, by rw [hg2, e5, f3, e4]⟩
  -- the list, the tuples tracked
  have lfresh : H1 h'.objs.size = none := I2.hok.fresh (Nat.le_of_lt hlt)
  have lnot : h'.objs.size ∉ as := fun z => Nat.lt_irrefl _ (hG.there z)
  have kb : ∀ b o, s2.heap.get? b = some o → (h'.push { cls := .type "list", data := .seq (as.map Value.ref).toArray }).get? b = some o := fun b o z => Heap.get?_push_of_some _ (hk b o z)
  have hob : (h'.push { cls := .type "list", data := .seq (as.map Value.ref).toArray }).get? h'.objs.size = some { cls := .type "list", data := .seq (as.map Value.ref).toArray } := Heap.get?_push_size _ rfl
  have J1 : L2.Inv X pins σ H1 { s2 with heap := h'.push { cls := .type "list", data := .seq (as.map Value.ref).toArray }, toks := tk } := I2.kept (t' := tk) kb
  have J2 := J1.take (h' := h'.push { cls := .type "list", data := .seq (as.map Value.ref).toArray }) (t' := tk) (it := h'.objs.size) (o := .lst (as.map V.ref)) (fun b ob2 _ z => z) (I2.fpOk (Nat.le_of_lt hlt) lfresh)
    ⟨by rw [List.length_map]; omega, as.map Value.ref, 0, LiI.vals_refs as, hob⟩
  obtain ⟨H2, J3, gr, qt⟩ := L2.DX.takeT (P := fun t vs => ∃ (j : Nat) (z : IP), as[j]? = some t ∧ ps[j]? = some z ∧ vs = [.int z.1, .int z.2]) I2 as _ J2 nd fun t ht => by
    obtain ⟨j, hj⟩ := List.mem_iff_getElem?.mp ht
    obtain ⟨z, t1, t2, hz2, hgz⟩ := pr j t hj
    refine ⟨Nat.le_of_lt (hG.above t ht), by rw [upd_ne (fun e => lnot (by rw [← e]; exact ht))]; exact newA t ht, [.int z.1, .int z.2], ⟨j, z, hj, hz2, rfl⟩, fun H3 => ⟨by show 2 ≤ sizeLine; decide, [.int z.1 t1, .int z.2 t2], .cons ⟨_, rfl⟩ (.cons ⟨_, rfl⟩ .nil), ⟨_, Heap.get?_push_of_some _ hgz, rfl, 0, rfl⟩⟩⟩
  have kp : ∀ b o, H1 b = some o → H2 b = some o := fun b o z => gr b o (by rw [upd_ne (ne_of_none z lfresh)]; exact z)
  have hl2 : H2 h'.objs.size = some (.lst (as.map V.ref)) := gr _ _ upd_same
  -- sort it
  let kf : V → IP := fun v => match v with
    | .ref t => (match H2 t with
      | some (.tup [.int i, .int j]) => (i, j)
      | _ => (0, 0))
    | _ => (0, 0)
  have kfa : ∀ (j : Nat) (t : Addr), as[j]? = some t → ∃ z, ps[j]? = some z ∧ H2 t = some (.tup [.int z.1, .int z.2]) ∧ kf (.ref t) = z := by
    intro j t hj
    obtain ⟨vs2, ⟨i, z, i1, i2, ev⟩, hH⟩ := qt t (List.mem_of_getElem? hj)
    have eij : j = i := (List.getElem?_inj (List.getElem?_eq_some_iff.mp hj).1 nd).mp (hj.trans i1.symm)
    subst eij
    rw [ev] at hH
    exact ⟨z, i2, hH, by show (match H2 t with | some (.tup [.int i, .int j]) => (i, j) | _ => ((0 : Int), (0 : Int))) = z; rw [hH]⟩
  have mapk : (as.map V.ref).map kf = ps := by
    refine List.ext_getElem? fun j => ?_
    rw [List.getElem?_map, List.getElem?_map]
    cases hj : as[j]? with
    | none =>
      have : ps[j]? = none := by
        rw [List.getElem?_eq_none_iff] at hj ⊢
        omega
      rw [this]
      rfl
    | some t =>
      obtain ⟨z, hz2, _, hkz⟩ := kfa j t hj
      rw [hz2]
      show some (kf (.ref t)) = some z
      rw [hkz]
  refine wpAny_mono (mt_sortPO (X := DL.inX X) pins _ σ H2 (.ref h'.objs.size) [] (.ref h'.objs.size) [] (fun v H3 => ∃ zs, H3 = upd H2 h'.objs.size (.lst zs) ∧ SrtO.Srtd (ltP kf) zs ∧ SrtO.Stb (ltP kf) zs (as.map V.ref)) (Inv.inX J3) rfl .nil
    ⟨h'.objs.size, as.map V.ref, kf, rfl, rfl, hl2, fun y hy => ?_, fun zs z1 z2 => ⟨zs, rfl, z1, z2⟩⟩) (fun v s3 hv => ?_) fun _ _ z => z
  · obtain ⟨t, ht, rfl⟩ := List.mem_map.mp hy
    obtain ⟨j, hj⟩ := List.mem_iff_getElem?.mp ht
    obtain ⟨z, _, hH, hkz⟩ := kfa j t hj
    exact ⟨t, rfl, by rw [hkz]; exact hH⟩
  · obtain ⟨v0, H3, J4, _, zs, eH, z1, z2⟩ := hv
    subst eH
    have perm := z2.perm
    have zrefs : ∀ y ∈ zs, ∃ t ∈ as, y = V.ref t := fun y hy => by
      obtain ⟨t, ht, e⟩ := List.mem_map.mp (perm.mem_iff.mp hy)
      exact ⟨t, ht, e.symm⟩
    obtain ⟨ts, ets⟩ : ∃ ts : List Addr, zs = ts.map V.ref := by
      clear z1 z2 perm J4
      induction zs with
      | nil => exact ⟨[], rfl⟩
      | cons y zs ih =>
        obtain ⟨t, _, e⟩ := zrefs y List.mem_cons_self
        obtain ⟨ts, e2⟩ := ih fun y hy => zrefs y (List.mem_cons_of_mem _ hy)
        exact ⟨t :: ts, by rw [e, e2]; rfl⟩
    subst ets
    have tin : ∀ t ∈ ts, t ∈ as := fun t ht => by
      obtain ⟨t', ht', e⟩ := zrefs (V.ref t) (List.mem_map.mpr ⟨t, ht, rfl⟩)
      cases e
      exact ht'
    have es : (ts.map V.ref).map kf = srtP ps := by
      refine sortedP_uniq ?_ ?_ (srtP_sorted ps)
      · have := perm.map kf
        rw [mapk] at this
        exact this.trans (srtP_perm ps).symm
      · rw [List.pairwise_map]
        refine List.Pairwise.imp (fun {y y2} h => ?_) z1
        have h2 := SrtO.lexB_no.mp h
        rw [leP_iff]
        omega
    refine ⟨.ref h'.objs.size, _, Inv.ofX J4, rfl, q _ h'.objs.size ts (fun b o z => by rw [upd_ne (ne_of_none z lfresh)]; exact kp b o z) lfresh (fun t ht => newA t (tin t ht)) upd_same ?_⟩
    · have key : ∀ t ∈ ts, upd H2 h'.objs.size (.lst (ts.map V.ref)) t = some (.tup [.int (kf (.ref t)).1, .int (kf (.ref t)).2]) := fun t ht => by
        obtain ⟨j, hj⟩ := List.mem_iff_getElem?.mp (tin t ht)
        obtain ⟨z, _, hH, hkz⟩ := kfa j t hj
        rw [upd_ne (fun e => lnot (by rw [← e]; exact tin t ht)), hkz]
        exact hH
      rw [← es, List.map_map]
      exact paired_map key

/-! ### a list that came with other new objects -/
theorem Stp.ext' {ms : Ms} {H H' : Hp} (e : ∀ b o, H b = some o → H' b = some o) : Stp ms H ms H' :=
  ⟨⟨[], by simp, fun _ h => by cases h⟩, ⟨fun _ h => h, fun _ h => .inl h⟩, fun a o h _ _ => e a o h, fun a vs h => e a _ h, fun a h => by
    cases q : H a with
    | none => rfl
    | some o => rw [e a o q] at h; cases h⟩
theorem Cf.ext' {ms : Ms} {H H' : Hp} {G : GH} (c : Cf T ms H G) (e : ∀ b o, H b = some o → H' b = some o) : Cf T ms H' G :=
  ⟨c.nd, c.len, fun a h z => c.hd a h ((Stp.ext' (ms := ms) e).there a z), fun i o a hi ha => MRep.tr (Stp.ext' e).tr (fun u z _ => e a u z) (c.obj i o a hi ha), c.tb.ext e⟩
theorem lst_ext {ms : Ms} {H H' : Hp} {G : GH} {ds : List D} {l : Addr} {vs : List V} {W : Value → Option Addr → Hp → Prop} {Q : VK} (c : Cf T ms H G) (e : ∀ b o, H b = some o → H' b = some o) (hl : H l = none) (hl' : H' l = some (.lst vs)) (r : Reps T ms H' ds vs) (k : OkE T W (.ok (.lst ds) G) ms H Q) : Q (.ref l) H' :=
  k _ H' ms (Stp.ext' e) ⟨l, vs, rfl, c.out hl, hl', r⟩ (c.ext' e)
def ipO : List D → List D → Option (List IP)
  | [], [] => some []
  | .int i :: ks, .int j :: vs => (match ipO ks vs with
    | some ps => some ((i, j) :: ps)
    | none => none)
  | _, _ => none
theorem ipO_of {ms : Ms} {H : Hp} : ∀ {ks vs : List D} {ps : List IP} {kvs : List (Key × V)}, ipO ks vs = some ps → Reps T ms H ks (kvs.map fun z => kV z.1) → Reps T ms H vs (kvs.map (·.2)) → kvs = ps.map (fun z => (Sum.inl z.1, V.int z.2))
  | [], [], ps, kvs, h, r1, r2 => by
    cases h
    cases kvs with
    | nil => rfl
    | cons z kvs => cases r1
  | .int i :: ks, .int j :: vs, ps, kvs, h, r1, r2 => by
    have h' : (match ipO ks vs with | some ps => some ((i, j) :: ps) | none => none) = some ps := h
    cases q : ipO ks vs with
    | none => rw [q] at h'; cases h'
    | some ps2 =>
      rw [q] at h'
      cases h'
      cases kvs with
      | nil => obtain ⟨_, _, e, _⟩ := r1; cases e
      | cons z kvs =>
        obtain ⟨v1, w1, e1, a1, b1⟩ := r1
        obtain ⟨v2, w2, e2, a2, b2⟩ := r2
        cases e1
        cases e2
        have ih := ipO_of q b1 b2
        have hk := keyO_of a1
        have e3 : z.1 = Sum.inl i := (Option.some.inj hk).symm
        have e4 : z.2 = V.int j := a2
        rw [ih, List.map_cons, ← e3, ← e4]
  | [], _ :: _, ps, kvs, h, _, _ => by cases h
  | .int i :: ks, [], ps, kvs, h, _, _ => by cases h
  | .non :: _, _, _, _, h, _, _ => by cases h
  | .bl _ :: _, _, _, _, h, _, _ => by cases h
  | .str _ :: _, _, _, _, h, _, _ => by cases h
  | .tup _ :: _, _, _, _, h, _, _ => by cases h
  | .lst _ :: _, _, _, _, h, _, _ => by cases h
  | .dic _ _ :: _, _, _, _, h, _, _ => by cases h
  | .ins _ _ :: _, _, _, _, h, _, _ => by cases h
  | .ref _ :: _, _, _, _, h, _, _ => by cases h
  | .scr _ :: _, _, _, _, h, _, _ => by cases h
  | .int _ :: _, .non :: _, _, _, h, _, _ => by cases h
  | .int _ :: _, .bl _ :: _, _, _, h, _, _ => by cases h
  | .int _ :: _, .str _ :: _, _, _, h, _, _ => by cases h
  | .int _ :: _, .tup _ :: _, _, _, h, _, _ => by cases h
  | .int _ :: _, .lst _ :: _, _, _, h, _, _ => by cases h
  | .int _ :: _, .dic _ _ :: _, _, _, h, _, _ => by cases h
  | .int _ :: _, .ins _ _ :: _, _, _, h, _, _ => by cases h
  | .int _ :: _, .ref _ :: _, _, _, h, _, _ => by cases h
  | .int _ :: _, .scr _ :: _, _, _, h, _, _ => by cases h
def pairD (z : IP) : D := .tup [.int z.1, .int z.2]
theorem paired_reps {ms : Ms} {H : Hp} : ∀ {ts : List Addr} {ps : List IP}, Paired (fun (t : Addr) (z : IP) => H t = some (.tup [.int z.1, .int z.2])) ts ps → Reps T ms H (ps.map pairD) (ts.map V.ref)
  | _, _, .nil => rfl
  | _, _, .cons h t => ⟨_, _, rfl, ⟨_, _, rfl, h, _, _, rfl, rfl, _, _, rfl, rfl, rfl⟩, paired_reps t⟩
def fSrtItems (f : F) : F := fun ρ G => (f ρ G).bnd fun d G1 => match vw G1 d with
  | .dic ks vs => (match ipO ks vs with
    | some ps => .ok (.lst ((srtP ps).map pairD)) G1
    | none => .st)
  | _ => .st
theorem j_srtItems {k : Nat} (B : Bd X T W k) (he : JE X T W e fa) (hg : Gl X "sorted") (hm : X.mg "sorted" = none) (hbase : attributeBase e "items" X.env (eval e X.env) = eval e X.env := by rfl) (hline : (apos.endLine == cpos.line) = true := by rfl)
    (hs : starEach [.Call (.Attribute e "items" apos) [] [] cpos] X.env = (false, eval (.Call (.Attribute e "items" apos) [] [] cpos) X.env) :: starEach [] X.env := by rfl) :
    JE X T W (.Call (.Name "sorted" p) [.Call (.Attribute e "items" apos) [] [] cpos] [] pos) (fSrtItems fa) :=
  PE.imp (pe_srtItems B.cm B.u64 he hg hm hbase hline hs) fun σ H Q ⟨ρ, ms, G, he, hc, h⟩ => ⟨ρ, ms, G, he, hc, (OkG.bnd h).imp fun x H1 ⟨d, G1, ms1, _, s1, r1, c1, h1⟩ => by
    split at h1
    · rename_i ks vs e
      split at h1
      · rename_i ps hp
        obtain ⟨a, kv, ws, rfl, ⟨kvs, h0, rfl, rfl⟩, k1, k2⟩ := vw_dic c1 r1 e
        exact ⟨a, kvs, ps, rfl, h0, ipO_of hp k1 k2, fun H' l ts ex hl _ hl' pt => lst_ext c1 ex hl hl' (paired_reps pt) h1⟩
      · exact h1.elim
    · exact h1.elim⟩
end DL

set_option Elab.async false
set_option linter.all false
set_option maxRecDepth 100000
set_option maxHeartbeats 2000000
set_option autoImplicit false
namespace DL
open PySem L2
variable {X : Cx} {T : TC} {W : WX} {a b c e o : Expr} {es : List Expr} {fa fb fc : F} {ga gb gc : FT} {pos p apos cpos : Pos} {st : Stmt} {sts : List Stmt} {s t : FS} {k n : Nat} {x m : Str}

/-- a value as a test -/
theorem jtv (h : JE X T W e fa) (he : ∀ whole, isTrue e X.env whole = (do let v ← whole; standAt e.pos; holding [v] (truthy v)) := by intro _; rfl) : JT X T W e (fB fa) := PT.imp (pt_val h he) fun _ _ _ q => t_B q

/-! ### by values, the arguments frozen: the result is flat -/
mutual
def flat : D → Bool
  | .non => true
  | .bl _ => true
  | .int _ => true
  | .str _ => true
  | .tup ds => flats ds
  | _ => false
def flats : List D → Bool
  | [] => true
  | d :: ds => flat d && flats ds
end
mutual
theorem rep_flat {ms ms' : Ms} {H : Hp} : ∀ (d : D) (v : V), flat d = true → Rep T ms H d v → Rep T ms' H d v
  | .non, _, _, h => h
  | .bl _, _, _, h => h
  | .int _, _, _, h => h
  | .str _, _, _, h => h
  | .tup ds, v, n, h => by
    obtain ⟨a, vs, e, h1, h2⟩ := h
    exact ⟨a, vs, e, h1, reps_flat ds vs n h2⟩
theorem reps_flat {ms ms' : Ms} {H : Hp} : ∀ (ds : List D) (vs : List V), flats ds = true → Reps T ms H ds vs → Reps T ms' H ds vs
  | [], _, _, h => h
  | d :: ds, vs, n, h => by
    obtain ⟨v, r, e, h1, h2⟩ := h
    have n' : (flat d && flats ds) = true := n
    rw [Bool.and_eq_true] at n'
    exact ⟨v, r, e, rep_flat d v n'.1 h1, reps_flat ds r n'.2 h2⟩
end
def flatR (G : GH) (r : R D) : R D := match r with
  | .ok d _ => if flat d then .ok d G else .st
  | _ => .st
def pureZ (m : FM) : FM := fun ds G => match allO (frz frzN G) ds with
  | some ds' => flatR G (m ds' [])
  | none => .st
theorem spD_pureZ {n : Nat} {m : FM} : ∀ vs H Q E, spD T n (pureZ m) vs H Q E → spD T n m vs H Q E := fun vs H Q E ⟨hl, ds, ms, G, r, c, h⟩ => by
  unfold pureZ at h
  split at h
  · rename_i ds' hf
    have r' : Reps T ⟨[], []⟩ H ds' vs := allO_reps (fun d v d' q r => frz_rep c (fun a _ _ => ⟨by simp, by simp⟩) frzN d v d' q r) hf r
    refine ⟨hl, ds', ⟨[], []⟩, [], r', Cf.nil c.tb, ?_⟩
    have back : ∀ {ms' : Ms} {H' : Hp}, Stp ⟨[], []⟩ H ms' H' → LamX.Tabs T.tbs H' → Stp ms H ms H' ∧ Cf T ms H' G := fun {ms' H'} s tb => by
      have st : Stp ms H ms H' := ⟨⟨[], by simp, fun _ h => by cases h⟩, ⟨fun _ h => h, fun _ h => .inl h⟩, fun a o z _ nt => s.keep a o z (by simp) nt, s.tups, s.there⟩
      exact ⟨st, c.nd, c.len, fun a h z => c.hd a h (s.there a z), fun i o a hi ha => MRep.tr st.tr (fun u z nt => s.keep a u z (by simp) nt) (c.obj i o a hi ha), tb⟩
    cases q : m ds' [] with
    | st => rw [q] at h; exact h.elim
    | ok d G1 =>
      rw [q] at h
      obtain ⟨fl, h⟩ := ifst h
      exact fun v H' ms' s r1 c1 => h v H' ms (back s c1.tb).1 (rep_flat d v fl r1) (back s c1.tb).2
    | ex e G1 => rw [q] at h; exact h.elim
  · exact h.elim
theorem j_callZ {Y : Tx} {ps ks : List Str} {nU : Nat} {prm : List Nat} {mm : FM} {fs : FA} {kws : List Keyword} (B : Bd X T W k) (i : In X T Y) (D : Kd Y T k x st ps mm) (hg : Gl X x) (hb : ∀ f fd, Fun T.K x x st f fd → KB T.K fd ps 0 nU ks prm) (hn : prm.length = ps.length)
    (ha : JC X T W pos es kws nU ks fs) (hd : (x == ("__debug__" : Str)) = false := by decide) : JE X T W (.Call (.Name x p) es kws pos) (fCall prm (pureZ mm) fs) := by
  obtain ⟨f, fd, hm, F, G⟩ := D
  exact j_callH B i ⟨f, fd, hm, F, G.imp spD_pureZ⟩ hg hb hn ha hd

/-! ### for over a list of the heap, as it stands at each turn -/
def loopL (j : Nat) (g : FG) (s : FS) : Nat → Nat → Env → GH → RS
  | 0, _, _, _ => .st
  | n + 1, k, ρ, G => match (G : List D)[j]? with
    | some (.lst xs) => (match xs[k]? with
      | none => .nx ρ G
      | some d => match g d ρ G with
        | none => .st
        | some (ρ1, G1) => match s ρ1 G1 with
          | .nx ρ2 G2 => loopL j g s n (k + 1) ρ2 G2
          | .ct ρ2 G2 => loopL j g s n (k + 1) ρ2 G2
          | .bk ρ2 G2 => .nx ρ2 G2
          | o => o)
    | _ => .st
def sForL (n : Nat) (f : F) (g : FG) (s : FS) : FS := fun ρ G => (f ρ G).go ρ fun d G1 => match d with
  | .ref j => loopL j g s n 0 ρ G1
  | _ => .st
theorem js_forL {own : List Nat} {tg : Expr} {g : FG} (n : Nat) (hp : PassesOwn (model X.prog X.w) X.A X.env X.xe) (hc : X.calm = true) (he : JE X T W e fa) (hg : JG X T own tg g) (hb : JB X T W sts s)
    (hs : ∀ x, foldedSetIterable e X.env x = pure x := by intro _; rfl) : JS X T W (.For tg e sts [] pos) (sForL n fa g s) :=
  PS.imp (ps_for hp hc (pi_list he) hg hb hs) fun Z σ H ⟨ρ, ms, G, he, hcf, h⟩ => ⟨ρ, ms, G, he, hcf, (OkS.go he h).imp fun v H1 ⟨d, G1, ms1, _, s1, r1, c1, h1⟩ => by
    cases d with
    | ref j =>
      obtain ⟨q, rfl, hq⟩ := r1
      have h1' : OkS T W (loopL j g s n 0 ρ G1) ms1 H1 Z := h1
      -- the list stands there
      have there : ∀ {ms : Ms} {H : Hp} {G : GH} {xs : List D}, ms.nm[j]? = some q → Cf T ms H G → G[j]? = some (.lst xs) → ∃ vs, H q = some (.lst vs) ∧ Reps T ms H xs vs := fun hn c hg => c.obj j _ q hg hn
      have start : ∃ xs, SqL X.K H1 q xs := by
        cases n with
        | zero => exact h1'.elim
        | succ n =>
          unfold loopL at h1'
          split at h1'
          · rename_i xs hgj
            obtain ⟨vs, hv, _⟩ := there hq c1 hgj
            exact ⟨vs, .of hv⟩
          · exact h1'.elim
      refine ⟨q, rfl, start, fun i m σ H => ∃ ρ ms G, REnv T ms H σ ρ ∧ ms.nm[j]? = some q ∧ Cf T ms H G ∧ OkS T W (loopL j g s m i ρ G) ms H Z, ⟨n, ρ, ms1, G1, he.mono s1, hq, c1, h1'⟩, ?_⟩
      rintro i m σ H ⟨ρ, ms, G, e2, hn, c2, h2⟩
      cases m with
      | zero => exact h2.elim
      | succ m =>
        unfold loopL at h2
        split at h2
        · rename_i xs hgj
          obtain ⟨vs, hv, rv⟩ := there hn c2 hgj
          split at h2
          · rename_i hx
            refine .inl ⟨⟨vs, .of hv, ?_⟩, h2 σ H ms (Stp.refl _ _) e2 c2⟩
            rw [rv.len]
            exact List.getElem?_eq_none_iff.mp hx
          · rename_i d hx
            obtain ⟨v, hvi, rvi⟩ := rv.at hx
            refine .inr ⟨⟨vs, v, .of hv, hvi⟩, fun σ' H' => ∃ ρ ms G, REnv T ms H' σ' ρ ∧ ms.nm[j]? = some q ∧ Cf T ms H' G ∧ OkS T W (loopL j g s m (i + 1) ρ G) ms H' Z, fun σ' H' z => ⟨m, Nat.lt_succ_self m, z⟩, ?_⟩
            rintro y H' ⟨eH, hy⟩
            subst eH
            have ey := hy vs (.of hv)
            rw [hvi] at ey
            cases ey
            refine ⟨d, ρ, ms, G, rvi, e2, c2, ?_⟩
            cases q1 : g d ρ G with
            | none => rw [q1] at h2; exact h2.elim
            | some pr =>
              rw [q1] at h2
              intro σ4 H4 ms4 _ s4 e4 c4
              refine ⟨pr.1, ms4, pr.2, e4, c4, ?_⟩
              simp only at h2
              have nm4 : ∀ {ms5 : Ms} {H5 : Hp}, Stp ms4 H4 ms5 H5 → ms5.nm[j]? = some q := fun s5 => (s4.trans s5).tr.nm j q hn
              cases q2 : s pr.1 pr.2 with
              | nx ρ2 G2 => rw [q2] at h2; exact fun σ6 H6 ms6 s6 e6 c6 => ⟨ρ2, ms6, G2, e6, nm4 s6, c6, OkS.later (s4.trans s6) h2⟩
              | ct ρ2 G2 => rw [q2] at h2; exact fun σ6 H6 ms6 s6 e6 c6 => ⟨ρ2, ms6, G2, e6, nm4 s6, c6, OkS.later (s4.trans s6) h2⟩
              | bk ρ2 G2 => rw [q2] at h2; exact fun σ6 H6 ms6 s6 e6 c6 => h2 σ6 H6 ms6 (s4.trans s6) e6 c6
              | rt d2 G2 => rw [q2] at h2; exact fun v H6 ms6 s6 e6 c6 => h2 v H6 ms6 (s4.trans s6) e6 c6
              | ex e2 ρ2 G2 => rw [q2] at h2; exact fun cls dx σ6 H6 ms6 s6 e6 x6 c6 => h2 cls dx σ6 H6 ms6 (s4.trans s6) e6 x6 c6
              | st => rw [q2] at h2; exact h2.elim
        · exact h2.elim
    | _ => exact h1.elim⟩
end DL

set_option Elab.async false
set_option linter.all false
set_option maxRecDepth 100000
set_option maxHeartbeats 2000000
set_option autoImplicit false
namespace DL
open PySem L2
variable {X : Cx} {T : TC} {W : WX} {a b c e o : Expr} {es : List Expr} {fa fb fc : F} {ga gb gc : FT} {pos p apos cpos : Pos} {st : Stmt} {sts : List Stmt} {s t : FS} {k n : Nat} {x m : Str}

/-! ### a lambda is made -/
/-- the heap behind the making: as it was, or one more code object in the table -/
def LamH (H H1 : Hp) (P : Addr) (q : Str) : Prop := H1 = H ∨ ∃ (ps ps' : Array Value) (c' : Addr), H P = some (.tbl ps) ∧ H c' = none ∧ H1 = upd (upd H P (.tbl ps')) c' (LamX.CodeO c' q)
theorem LamH.ext {H H1 : Hp} {P : Addr} {q : Str} (h : LamH H H1 P q) : LamX.ExtN H H1 := by
  rcases h with rfl | ⟨ps, ps', c', h1, h2, rfl⟩
  · exact LamX.ExtN.refl _
  · intro b o e n
    rw [upd_ne (ne_of_none e h2), upd_ne (fun z => n ps (Option.some.inj (e.symm.trans (by rw [z]; exact h1))))]
    exact e
theorem LamH.there {H H1 : Hp} {P : Addr} {q : Str} (h : LamH H H1 P q) : ∀ b, H1 b = none → H b = none := by
  rcases h with rfl | ⟨ps, ps', c', h1, h2, rfl⟩
  · exact fun _ h => h
  · exact fun b h => upd_none (upd_none h)
section
variable {pins : List (Addr × Obj)} {σ : L2.St} {H : Hp} {sh : Shared}
theorem lam_new {Tb : List (Addr × Str)} {cc P : Addr} {params : Arguments} {body : Expr} {scope : Scope} {E : Value → Shared → Prop} {Q : Value → Shared → Prop} (I : L2.Inv X pins σ H sh) (TB : LamX.TabB X.base X.mg cc P) (hcode : X.env.code = .ref cc)
    (hm : (P, X.env.qual ++ "<lambda>") ∈ Tb) (hu : ∀ q ∈ Tb, q.1 = P → q.2 = X.env.qual ++ "<lambda>") (hT : LamX.Tabs Tb H) (hdef : defaultsOf params X.env = ([], [])) (hfree : ∀ y ∈ scope.names, y.2 = .free → ∃ c, X.env.cells.lookup y.1 = some c)
    (h : ∀ (f c' : Addr) (pm ctv : Value) (H1 : Hp) (s' : Shared), L2.Inv X pins σ H1 s' → LamH H H1 P (X.env.qual ++ "<lambda>") → LamX.Tabs Tb H1 →
      s'.heap.get? f = some (PySem.W.kla_obj "<lambda>" (X.env.qual ++ "<lambda>") params body scope (cloFrom X.env.cells scope.names []) pm c' ctv) → H1 c' = some (LamX.CodeO c' (X.env.qual ++ "<lambda>")) → Q (.ref f) s') :
    wpAny (model X.prog X.w) X.A (eval (.Lambda params body scope pos) X.env) Q E sh := by
  obtain ⟨ps, hP, hok, among⟩ := hT _ hm
  refine PySem.W.kla_eval hdef ?_
  have bP : sh.heap.BuiltinsAt X.mg P := TB.bm.keeps I.bk
  have atP : sh.heap.get? P = some { cls := .none, data := .fields ps } := I.hok P _ hP
  cases hc : codeAmong pos ps.toList with
  | some cv =>
    obtain ⟨c', e, hco⟩ := among pos cv hc
    subst e
    refine PySem.W.kla_makeFunctionHit (mg := X.mg) (c := cc) (P := P) (ps := ps) (closure_ok hfree) I.ok.glob (I.mod.glob.keeps I.bk) hcode (TB.code.keeps I.bk) atP hok hc bP fun ctv h' tk hx hsz => ?_
    exact h _ c' _ ctv H _ (I.kept fun b o e => Heap.get?_push_of_some _ (hx b o e)) (.inl rfl) hT (Heap.get?_push_size _ rfl) hco
  | none =>
    refine PySem.W.kla_makeFunction (mg := X.mg) (c := cc) (P := P) (ps := ps) (closure_ok hfree) I.ok.glob (I.mod.glob.keeps I.bk) hcode (TB.code.keeps I.bk) atP hok hc TB.gP bP fun c' ctv h' tk hx hge hlt hrec htb => ?_
    obtain ⟨c2, oc, vs, tq, e2, hoc, hd, hv⟩ := hrec
    cases e2
    have nC : H c' = none := I.hok.fresh hge
    have J := LamX.inv_table (t' := tk) (more := #[rawInt pos.line, rawInt pos.col, .ref c']) (h' := h'.push (PySem.W.kla_obj "<lambda>" (X.env.qual ++ "<lambda>") params body scope (cloFrom X.env.cells scope.names []) ((X.mg "__name__").getD .none) c' ctv)) I hP
      (fun b o hb e => Heap.get?_push_of_some _ (hx b o hb e)) (Heap.get?_push_of_some _ htb) hge ⟨oc, vs, tq, Heap.get?_push_of_some _ hoc, hd, hv⟩
    have lh : LamH H (upd (upd H P (.tbl (ps ++ #[rawInt pos.line, rawInt pos.col, .ref c']))) c' (LamX.CodeO c' (X.env.qual ++ "<lambda>"))) P (X.env.qual ++ "<lambda>") := .inr ⟨ps, _, c', hP, nC, rfl⟩
    have aL : (ps ++ #[rawInt pos.line, rawInt pos.col, .ref c']).toList = ps.toList ++ [rawInt pos.line, rawInt pos.col, .ref c'] := by simp
    refine h _ c' _ ctv _ _ J lh (fun q hq => ?_) (Heap.get?_push_size _ rfl) upd_same
    by_cases hb : q.1 = P
    · rw [hu q hq hb, hb]
      refine ⟨_, by rw [upd_ne (ne_of_none hP nC), upd_same], by rw [aL]; exact PySem.TriplesOk_snoc _ _ _ _ hok, fun p' cv hcv => ?_⟩
      rw [aL] at hcv
      rcases LamX.among_app _ hok hcv with z | z
      · obtain ⟨c0, e1, e2⟩ := among p' cv z
        exact ⟨c0, e1, lh.ext _ _ e2 LamX.codeO_ne⟩
      · exact ⟨c', z, upd_same⟩
    · obtain ⟨ps', a1, a2, a3⟩ := hT q hq
      refine ⟨ps', by rw [upd_ne (ne_of_none a1 nC), upd_ne hb]; exact a1, a2, fun p' cv hcv => ?_⟩
      obtain ⟨c0, e1, e2⟩ := a3 p' cv hcv
      exact ⟨c0, e1, lh.ext _ _ e2 LamX.codeO_ne⟩
end

/-! ### lambda v: len(v), called -/
theorem len_call {prog : Program} {w : World} {A : Around} {sh : Shared} {f c' t : Addr} {v qual : Str} {params : Arguments} {scope : Scope} {clos : List (Str × Addr)} {pm ctv : Value} {items : Array Value} {mg : Str → Option Value} {p1 p2 p3 : Pos} (hdp : A.depth < recursionLimit)
    (of1 : sh.heap.get? f = some (PySem.W.kla_obj "<lambda>" qual params (.Call (.Name "len" p1) [.Name v p2] [] p3) scope clos pm c' ctv)) (hk : scope.kind = .function) (hco : scope.isCoroutine = false) (hgen : scope.isGenerator = false)
    (cod : ∃ (oc : Obj) (vs : Array Value) (tq : Tok), sh.heap.get? c' = some oc ∧ oc.data = .fields vs ∧ vs[1]? = some (.str qual tq)) (hc : ∀ x ∈ scope.names, x.2 ≠ .cell) (hl : scope.names.lookup v = some .local) (hg : scope.names.lookup ("len" : Str) = some .globalImplicit)
    (hv : (v == ("__debug__" : Str)) = false) (hb : ∀ u : Value, bindArgs (PySem.W.kla_fn "<lambda>" qual params (.Call (.Name "len" p1) [.Name v p2] [] p3) scope clos pm (.ref c') ctv) ⟨[u], []⟩ = pure [(v, u)])
    (gl : sh.heap.Ns mainGlobals mg) (hm : mg "len" = none) (bl : ∃ mb : Str → Option Value, sh.heap.Ns builtinsNs mb ∧ ∀ x : Str, x ≠ "__name__" → mb x = bootBuiltins x) (nl : sh.heap.NoLimit) (ht : PyProof.Rows.IsTup sh.heap t items) (hfit : (items.size : Int) < 2 ^ 63) :
    codeAny (model prog w) A (.call (.ref f) ⟨[.ref t], []⟩) (fun r s' => ∃ h' tk t', r = .ok (.ret (.int items.size t')) ∧ s' = { sh with heap := h', toks := tk } ∧ ∀ b o, sh.heap.get? b = some o → h'.get? b = some o) sh := by
  obtain ⟨oc, vs, tq, hoc, hdc, hvc⟩ := cod
  refine PySem.W.kla_callFunE hdp of1 rfl hco hgen rfl ⟨c', oc, vs, tq, rfl, hoc, hdc, hvc⟩ ?_
  rw [hb]
  refine wpAny_pure (wpAny_newFunctionEnv hc (fun y hy => by rw [List.mem_singleton.mp hy]; exact hl) (fun h₁ hns hsb => ⟨nl.fresh _ hsb, ?_⟩) hk)
  have kp : ∀ b o, sh.heap.get? b = some o → h₁.get? b = some o := fun b o e => hsb.extBut b o (Nat.ne_of_lt (Heap.lt_size e)) (Heap.get?_push_of_some _ e)
  refine PySem.W.kla_codeExpr ?_
  refine wpAny_Call_Name_kw ?_
  obtain ⟨mb, b1, b2⟩ := bl
  refine Calls.Name_function_global hk hg (Calls.loadGlobal_builtin (gl.keeps kp) hm (b1.keeps kp) ((b2 "len" (by decide)).trans boot_len) ?_) (by decide)
  refine PyProof.Rows.callWith_builtin1 (PyProof.Rows.args_cons (wpAny_Name (wpAny_loadName_local hk hl hns (by show [(v, Value.ref t)].reverse.lookup v = some (Value.ref t); simp [List.lookup]) (PyProof.Rows.args_nil ?_)) hv) rfl) rfl rfl
  exact PyProof.Rows.len_tuple (ht.keeps kp) hfit ⟨_, _, _, rfl, rfl, kp⟩

/-! ### max(xs, key=lambda v: len(v)) -/
/-- all objects of a heap but those of the base and the frame -/
def restL (h base : Heap) (L : Addr) : List (Addr × Obj) := (List.range h.objs.size).filterMap fun a => if a = L then none else match base.get? a with
  | some _ => none
  | none => (h.get? a).map fun o => (a, o)
theorem mem_restL {h base : Heap} {L a : Addr} {o : Obj} : (a, o) ∈ restL h base L ↔ a ≠ L ∧ base.get? a = none ∧ h.get? a = some o := by
  unfold restL
  rw [List.mem_filterMap]
  constructor
  · rintro ⟨b, hb, e⟩
    by_cases z : b = L
    · rw [if_pos z] at e; cases e
    · rw [if_neg z] at e
      cases q : base.get? b with
      | some _ => rw [q] at e; cases e
      | none =>
        rw [q] at e
        cases g : h.get? b with
        | none => rw [g] at e; cases e
        | some u =>
          rw [g] at e
          cases e
          exact ⟨z, q, g⟩
  · rintro ⟨h1, h2, h3⟩
    exact ⟨a, List.mem_range.mpr (Heap.lt_size h3), by rw [if_neg h1, h2, h3]; rfl⟩
def rMaxLen (K : PySem.W.Frag) (Tb : List (Addr × Str)) (P : Addr) (q : Str) : V → Hp → VK → Prop := fun x H Q => ∃ (l : Addr) (zs : List V) (ls : List (Addr × List V)), x = .ref l ∧ SqL K H l zs ∧ zs = ls.map (fun z => V.ref z.1) ∧ (∀ z ∈ ls, H z.1 = some (.tup z.2)) ∧ 0 < ls.length ∧ LamX.Tabs Tb H ∧
  ∀ (H1 : Hp) (i : Nat) (z : Addr × List V), LamH H H1 P q → LamX.Tabs Tb H1 → ls[i]? = some z → (∀ (j : Nat) (y : Addr × List V), ls[j]? = some y → y.2.length ≤ z.2.length ∧ (j < i → y.2.length < z.2.length)) → Q (.ref z.1) H1
theorem vals_refs_eq : ∀ {ls : List (Addr × List V)} {us : List Value}, Vals (ls.map fun z => V.ref z.1) us → us = ls.map fun z => Value.ref z.1
  | [], _, .nil => rfl
  | z :: ls, _, .cons r1 r2 => by
    rw [List.map_cons, ← vals_refs_eq r2]
    exact congrArg (· :: _) r1
theorem pe_maxLen {Tb : List (Addr × Str)} {cc P : Addr} {params : Arguments} {scope : Scope} {te : TE} {v : Str} {p1 p2 p3 lpos kpos : Pos} (hcm : X.calm = true) (hgd : X.A.depth < recursionLimit) (TB : LamX.TabB X.base X.mg cc P) (hcode : X.env.code = .ref cc)
    (hmT : (P, X.env.qual ++ "<lambda>") ∈ Tb) (hu : ∀ q ∈ Tb, q.1 = P → q.2 = X.env.qual ++ "<lambda>") (he : PE X e te) (hg : Gl X "max") (hm : X.mg "max" = none) (hml : X.mg "len" = none)
    (hdef : defaultsOf params X.env = ([], [])) (hk : scope.kind = .function) (hco : scope.isCoroutine = false) (hgen : scope.isGenerator = false) (hcl : ∀ y ∈ scope.names, y.2 ≠ .cell ∧ y.2 ≠ .free) (hlv : scope.names.lookup v = some .local) (hlg : scope.names.lookup ("len" : Str) = some .globalImplicit)
    (hvd : (v == ("__debug__" : Str)) = false) (hbind : ∀ (pm ctv : Value) (c' : Addr) (cl : List (Str × Addr)) (u : Value), bindArgs (PySem.W.kla_fn "<lambda>" (X.env.qual ++ "<lambda>") params (.Call (.Name "len" p1) [.Name v p2] [] p3) scope cl pm (.ref c') ctv) ⟨[u], []⟩ = pure [(v, u)])
    (hbk : backTo pos (starEach [e] X.env) = (false, eval e X.env) :: backTo pos (starEach [] X.env) := by rfl) (hpl : (backTo pos (starEach [e] X.env)).any (·.1) = false := by rfl) (hst : starEach [e] X.env = (false, eval e X.env) :: starEach [] X.env := by rfl) :
    PE X (.Call (.Name "max" p) [e] [⟨some "key", .Lambda params (.Call (.Name "len" p1) [.Name v p2] [] p3) scope lpos, kpos⟩] pos) (fun σ H Q => te σ H fun x H1 => rMaxLen X.K Tb P (X.env.qual ++ "<lambda>") x H1 Q) := by
  refine ⟨fun pins s σ H Q I hq => ?_⟩
  refine wpAny_Call_Name_kw (ld_blt I hg hm (by decide +kernel : bootBuiltins "max" = some (.builtin "max")) ?_ (by decide) (by decide))
  refine PyProof.Rows.callWith_kw ?_ hbk hpl rfl rfl
  rw [hst]
  show wpAny _ _ (spliced ((false, eval e X.env) :: backTo pos (starEach [] X.env))) _ _ s
  refine Calls.spliced_cons (thn (he.run pins s σ H _ I hq) fun u s1 ⟨y, H1, I1, ry, l, zs, ls, ey, hs, ez, hls, hne, hT, q⟩ => Calls.spliced_nil ?_)
  subst ey
  obtain rfl : u = Value.ref l := ry
  show wpAny _ _ (evalAll ((do let v ← eval (.Lambda params (.Call (.Name "len" p1) [.Name v p2] [] p3) scope lpos) X.env; standAt pos; pure v) :: [])) _ _ s1
  refine wpAny_evalAll_cons (wpAny_bind (lam_new I1 TB hcode hmT hu hT hdef (fun y hy e => absurd e (hcl y hy).2) fun f c' pm ctv H2 s2 I2 lh T2 of2 hco2 => wpAny_bind (wpAny_standAt (wpAny_pure (wpAny_evalAll_nil ?_)))))
  -- the list and its tuples behind the lambda
  have ext := lh.ext
  have hs2 : SqL X.K H2 l zs := by
    rcases hs with (z | ⟨o, z⟩) | z
    · exact .inl (.inl (ext _ _ z fun _ q => by cases q))
    · exact .inl (.inr ⟨o, ext _ _ z fun _ q => by cases q⟩)
    · exact .inr z
  have hls2 : ∀ z ∈ ls, H2 z.1 = some (.tup z.2) := fun z hz => ext _ _ (hls z hz) fun _ q => by cases q
  obtain ⟨its, rv, pl, hz⟩ := I2.list hs2
  obtain ⟨mL, nsL, locL⟩ := id I2.loc
  obtain ⟨mF, frF⟩ := I2.fr
  have frL : PyProof.Rows.Fr X.base X.env.locals s2.heap mL := ⟨nsL, frF.keep, frF.above⟩
  have eIts : its = ls.map fun z => Value.ref z.1 := vals_refs_eq (by rw [← ez]; exact rv)
  have lenIts : its.length = ls.length := by rw [eIts, List.length_map]
  have at_ : ∀ (i : Nat) (u : Value), its[i]? = some u → ∃ z, ls[i]? = some z ∧ u = Value.ref z.1 := fun i u h => by
    rw [eIts, List.getElem?_map] at h
    cases q : ls[i]? with
    | none => rw [q] at h; cases h
    | some z => rw [q] at h; exact ⟨z, rfl, (Option.some.inj h).symm⟩
  obtain ⟨⟨oc, vs, tq, hoc, hdc, hvc⟩, _, _⟩ := I2.hok c' _ hco2
  have nL : ∀ (b : Addr) (w : HO), H2 b = some w → b ≠ X.env.locals := fun b w z e => by rw [e, I2.free] at z; cases z
  -- whatever stands behind the frame's own object
  have kept : ∀ h, PyProof.Rows.Fr X.base X.env.locals h mL → PyProof.Rows.News X.base X.env.locals h (restL s2.heap X.base X.env.locals) → ∀ b o, b ≠ X.env.locals → s2.heap.get? b = some o → h.get? b = some o := fun h F N b o hb e => by
    cases z : X.base.get? b with
    | none => exact (N (b, o) (mem_restL.mpr ⟨hb, z, e⟩)).1
    | some w =>
      have := frF.keep b w z
      rw [e] at this
      cases this
      exact F.keep b o z
  have N0 : PyProof.Rows.News X.base X.env.locals s2.heap (restL s2.heap X.base X.env.locals) := fun q hq => by
    obtain ⟨b, o⟩ := q
    obtain ⟨h1, h2, h3⟩ := mem_restL.mp hq
    exact ⟨h3, h1, h2⟩
  have lnL : l ≠ X.env.locals := by
    obtain ⟨o, ho, _, nn, hd⟩ := pl.isList
    intro z
    obtain ⟨o2, _, _, ho2, hd2, _⟩ := nsL
    rw [z, ho2] at ho
    cases ho
    rw [hd2] at hd
    cases hd
  have fnL : f ≠ X.env.locals := fun z => by
    obtain ⟨o2, _, _, ho2, hd2, _⟩ := nsL
    rw [z, ho2] at of2
    cases of2
    cases hd2
  show wpAny (model X.prog X.w) X.A (call (.builtin "max") [.ref l] [(Str.ofString "key", .ref f)]) (EP X pins σ Q) X.xe s2
  refine PyProof.Rows.kmk_max (fun i => (((ls.map fun z => z.2.length).getD i 0 : Nat) : Int)) (I2.ok.hd hcm) frL N0 (fun h F N => ?_) (by rw [lenIts]; exact hne) (fun i u hv h tk own F N => ?_) fun i u h' tk' hv hbest F N => ?_
  · obtain ⟨o, ho, rest⟩ := pl.isList
    exact ⟨o, kept h F N l o lnL ho, rest⟩
  · obtain ⟨z, hzi, rfl⟩ := at_ i u hv
    have N1 : PyProof.Rows.News X.base X.env.locals h (restL s2.heap X.base X.env.locals) := fun q hq => N q (List.mem_append_left _ hq)
    have kp := kept h F N1
    have hin := hls2 z (List.mem_of_getElem? hzi)
    obtain ⟨hzl, zits, zrv, ztup⟩ := I2.hok z.1 _ hin
    have zl := zrv.length
    have ztup2 : PyProof.Rows.IsTup h z.1 zits.toArray := by
      obtain ⟨o, ho, r⟩ := ztup
      exact ⟨o, kp _ o (nL _ _ hin) ho, r⟩
    have line := line63
    refine wpAny_call (codeAny_mono (len_call (sh := { s2 with heap := h, toks := tk }) (mg := X.mg) (by show X.A.depth < _; exact hgd) (kp f _ fnL of2) hk hco hgen ⟨oc, vs, tq, kp c' oc (nL _ _ hco2) hoc, hdc, hvc⟩ (fun y hy => (hcl y hy).1) hlv hlg hvd (hbind pm ctv c' _)
      (I2.mod.glob.keeps fun b o e => F.keep b o e) hml ?_ (I2.mod.nolimit.keeps fun b o e => F.keep b o e) ztup2 (by rw [List.size_toArray]; omega)) fun r s' hr => ?_)
    · obtain ⟨mb, b1, b2⟩ := I2.mod.blt
      exact ⟨mb, b1.keeps fun b o e => F.keep b o e, b2⟩
    · obtain ⟨h', tk', t', rfl, rfl, kp'⟩ := hr
      refine ⟨h', tk', t', rfl, ?_, ⟨F.ns.keeps kp', fun b o e => kp' b o (F.keep b o e), F.above⟩, fun q hq => ⟨kp' _ _ (N q hq).1, (N q hq).2⟩⟩
      have e1 : (ls.map fun z => z.2.length).getD i 0 = z.2.length := by
        rw [List.getD_eq_getElem?_getD, List.getElem?_map, hzi]
        rfl
      rw [e1, List.size_toArray, ← zl]
  · obtain ⟨z, hzi, rfl⟩ := at_ i u hv
    have kp := kept h' F N
    have J : L2.Inv X pins σ H2 { s2 with heap := h', toks := tk' } := by
      refine I2.step (g' := s2.gens) (d' := s2.drawn) (ch := []) (fun _ w => nomatch w) (fun b o hb _ _ e _ => kp b o hb e) (fun b o hb _ _ e _ => ⟨o.slots, kp b o hb e⟩) (fun _ _ _ _ n => n) (fun b o _ e => ?_) (fun _ _ e => e) (fun _ _ _ e => e) (fun b ps e => ⟨#[], by rw [e]; simp⟩) (fun m' hm' => ?_) (fun b w e => ?_) I2.bare
      · by_cases hb : b = X.env.locals
        · obtain ⟨o2, _, _, ho2, _⟩ := F.ns
          exact ⟨o2, by rw [hb]; exact ho2⟩
        · exact ⟨o, kp b o hb e⟩
      · have em : m' = mL := funext fun nm => hm'.agree nsL nm
        rw [em]
        exact F.ns
      · refine (I2.hok b w e).stay (fun c v hc q => kp c v ?_ q) (fun _ q => q) fun _ _ q => q
        rcases hc with y | y
        · rw [y]; exact nL b w e
        · exact nL c _ y
    refine ⟨.ref z.1, H2, J, rfl, q H2 i z lh T2 hzi fun j y hj => ?_⟩
    have hlt : j < its.length := by rw [lenIts]; exact (List.getElem?_eq_some_iff.mp hj).1
    obtain ⟨b1, b2⟩ := hbest j hlt
    have e1 : (ls.map fun z => z.2.length).getD i 0 = z.2.length := by
      rw [List.getD_eq_getElem?_getD, List.getElem?_map, hzi]
      rfl
    have e2 : (ls.map fun z => z.2.length).getD j 0 = y.2.length := by
      rw [List.getD_eq_getElem?_getD, List.getElem?_map, hj]
      rfl
    rw [e1, e2] at b1 b2
    exact ⟨by omega, fun hji => by have := b2 hji; omega⟩

/-! ### by mirrors -/
def maxFrom : List D → List D → Option D
  | b, [] => some (.tup b)
  | b, .tup x :: r => if b.length < x.length then maxFrom x r else maxFrom b r
  | _, _ => none
def maxT : List D → Option D
  | .tup b :: r => maxFrom b r
  | _ => none
/-- d is the first longest of the tuples ds -/
structure First (ds : List D) (i : Nat) (b : List D) : Prop where
  at_ : ds[i]? = some (.tup b)
  all : ∀ (j : Nat) (y : D), ds[j]? = some y → ∃ z, y = .tup z ∧ z.length ≤ b.length ∧ (j < i → z.length < b.length)
theorem maxFrom_first : ∀ (r : List D) (pre : List D) (i : Nat) (b : List D) (d : D), First pre i b → maxFrom b r = some d → ∃ j b', d = .tup b' ∧ First (pre ++ r) j b'
  | [], pre, i, b, d, h, e => by
    cases e
    exact ⟨i, b, rfl, by rw [List.append_nil]; exact h⟩
  | .tup x :: r, pre, i, b, d, h, e => by
    have e' : (if b.length < x.length then maxFrom x r else maxFrom b r) = some d := e
    have app : pre ++ D.tup x :: r = (pre ++ [D.tup x]) ++ r := by simp
    have split_at : ∀ (j : Nat) (y : D), (pre ++ [D.tup x])[j]? = some y → pre[j]? = some y ∨ (j = pre.length ∧ y = D.tup x) := fun j y hj => by
      by_cases hl : j < pre.length
      · rw [List.getElem?_append_left hl] at hj
        exact .inl hj
      · rw [List.getElem?_append_right (by omega)] at hj
        have := (List.getElem?_eq_some_iff.mp hj).1
        have ej : j = pre.length := by simp at this; omega
        subst ej
        simp at hj
        exact .inr ⟨rfl, hj.symm⟩
    have hi := (List.getElem?_eq_some_iff.mp h.at_).1
    rw [app]
    by_cases hlt : b.length < x.length
    · rw [if_pos hlt] at e'
      refine maxFrom_first r (pre ++ [D.tup x]) pre.length x d ⟨by simp, fun j y hj => ?_⟩ e'
      rcases split_at j y hj with h1 | ⟨h1, h2⟩
      · obtain ⟨z, e1, e2, _⟩ := h.all j y h1
        exact ⟨z, e1, by omega, fun _ => by omega⟩
      · exact ⟨x, h2, Nat.le_refl _, fun hj2 => by omega⟩
    · rw [if_neg hlt] at e'
      refine maxFrom_first r (pre ++ [D.tup x]) i b d ⟨by rw [List.getElem?_append_left hi]; exact h.at_, fun j y hj => ?_⟩ e'
      rcases split_at j y hj with h1 | ⟨h1, h2⟩
      · exact h.all j y h1
      · exact ⟨x, h2, by omega, fun hj2 => by omega⟩
  | .non :: _, _, _, _, _, _, e => by cases e
  | .bl _ :: _, _, _, _, _, _, e => by cases e
  | .int _ :: _, _, _, _, _, _, e => by cases e
  | .str _ :: _, _, _, _, _, _, e => by cases e
  | .lst _ :: _, _, _, _, _, _, e => by cases e
  | .dic _ _ :: _, _, _, _, _, _, e => by cases e
  | .ins _ _ :: _, _, _, _, _, _, e => by cases e
  | .ref _ :: _, _, _, _, _, _, e => by cases e
  | .scr _ :: _, _, _, _, _, _, e => by cases e
theorem maxT_first {ds : List D} {d : D} (h : maxT ds = some d) : ∃ j b, d = .tup b ∧ First ds j b := by
  cases ds with
  | nil => cases h
  | cons x r =>
    cases x with
    | tup b => exact maxFrom_first r [.tup b] 0 b d ⟨rfl, fun j y hj => by
        cases j with
        | zero => simp at hj; exact ⟨b, hj.symm, Nat.le_refl _, fun z => by omega⟩
        | succ j => simp at hj⟩ h
    | _ => cases h
/-- the tuples behind a list -/
theorem tups_of {ms : Ms} {H : Hp} : ∀ {ds : List D} {vs : List V}, Reps T ms H ds vs → (∀ d ∈ ds, ∃ z, d = .tup z) → ∃ ls : List (Addr × List V), vs = ls.map (fun z => V.ref z.1) ∧ (∀ z ∈ ls, H z.1 = some (.tup z.2)) ∧ ls.length = ds.length ∧ ∀ (i : Nat) (z : Addr × List V) (b : List D), ls[i]? = some z → ds[i]? = some (.tup b) → z.2.length = b.length ∧ Rep T ms H (.tup b) (.ref z.1)
  | [], vs, r, _ => by
    cases r
    exact ⟨[], rfl, fun z hz => by simp at hz, rfl, fun i z b h => by simp at h⟩
  | d :: ds, vs, r, h => by
    obtain ⟨v, w, rfl, r1, r2⟩ := r
    obtain ⟨ls, e1, e2, e3, e4⟩ := tups_of r2 fun y hy => h y (List.mem_cons_of_mem _ hy)
    obtain ⟨z, rfl⟩ := h d List.mem_cons_self
    obtain ⟨a, us, rfl, ha, ru⟩ := id r1
    refine ⟨(a, us) :: ls, by rw [e1]; rfl, fun y hy => ?_, by rw [List.length_cons, List.length_cons, e3], fun i y b h1 h2 => ?_⟩
    · rcases List.mem_cons.mp hy with rfl | hy
      · exact ha
      · exact e2 y hy
    · cases i with
      | zero =>
        simp at h1 h2
        subst h1 h2
        exact ⟨ru.len, r1⟩
      | succ i => exact e4 i y b (by simpa using h1) (by simpa using h2)
theorem LamH.stp {ms : Ms} {H H1 : Hp} {P : Addr} {q : Str} (h : LamH H H1 P q) : Stp ms H ms H1 :=
  ⟨⟨[], by simp, fun _ h => by cases h⟩, ⟨fun _ h => h, fun _ h => .inl h⟩, fun a o e _ nt => h.ext a o e nt, fun a vs e => h.ext a _ e (fun _ z => by cases z), h.there⟩
theorem LamH.cf {ms : Ms} {H H1 : Hp} {G : GH} {P : Addr} {q : Str} (h : LamH H H1 P q) (c : Cf T ms H G) (tb : LamX.Tabs T.tbs H1) : Cf T ms H1 G :=
  ⟨c.nd, c.len, fun a z w => c.hd a z (h.there a w), fun i o a hi ha => MRep.tr (LamH.stp h).tr (fun u z nt => h.ext a u z nt) (c.obj i o a hi ha), tb⟩
def fMaxLen (f : F) : F := fun ρ G => (f ρ G).bnd fun d G1 => match vw G1 d with
  | .lst ds => oSome (maxT ds) G1
  | _ => .st
theorem j_maxLen {cc P : Addr} {params : Arguments} {scope : Scope} {v : Str} {p1 p2 p3 lpos kpos : Pos} {k : Nat} (B : Bd X T W k) (TB : LamX.TabB X.base X.mg cc P) (hcode : X.env.code = .ref cc) (hT : T.tbs = [(P, X.env.qual ++ "<lambda>")]) (he : JE X T W e fa) (hg : Gl X "max") (hm : X.mg "max" = none) (hml : X.mg "len" = none)
    (hdef : defaultsOf params X.env = ([], []) := by rfl) (hk : scope.kind = .function := by rfl) (hco : scope.isCoroutine = false := by rfl) (hgen : scope.isGenerator = false := by rfl) (hcl : ∀ y ∈ scope.names, y.2 ≠ .cell ∧ y.2 ≠ .free := by decide +kernel) (hlv : scope.names.lookup v = some .local := by rfl)
    (hlg : scope.names.lookup ("len" : Str) = some .globalImplicit := by rfl) (hvd : (v == ("__debug__" : Str)) = false := by decide)
    (hbind : ∀ (pm ctv : Value) (c' : Addr) (cl : List (Str × Addr)) (u : Value), bindArgs (PySem.W.kla_fn "<lambda>" (X.env.qual ++ "<lambda>") params (.Call (.Name "len" p1) [.Name v p2] [] p3) scope cl pm (.ref c') ctv) ⟨[u], []⟩ = pure [(v, u)] := by intros; rfl)
    (hbk : backTo pos (starEach [e] X.env) = (false, eval e X.env) :: backTo pos (starEach [] X.env) := by rfl) (hpl : (backTo pos (starEach [e] X.env)).any (·.1) = false := by rfl) (hst : starEach [e] X.env = (false, eval e X.env) :: starEach [] X.env := by rfl) :
    JE X T W (.Call (.Name "max" p) [e] [⟨some "key", .Lambda params (.Call (.Name "len" p1) [.Name v p2] [] p3) scope lpos, kpos⟩] pos) (fMaxLen fa) :=
  PE.imp (pe_maxLen (Tb := T.tbs) B.cm B.rm.depth TB hcode (by rw [hT]; exact List.mem_singleton.mpr rfl) (fun q hq _ => by rw [hT] at hq; rw [List.mem_singleton.mp hq]) he hg hm hml hdef hk hco hgen hcl hlv hlg hvd hbind hbk hpl hst) fun σ H Q ⟨ρ, ms, G, he, hc, h⟩ =>
    ⟨ρ, ms, G, he, hc, (OkG.bnd h).imp fun x H1 ⟨d, G1, ms1, _, s1, r1, c1, h1⟩ => by
      split at h1
      · rename_i ds e1
        obtain ⟨y, hy, h1⟩ := oSome_of h1
        obtain ⟨i0, b0, rfl, F0⟩ := maxT_first hy
        obtain ⟨a, vs, rfl, ha, rs⟩ := vw_lst c1 r1 e1
        obtain ⟨ls, t1, t2, t3, t4⟩ := tups_of rs fun d hd => by
          obtain ⟨j, hj⟩ := List.mem_iff_getElem?.mp hd
          obtain ⟨z, e2, _⟩ := F0.all j d hj
          exact ⟨z, e2⟩
        have hi0 := (List.getElem?_eq_some_iff.mp F0.at_).1
        refine ⟨a, vs, ls, rfl, .of ha, t1, t2, by omega, c1.tb, fun H2 i z lh tb hz hmax => ?_⟩
        have hi := (List.getElem?_eq_some_iff.mp hz).1
        obtain ⟨di, hdi⟩ : ∃ di, ds[i]? = some di := ⟨ds[i]'(by omega), List.getElem?_eq_getElem _⟩
        obtain ⟨bi, ebi, l1, l2⟩ := F0.all i di hdi
        subst ebi
        obtain ⟨m1, m2⟩ := t4 i z bi hz hdi
        obtain ⟨z0, hz0⟩ : ∃ z0, ls[i0]? = some z0 := ⟨ls[i0]'(by omega), List.getElem?_eq_getElem _⟩
        obtain ⟨n1, _⟩ := t4 i0 z0 b0 hz0 F0.at_
        obtain ⟨q1, q2⟩ := hmax i0 z0 hz0
        have eii : i = i0 := by
          rcases Nat.lt_trichotomy i i0 with hl | hl | hl
          · have := l2 hl
            omega
          · exact hl
          · have := q2 hl
            omega
        subst eii
        have eb : D.tup bi = D.tup b0 := Option.some.inj (hdi.symm.trans F0.at_)
        cases eb
        exact h1 _ H2 ms1 lh.stp (Rep.mono lh.stp _ _ m2) (lh.cf c1 tb)
      · exact h1.elim⟩
end DL

set_option Elab.async false
set_option linter.all false
set_option maxRecDepth 100000
set_option maxHeartbeats 2000000
set_option autoImplicit false
namespace DL
open PySem L2 PyProof.Rows
variable {X : Cx} {T : TC} {W : WX} {a b c e o : Expr} {es : List Expr} {fa fb fc : F} {pos p apos cpos : Pos} {st : Stmt} {k n : Nat} {x m : Str}
/-! ### repr(x) == repr(y), told without the text -/
mutual
def same : D → D → Bool
  | .non, .non => true
  | .bl a, .bl b => a == b
  | .int i, .int j => decide (i = j)
  | .tup xs, .tup ys => sames xs ys
  | .lst xs, .lst ys => sames xs ys
  | _, _ => false
def sames : List D → List D → Bool
  | [], [] => true
  | x :: xs, y :: ys => same x y && sames xs ys
  | _, _ => false
end
mutual
theorem same_eq : ∀ (x y : D), same x y = true → x = y
  | .non, .non, _ => rfl
  | .bl a, .bl b, h => by rw [beq_iff_eq.mp (show (a == b) = true from h)]
  | .int i, .int j, h => by rw [of_decide_eq_true (show decide (i = j) = true from h)]
  | .tup xs, .tup ys, h => by rw [sames_eq xs ys h]
  | .lst xs, .lst ys, h => by rw [sames_eq xs ys h]
  | .str _, y, h => by cases y <;> simp [same] at h
  | .dic _ _, y, h => by cases y <;> simp [same] at h
  | .ins _ _, y, h => by cases y <;> simp [same] at h
  | .ref _, y, h => by cases y <;> simp [same] at h
  | .scr _, y, h => by cases y <;> simp [same] at h
  | .non, .bl _, h | .non, .int _, h | .non, .str _, h | .non, .tup _, h | .non, .lst _, h | .non, .dic _ _, h | .non, .ins _ _, h | .non, .ref _, h | .non, .scr _, h => by simp [same] at h
  | .bl _, .non, h | .bl _, .int _, h | .bl _, .str _, h | .bl _, .tup _, h | .bl _, .lst _, h | .bl _, .dic _ _, h | .bl _, .ins _ _, h | .bl _, .ref _, h | .bl _, .scr _, h => by simp [same] at h
  | .int _, .non, h | .int _, .bl _, h | .int _, .str _, h | .int _, .tup _, h | .int _, .lst _, h | .int _, .dic _ _, h | .int _, .ins _ _, h | .int _, .ref _, h | .int _, .scr _, h => by simp [same] at h
  | .tup _, .non, h | .tup _, .bl _, h | .tup _, .str _, h | .tup _, .int _, h | .tup _, .lst _, h | .tup _, .dic _ _, h | .tup _, .ins _ _, h | .tup _, .ref _, h | .tup _, .scr _, h => by simp [same] at h
  | .lst _, .non, h | .lst _, .bl _, h | .lst _, .str _, h | .lst _, .int _, h | .lst _, .tup _, h | .lst _, .dic _ _, h | .lst _, .ins _ _, h | .lst _, .ref _, h | .lst _, .scr _, h => by simp [same] at h
theorem sames_eq : ∀ (xs ys : List D), sames xs ys = true → xs = ys
  | [], [], _ => rfl
  | x :: xs, y :: ys, h => by
    have h' : (same x y && sames xs ys) = true := h
    rw [Bool.and_eq_true] at h'
    rw [same_eq x y h'.1, sames_eq xs ys h'.2]
  | [], _ :: _, h => by simp [sames] at h
  | _ :: _, [], h => by simp [sames] at h
end
mutual
/-- none, bools, ints of few digits, and what is made of them -/
def sm : D → Bool
  | .non => true
  | .bl _ => true
  | .int i => decide (-10 ^ 12 < i) && decide (i < 10 ^ 12)
  | .tup ds => sms ds
  | .lst ds => sms ds
  | _ => false
def sms : List D → Bool
  | [] => true
  | d :: ds => sm d && sms ds
end
theorem int_short {i : Int} (h1 : -10 ^ 12 < i) (h2 : i < 10 ^ 12) : (Str.ofString (toString i)).length ≤ 13 := by
  cases i with
  | ofNat q => exact Nat.le_trans (toString_length_le (k := 12) (Int.natCast_nonneg q) (by decide) h2) (by decide)
  | negSucc q =>
    have h := toString_length_le (v := ((q + 1 : Nat) : Int)) (k := 12) (Int.natCast_nonneg _) (by decide) (by omega)
    rw [PySem.ofString_length] at h ⊢
    have e1 : toString (Int.negSucc q) = "-" ++ toString ((q + 1 : Nat) : Int) := rfl
    rw [e1, String.length_append]
    have e2 : ("-" : String).length = 1 := by decide
    omega
mutual
theorem sm_leaf : ∀ d : D, sm d = true → (py d).leavesShort 13 = true
  | .non, _ => rfl
  | .bl _, _ => rfl
  | .int i, h => by
    have h' : (decide (-10 ^ 12 < i) && decide (i < 10 ^ 12)) = true := h
    rw [Bool.and_eq_true, decide_eq_true_eq, decide_eq_true_eq] at h'
    exact decide_eq_true (int_short h'.1 h'.2)
  | .tup ds, h => sms_leaf ds h
  | .lst ds, h => sms_leaf ds h
  | .str _, h | .dic _ _, h | .ins _ _, h | .ref _, h | .scr _, h => by simp [sm] at h
theorem sms_leaf : ∀ ds : List D, sms ds = true → PyData.leavesShortAll 13 (pys ds) = true
  | [], _ => rfl
  | d :: ds, h => by
    have h' : (sm d && sms ds) = true := h
    rw [Bool.and_eq_true] at h'
    show (PyData.leavesShort 13 (py d) && PyData.leavesShortAll 13 (pys ds)) = true
    rw [sm_leaf d h'.1, sms_leaf ds h'.2]
    rfl
end
/-- what repr takes, told without the text -/
def rpOk (d : D) : Bool := isPy d && (py d).showable && !(py d).hasDict && decide ((py d).depth ≤ 60) && sm d && decide ((py d).bulk ≤ 100000)
theorem rpOk_of {d : D} (h : rpOk d = true) : (isPy d && (py d).showable && !(py d).hasDict && decide ((py d).depth ≤ 60) && decide ((py d).shown.length ≤ sizeLine)) = true := by
  unfold rpOk at h
  rw [Bool.and_eq_true, Bool.and_eq_true, decide_eq_true_eq] at h
  rw [h.1.1, Bool.true_and, decide_eq_true_eq]
  exact PyData.shown_fits_bulk (by decide) (by decide) (sm_leaf d h.1.2) (Nat.le_trans h.2 (by decide))
def rpV (G : GH) : D → Option D
  | .tup ds => if rpOk (.tup ds) then some (.tup ds) else none
  | d => match vw G d with
    | .lst ds => if rpOk (.lst ds) then some (.lst ds) else none
    | _ => none
theorem rpV_of {G : GH} {d x : D} (h : rpV G d = some x) : gRepr [d] G = .ok (.str (py x).shown) G := by
  cases d with
  | tup ds =>
    have h' : (if rpOk (.tup ds) = true then some (D.tup ds) else none) = some x := h
    split at h'
    · rename_i q
      cases h'
      exact if_pos (rpOk_of q)
    · cases h'
  | _ =>
    simp only [rpV] at h
    split at h
    · rename_i ds e
      split at h
      · rename_i q
        cases h
        first
          | (simp only [gRepr, one1, e]; exact if_pos (rpOk_of q))
          | (simp [vw] at e)
      · cases h
    · cases h
def oEqS : D → D → GH → R D := fun x y G => match x, y with
  | .str a, .str b => .ok (.bl (decide (a = b))) G
  | _, _ => .st
theorem od_eqS : OpD T rEq oEqS := fun W ms H G x y dx dy Q rx ry c h => by
  cases dx with
  | str a =>
    cases dy with
    | str b =>
      cases rx
      cases ry
      have e : decide (V.str a = V.str b) = decide (a = b) := by simp
      exact ⟨rfl, h _ H ms (Stp.refl _ _) (congrArg V.bl e) c⟩
    | _ => exact h.elim
  | _ => exact h.elim
def fReprEq (fa fb : F) : F := fun ρ G => (fa ρ G).bnd fun x G1 => match rpV G1 x with
  | some x' => (fb ρ G1).bnd fun y G2 => (match rpV G2 y with
    | some y' => if same x' y' then .ok (.bl true) G2 else .st
    | none => .st)
  | none => .st
theorem reprEq_of (ρ : Env) (G : GH) : fReprEq fa fb ρ G = .st ∨ fBin oEqS (fBi gRepr (fCons fa fNil)) (fBi gRepr (fCons fb fNil)) ρ G = fReprEq fa fb ρ G := by
  unfold fReprEq fBin fBi fCons fNil
  cases fa ρ G with
  | st => exact .inl rfl
  | ex e G1 => exact .inr rfl
  | ok x G1 =>
    simp only [R.bnd]
    cases q1 : rpV G1 x with
    | none => exact .inl rfl
    | some x' =>
      rw [rpV_of q1]
      simp only []
      cases fb ρ G1 with
      | st => exact .inl rfl
      | ex e G2 => exact .inr rfl
      | ok y G2 =>
        simp only []
        cases q2 : rpV G2 y with
        | none => exact .inl rfl
        | some y' =>
          rw [rpV_of q2]
          simp only []
          by_cases hs : same x' y' = true
          · right
            rw [if_pos hs, same_eq _ _ hs]
            show R.ok (D.bl (decide ((py y').shown = (py y').shown))) G2 = _
            rw [decide_eq_true rfl]
          · exact .inl (if_neg hs)
/-- a mirror that says less -/
theorem JE.less {f g : F} (h : JE X T W e f) (q : ∀ ρ G, g ρ G = .st ∨ f ρ G = g ρ G) : JE X T W e g := PE.imp h fun σ H Q ⟨ρ, ms, G, he, hc, z⟩ => by
  rcases q ρ G with q | q
  · rw [q] at z; exact z.elim
  · exact ⟨ρ, ms, G, he, hc, by rw [q]; exact z⟩
theorem j_eqS (ha : JE X T W a fa) (hb : JE X T W b fb) : JE X T W (.Compare a [.Eq] [b] pos) (fBin oEqS fa fb) := j_cmp op_eq od_eqS ha hb
theorem j_fCallLess {prm : List Nat} {m m' : FM} {fs : FA} (h : JE X T W e (fCall prm m fs)) (q : ∀ ds G, m' ds G = .st ∨ m ds G = m' ds G) : JE X T W e (fCall prm m' fs) := JE.less h fun ρ G => by
  unfold fCall
  cases fs ρ G with
  | st => exact .inr rfl
  | ex e G1 => exact .inr rfl
  | ok ds G1 =>
    show (if (sel prm ds).length = prm.length then m' (sel prm ds) G1 else R.st) = .st ∨ (if (sel prm ds).length = prm.length then m (sel prm ds) G1 else R.st) = (if (sel prm ds).length = prm.length then m' (sel prm ds) G1 else R.st)
    split
    · exact q _ _
    · exact .inr rfl
theorem j_reprEq (h : JE X T W e (fBin oEqS (fBi gRepr (fCons fa fNil)) (fBi gRepr (fCons fb fNil)))) : JE X T W e (fReprEq fa fb) := JE.less h reprEq_of
/-! ### a frozen value stays -/
def vl : Nat → D → Bool
  | 0, _ => false
  | n + 1, .tup ds => ds.all (vl n)
  | n + 1, .lst ds => ds.all (vl n)
  | n + 1, .ins _ ds => ds.all (vl n)
  | _ + 1, .int _ => true
  | _ + 1, .bl _ => true
  | _ + 1, .str _ => true
  | _ + 1, _ => false
theorem allO_id {f : D → Option D} : ∀ {ds : List D}, (∀ d ∈ ds, f d = some d) → allO f ds = some ds
  | [], _ => rfl
  | d :: ds, h => by
    have e1 := h d List.mem_cons_self
    have e2 := allO_id (f := f) (ds := ds) fun y hy => h y (List.mem_cons_of_mem _ hy)
    simp [allO, e1, e2]
theorem frz_vl {G : GH} : ∀ {n : Nat} {d : D}, vl n d = true → frz n G d = some d := by
  intro n
  induction n with
  | zero => intro d h; cases h
  | succ n ih =>
    intro d h
    cases d with
    | tup ds =>
      have h' : ds.all (vl n) = true := h
      have e := allO_id (f := frz n G) fun y hy => ih (List.all_eq_true.mp h' y hy)
      simp [frz, vw, e]
    | lst ds =>
      have h' : ds.all (vl n) = true := h
      have e := allO_id (f := frz n G) fun y hy => ih (List.all_eq_true.mp h' y hy)
      simp [frz, vw, e]
    | ins c ds =>
      have h' : ds.all (vl n) = true := h
      have e := allO_id (f := frz n G) fun y hy => ih (List.all_eq_true.mp h' y hy)
      simp [frz, vw, e]
    | int i => simp [frz, vw]
    | bl b => simp [frz, vw]
    | str x => simp [frz, vw]
    | _ => cases h
theorem pureZ_vl {m : FM} {ds : List D} {G G' : GH} {r : D} (h : ds.all (vl frzN) = true) (hm : m ds [] = .ok r G') (hf : flat r = true) : pureZ m ds G = .ok r G := by
  have e := allO_id (f := frz frzN G) fun y hy => frz_vl (List.all_eq_true.mp h y hy)
  unfold pureZ
  rw [e]
  simp only [hm, flatR]
  rw [if_pos hf]
end DL

set_option Elab.async false
set_option linter.all false
set_option maxRecDepth 100000
set_option maxHeartbeats 2000000
set_option autoImplicit false
namespace DL
open PySem L2 PySem.Spec PyProof.Rows
/-- where the call stands: the heap, the script, the tables -/
structure Site (K : PySem.W.Frag) (mg : Str → Option Value) (h : Heap) (a : Addr) (us : List Value) (ns : List Int) (tb : List Addr) : Prop where
  own : K.In h
  main : h.Ns mainGlobals mg
  bn : ∃ mb : Str → Option Value, h.Ns builtinsNs mb ∧ ∀ x : Str, x ≠ "__name__" → mb x = bootBuiltins x
  lim : h.NoLimit
  bm : ∃ (b : Addr) (o : Obj), mg "__builtins__" = some (.ref b) ∧ b ≠ builtinsNs ∧ h.get? b = some o ∧ o.cls = .type "module" ∧ o.dict = some builtinsNs ∧ o.data = .plain
  scr : h.get? a = some { cls := .type "list", data := .seq us.toArray }
  isInts : IntsAre us ns
  few : ns.length ≤ sizeLine
  emp : ∀ p ∈ tb, h.get? p = some { cls := .none, data := .fields #[] }
  notK : ∀ p ∈ tb, K.lookup p = none
section
variable {P : Program} {w : World} {K : PySem.W.Frag} {mg : Str → Option Value} {h : Heap} {a : Addr} {us : List Value} {ns : List Int} {tb : List Addr}
/-- what is tracked at the start: the script, unless it is the text's own, and the tables -/
def hp0 (K : PySem.W.Frag) (a : Addr) (us : List Value) (ns : List Int) (tb : List Addr) : Hp := fun b =>
  if b ∈ tb then some (.tbl #[]) else if b = a ∧ K.lookup a = none then some (.frz { cls := .type "list", data := .seq us.toArray } (.lst (ns.map V.int))) else none
theorem hp0_tb {b : Addr} (m : b ∈ tb) : hp0 K a us ns tb b = some (.tbl #[]) := if_pos m
theorem hp0_some {b : Addr} {u : HO} (e : hp0 K a us ns tb b = some u) : (b ∈ tb ∧ u = .tbl #[]) ∨ (b = a ∧ K.lookup a = none ∧ u = .frz { cls := .type "list", data := .seq us.toArray } (.lst (ns.map V.int))) := by
  unfold hp0 at e
  split at e
  · rename_i m
    exact .inl ⟨m, (Option.some.inj e).symm⟩
  · split at e
    · rename_i m
      exact .inr ⟨m.1, m.2, (Option.some.inj e).symm⟩
    · cases e
/-- an object that is no list and no table is not tracked -/
theorem hp0_off (S : Site K mg h a us ns tb) {b : Addr} {o : Obj} (e : h.get? b = some o) (n1 : ∀ vs n, o.data ≠ .seq vs n) (n2 : o.data ≠ .fields #[]) : hp0 K a us ns tb b = none := by
  cases q : hp0 K a us ns tb b with
  | none => rfl
  | some u =>
    exfalso
    rcases hp0_some q with ⟨m, _⟩ | ⟨rfl, _⟩
    · have z := (S.emp b m).symm.trans e
      cases z
      exact n2 rfl
    · have z := S.scr.symm.trans e
      cases z
      exact n1 _ _ rfl
theorem hp0_ns (S : Site K mg h a us ns tb) {b : Addr} {f : Str → Option Value} (n : h.Ns b f) : (hidT h (hp0 K a us ns tb)).Ns b f := by
  obtain ⟨o, es, ep, e, d, r⟩ := n
  exact ⟨o, es, ep, hidT_get e (hp0_off S e (fun _ _ z => by rw [d] at z; cases z) fun z => by rw [d] at z; cases z), d, r⟩
theorem hp0_own (S : Site K mg h a us ns tb) : K.In (hidT h (hp0 K a us ns tb)) := fun b o e => by
  refine hidT_get (S.own b o e) ?_
  cases q : hp0 K a us ns tb b with
  | none => rfl
  | some u =>
    exfalso
    rcases hp0_some q with ⟨m, _⟩ | ⟨rfl, n, _⟩
    · rw [S.notK b m] at e; cases e
    · rw [n] at e; cases e
theorem hp0_mod (S : Site K mg h a us ns tb) : L2.Mod K mg (hidT h (hp0 K a us ns tb)) :=
  ⟨hp0_own S, hp0_ns S S.main, let ⟨mb, n, r⟩ := S.bn; ⟨mb, hp0_ns S n, r⟩, let ⟨mc, n, r⟩ := S.lim; ⟨mc, hp0_ns S n, r⟩⟩
theorem hp0_ok (S : Site K mg h a us ns tb) : HOk P w (hp0 K a us ns tb) h := fun b u e => by
  rcases hp0_some e with ⟨m, rfl⟩ | ⟨rfl, _, rfl⟩
  · exact S.emp b m
  · exact ⟨S.scr, by rw [List.length_map]; exact S.few, us, _, vals_ints S.isInts, S.scr⟩
/-- a table and its code object, from where the tracked is hidden -/
theorem hp0_tab (S : Site K mg h a us ns tb) {c p : Addr} (m : p ∈ tb) (C : PySem.W.CodeHd h c p) : LamX.TabB (hidT h (hp0 K a us ns tb)) mg c p := by
  have hp := S.emp p m
  obtain ⟨o, vs, r1, r2, r3, r4, r5, r6, r7, e, q1, q2, q⟩ := C
  obtain ⟨b, ob, b1, b2, b3, b4, b5, b6⟩ := S.bm
  obtain ⟨om, es, ep, em, dm, _⟩ := S.main
  have main_ne : mainGlobals ≠ p := fun z => by
    rw [z, hp] at em
    cases em
    cases dm
  refine ⟨⟨o, vs, r1, r2, r3, r4, r5, r6, r7, hidT_get e (hp0_off S e (fun _ _ z => by rw [q2] at z; cases z) fun z => ?_), q1, q2, q⟩,
    ⟨b, ob, b1, b2, fun z => ?_, fun z => ?_, hidT_get b3 (hp0_off S b3 (fun _ _ z => by rw [b6] at z; cases z) fun z => by rw [b6] at z; cases z), b4, b5, b6⟩, main_ne⟩
  · rw [q2] at z
    cases z
    simp at q
  · rw [z, em] at b3
    cases b3
    rw [dm] at b6
    cases b6
  · rw [z, hp] at b3
    cases b3
    cases b6
/-- the script's value -/
theorem hp0_scr (S : Site K mg h a us ns tb) {T : TC} (hK : T.K = K) : Rep T ⟨[], []⟩ (hp0 K a us ns tb) (.scr ns) (.ref a) := by
  refine ⟨a, rfl, ?_⟩
  cases k : K.lookup a with
  | none =>
    refine .inl ⟨_, (if_neg fun m => ?_).trans (if_pos ⟨rfl, k⟩), by simp [Out]⟩
    have z := (S.emp a m).symm.trans S.scr
    cases z
  | some o =>
    have z := (S.own a o k).symm.trans S.scr
    cases z
    exact .inr fun H' => .inr ⟨_, us.toArray, _, by rw [hK]; exact k, rfl, rfl, rfl, by rw [List.size_toArray, S.isInts.length]; exact S.few, by simpa using vals_ints S.isInts⟩
theorem hp0_tabs {T : TC} (ht : ∀ p ∈ T.tbs, p.1 ∈ tb) : LamX.Tabs T.tbs (hp0 K a us ns tb) := fun p m => .nil (hp0_tb (ht p m))
/-- THE CALL of the law: its mirror answers True -/
theorem call_d {T : TC} {k : Nat} {fa : Addr} {fd : FuncData} {x : Str} {m : FM} {s : Shared} (S : Site K mg s.heap a us ns tb) (hK : T.K = K) (hg : s.gens = #[]) (hr : Room k callerA) (ht : ∀ p ∈ T.tbs, p.1 ∈ tb)
    (hc : ∀ p ∈ tb, ∃ c, PySem.W.CodeHd s.heap c p) (F : FnG P w K mg (hidT s.heap (hp0 K a us ns tb)) k fa fd [x] (spD T 1 m)) (hb : BindsTo s fd ⟨[.ref a], []⟩ [(x, .ref a)]) {G : GH} (law : m [.scr ns] [] = .ok (.bl true) G) :
    codeAny (model P w) callerA (.call (.ref fa) ⟨[.ref a], []⟩) (fun r s' => r = .ok (.ret (.bool true)) ∧ OldK s.heap s'.heap ∧ s'.os = s.os ∧ AllBare s'.gens) s := by
  have ok : HOk P w (hp0 K a us ns tb) s.heap := hp0_ok S
  have env : Env0 P w K mg (hidT s.heap (hp0 K a us ns tb)) callerA [] s (hp0 K a us ns tb) :=
    ⟨rfl, hp0_mod S, fun _ _ e => of_hidT e, Nat.le_of_eq (hidT_size _ _), trivial, fun _ z => by simp [frs] at z, ok, .of_eq hg⟩
  have sp : spD T 1 m [.ref a] (hp0 K a us ns tb) (fun v _ => v = .bl true) (fun _ _ _ => False) := by
    refine ⟨rfl, [.scr ns], ⟨[], []⟩, [], ⟨_, _, rfl, hp0_scr S hK, rfl⟩, .nil (hp0_tabs ht), ?_⟩
    rw [law]
    intro v H1 ms1 _ r _
    exact r
  refine codeAny_mono (F.run callerA [] s _ ⟨[.ref a], []⟩ [.ref a] [.ref a] _ _ rfl hr env hb (.cons rfl .nil) sp) fun r s' z => ?_
  match r, z with
  | .ok (.ret u), ⟨v, H', os, bare, un, ok', rv, e⟩ =>
    subst e
    obtain rfl : u = Value.bool true := rv
    have off : ∀ b o, b ∉ tb → s.heap.get? b = some o → s'.heap.get? b = some o := fun b o nb e => by
      cases q : hp0 K a us ns tb b with
      | none => exact un.keep b o e q (by simp [frs]) (by simp)
      | some u =>
        rcases hp0_some q with ⟨m, _⟩ | ⟨rfl, _, rfl⟩
        · exact absurd m nb
        · have e' := (ok' _ _ (un.frzs _ _ _ q)).1
          rw [S.scr] at e
          cases e
          exact e'
    refine ⟨rfl, ⟨fun b o e => ?_, fun b o e => ?_⟩, os, bare⟩
    · by_cases mb : b ∈ tb
      · obtain ⟨c, C⟩ := hc b mb
        obtain ⟨more, e'⟩ := un.tbls b _ (hp0_tb mb)
        have z := (S.emp b mb).symm.trans e
        cases z
        exact .inr (.inl ⟨(C.tab (S.emp b mb)).isCodeTable, rfl, #[], more, rfl, ok' b _ e'⟩)
      · exact .inl (off b o mb e)
    · by_cases mb : b ∈ tb
      · obtain ⟨more, e'⟩ := un.tbls b _ (hp0_tb mb)
        exact ⟨_, ok' b _ e'⟩
      · exact ⟨o, off b o mb e⟩
  | .ok .next, z => exact z.elim
  | .ok .brk, z => exact z.elim
  | .ok .cont, z => exact z.elim
  | .error e, z => obtain ⟨_, _, _, _, _, _, _, _, _, _, _, _, z⟩ := z; exact z.elim
end
/-- what is asked of the law at the head's heap: cs, the code objects and their tables -/
def LawD (l : PySem.W.OpenLaw) (w : World) (K : PySem.W.Frag) (k : Nat) (x : Str) (m : FM) (mg : Str → Option Value) (fa : Addr) (h : Heap) : Prop :=
  ∃ (fd : FuncData) (cs : List (Addr × Addr)), (∀ p ∈ cs, PySem.W.CodeHd h p.1 p.2 ∧ h.get? p.2 = some { cls := .none, data := .fields #[] } ∧ K.lookup p.2 = none) ∧ (∀ (s : Shared) (u : Value), BindsTo s fd ⟨[u], []⟩ [(x, u)]) ∧
    ∀ base : Heap, K.In base → base.Ns mainGlobals mg → (∀ p ∈ cs, LamX.TabB base mg p.1 p.2) → ∃ T : TC, T.K = K ∧ (∀ p ∈ T.tbs, p.1 ∈ cs.map (·.2)) ∧ FnG l.prog w K mg base k fa fd [x] (spD T 1 m)
/-- THE END of a law row -/
theorem walk_d {l : PySem.W.OpenLaw} {n k : Nat} {q : Program} {loose : List Str} {XP : (Str → Option Value) → Heap → Prop} {YP : World → Heap → Prop} {d : DefRec} {K : Params → PySem.W.Frag} {x : Str} {m : FM}
    (hn : l.most = some n) (hn2 : n ≤ sizeLine) (hdf : d.params.defaults = []) (hr : Room k callerA) (hY : ∀ (w : World) (h : Heap), YP w h → (K w.params).In h)
    (F : ∀ (w : World) (mg : Str → Option Value) (fa : Addr) (h : Heap), (K w.params).In h → h.Ns mainGlobals mg → mg d.name = some (.ref fa) →
      (∀ (y : Str) (c p : Addr) (e : DefRec), (recsOf q).find? (fun z => z.name == y) = some e → PySem.W.tabIn (K w.params) y = some (c, p) → PySem.W.CodeHd h c p ∧ h.get? p = some { cls := .none, data := .fields #[] }) → LawD l w (K w.params) k x m mg fa h)
    (law : ∀ ns : List Int, ns.length ≤ n → ∃ G, m [.scr ns] [] = .ok (.bl true) G) : PySem.W.WalkO q loose XP YP l.row.toRowW d [] (fun f vs => PySem.call f vs) := by
  refine Att.attach_callB hn hdf fun w s₀ s mg mb fa o pm cd doc a us ns G Y _ _ _ hmg hobj hi hlen _ hg => ?_
  have own := hY w _ Y
  obtain ⟨fd, cs, hcs, hb, hF⟩ := F w mg fa _ own G.T.g hmg fun y c p e e1 e2 => PySem.W.tab_of G.T own e1 e2
  have S : Site (K w.params) mg s.heap a us ns (cs.map (·.2)) := ⟨own, G.T.g, ⟨mb, G.T.b, G.T.builtins⟩, G.T.nolimit, G.T.bmain, hobj, hi, Nat.le_trans hlen hn2, fun p hp => by
      obtain ⟨z, hz, rfl⟩ := List.mem_map.mp hp
      exact (hcs z hz).2.1, fun p hp => by
      obtain ⟨z, hz, rfl⟩ := List.mem_map.mp hp
      exact (hcs z hz).2.2⟩
  obtain ⟨T, hK, ht, hF⟩ := hF _ (hp0_own S) (hp0_ns S S.main) fun p hp => hp0_tab S (List.mem_map.mpr ⟨p, hp, rfl⟩) (hcs p hp).1
  obtain ⟨G1, hl⟩ := law ns hlen
  exact call_d S hK hg hr ht (fun p hp => by
    obtain ⟨z, hz, rfl⟩ := List.mem_map.mp hp
    exact ⟨z.1, (hcs z hz).1⟩) hF (hb s _) hl
end DL

set_option Elab.async false
set_option linter.all false
set_option maxRecDepth 100000
set_option maxHeartbeats 4000000
set_option autoImplicit false
namespace K47
open PySem L2 DL
abbrev top (i : Nat) : Stmt := PySem.Challenge.pw_flatforest_k47_sure_lengths_by_formula.main.body.getD i (.Pass ⟨0, 0, 0, 0⟩)
def FLD : Nat → List Str
  | 0 => ["rows"]
  | 1 => ["table", "most", "steady_values", "start"]
  | _ => []
theorem FLD_nd : ∀ c, (FLD c).Nodup
  | 0 => by decide +kernel
  | 1 => by decide +kernel
  | _ + 2 => List.nodup_nil
theorem FLD_lt : ∀ c, (FLD c).length < 1000
  | 0 => by decide +kernel
  | 1 => by decide +kernel
  | _ + 2 => Nat.zero_lt_succ 999
abbrev Tc (Y : Tx) (K : PySem.W.Frag) (cls : Nat → Addr) (tb : List (Addr × Str)) : TC := ⟨K, Y.P, Y.w, cls, FLD, FLD_nd, FLD_lt, tb⟩
abbrev FUEL : Nat := 1000000000000
/-! is_integer -/
abbrev st_is_integer : Stmt := top 14
theorem sc_is_integer : FnScope ["thing"] ["thing"] (defScope st_is_integer) := ⟨rfl, rfl, rfl, by decide +kernel, rfl, by decide +kernel, by decide +kernel⟩
def s_is_integer : FS := (sRet (fAndV (fIsi "int" (fVar 0)) (fNotV (fIsi "bool" (fVar 0)))))
def f_is_integer : FM := mir 1 s_is_integer
/-! is_value -/
abbrev st_is_value : Stmt := top 15
theorem sc_is_value : FnScope ["size", "thing"] ["size", "thing"] (defScope st_is_value) := ⟨rfl, rfl, rfl, by decide +kernel, rfl, by decide +kernel, by decide +kernel⟩
def s_is_value : FS := (sRet (fAndV (fCall [0] (pureZ f_is_integer) (fLen 1 (fCons (fVar 1) fNil))) (fChain oLe oLt (fC (.int 0)) (fVar 1) (fVar 0))))
def f_is_value : FM := mir 2 s_is_value
/-! are_rows -/
abbrev st_are_rows : Stmt := top 16
theorem sc_are_rows : FnScope ["thing", "row", "number"] ["thing"] (defScope st_are_rows) := ⟨rfl, rfl, rfl, by decide +kernel, rfl, by decide +kernel, by decide +kernel⟩
def s_are_rows : FS := (sSeq (sIf (gOr (gNot (fB (fIsi "tuple" (fVar 0)))) (fB (fBin oEq (fVar 0) (fTup fNil)))) (sRet (fC (.bl false))) sNil)
    (sSeq (sFor (fItems (fVar 0)) (gSlot 1) (sSeq (sIf (gOr (gNot (fB (fIsi "tuple" (fVar 1)))) (fB (fBin oNe (fBi gLen (fCons (fVar 1) fNil)) (fBi gLen (fCons (fVar 0) fNil))))) (sRet (fC (.bl false))) sNil)
    (sIf (gNot (fB (fBi gAll (fCons (fLC [2] (fItems (fVar 1)) (gSlot 2) gYes (fCall [0, 1] (pureZ f_is_value) (fLen 2 (fCons (fBi gLen (fCons (fVar 0) fNil)) (fCons (fVar 2) fNil))))) fNil)))) (sRet (fC (.bl false))) sNil)))
    (sRet (fC (.bl true)))))
def f_are_rows : FM := mir 3 s_are_rows
/-! odd_triple -/
abbrev st_odd_triple : Stmt := top 23
theorem sc_odd_triple : FnScope ["rows", "a", "row", "b", "first", "c"] ["rows"] (defScope st_odd_triple) := ⟨rfl, rfl, rfl, by decide +kernel, rfl, by decide +kernel, by decide +kernel⟩
def s_odd_triple : FS := (sSeq (sFor (fEnum (fVar 0)) (gTupD (gsCons (gSlot 1) (gsCons (gSlot 2) gsNil))) (sFor (fEnum (fVar 2)) (gTupD (gsCons (gSlot 3) (gsCons (gSlot 4) gsNil))) (sFor (rng1 (fBi gLen (fCons (fVar 0) fNil))) (gSlot 5) (sIf (fB (fBin oNe (fBin oIxA (fBin oIxA (fVar 0) (fVar 4)) (fVar 5)) (fBin oIxA (fVar 2) (fBin oIxA (fBin oIxA (fVar 0) (fVar 3)) (fVar 5))))) (sRet (fTup (fCons (fVar 1) (fCons (fVar 3) (fCons (fVar 5) fNil))))) sNil))))
    (sRet (fC .non)))
def f_odd_triple : FM := mir 6 s_odd_triple
/-! Table.__init__ -/
abbrev st_Table___init__ : Stmt := inClass (top 24) 0
theorem sc_Table___init__ : FnScope ["self", "rows", "triple"] ["self", "rows"] (defScope st_Table___init__) := ⟨rfl, rfl, rfl, by decide +kernel, rfl, by decide +kernel, by decide +kernel⟩
def s_Table___init__ : FS := (sSeq (sIf (gNot (fB (fCall [0] (pureZ f_are_rows) (fLen 1 (fCons (fVar 1) fNil))))) sSt sNil)
    (sSeq (sSet 2 (fCall [0] (pureZ f_odd_triple) (fLen 1 (fCons (fVar 1) fNil))))
    (sSeq (sIf (fB (fBin oIsNot (fVar 2) (fC .non))) sSt sNil)
    (sFldS 0 0 (fVar 0) (fVar 1)))))
def f_Table___init__ : FM := mir 3 s_Table___init__
/-! Table.__len__ -/
abbrev st_Table___len__ : Stmt := inClass (top 24) 3
theorem sc_Table___len__ : FnScope ["self"] ["self"] (defScope st_Table___len__) := ⟨rfl, rfl, rfl, by decide +kernel, rfl, by decide +kernel, by decide +kernel⟩
def s_Table___len__ : FS := (sRet (fBi gLen (fCons (fFld [(0, 0)] (fVar 0)) fNil)))
def f_Table___len__ : FM := mir 1 s_Table___len__
/-! Table.joined -/
abbrev st_Table_joined : Stmt := inClass (top 24) 5
theorem sc_Table_joined : FnScope ["self", "a", "b"] ["self", "a", "b"] (defScope st_Table_joined) := ⟨rfl, rfl, rfl, by decide +kernel, rfl, by decide +kernel, by decide +kernel⟩
def s_Table_joined : FS := (sRet (fBin oIxA (fBin oIxA (fFld [(0, 0)] (fVar 0)) (fVar 1)) (fVar 2)))
def f_Table_joined : FM := mir 3 s_Table_joined
/-! steady -/
abbrev st_steady : Stmt := top 6
theorem sc_steady : FnScope ["table", "a"] ["table"] (defScope st_steady) := ⟨rfl, rfl, rfl, by decide +kernel, rfl, by decide +kernel, by decide +kernel⟩
def s_steady : FS := (sRet (fBi gTup (fCons (fLC [1] (rng1 (fLenO 0 (pureW f_Table___len__) (fVar 0))) (gSlot 1) (fB (fBin oEq (fBin oIxA (fBin oIxA (fFld [(0, 0)] (fVar 0)) (fVar 1)) (fVar 1)) (fVar 1))) (fVar 1)) fNil)))
def f_steady : FM := mir 2 s_steady
/-! Endings.__init__ -/
abbrev st_Endings___init__ : Stmt := inClass (top 9) 0
theorem sc_Endings___init__ : FnScope ["self", "table", "k", "value"] ["self", "table", "k"] (defScope st_Endings___init__) := ⟨rfl, rfl, rfl, by decide +kernel, rfl, by decide +kernel, by decide +kernel⟩
def s_Endings___init__ : FS := (sSeq (sFldS 1 0 (fVar 0) (fVar 1))
    (sSeq (sFldS 1 1 (fVar 0) (fVar 2))
    (sSeq (sFldS 1 2 (fVar 0) (fCall [0] (pureZ f_steady) (fLen 1 (fCons (fVar 1) fNil))))
    (sFldS 1 3 (fVar 0) (fBi gTup (fCons (fLC [3] (fItems (fFld [(1, 2)] (fVar 0))) (gSlot 3) gYes (fTup (fCons (fTup (fCons (fC (.int (-1))) (fCons (fC (.int 0)) fNil))) fNil))) fNil))))))
def f_Endings___init__ : FM := mir 4 s_Endings___init__
/-! Endings.pairs_behind -/
abbrev st_Endings_pairs_behind : Stmt := inClass (top 9) 1
theorem sc_Endings_pairs_behind : FnScope ["self", "pairs", "value", "thing", "found", "behind", "number", "longer"] ["self", "pairs", "value", "thing"] (defScope st_Endings_pairs_behind) := ⟨rfl, rfl, rfl, by decide +kernel, rfl, by decide +kernel, by decide +kernel⟩
def s_Endings_pairs_behind : FS := (sSeq (sSet 4 (fDic0 true))
    (sSeq (sFor (fItems (fVar 1)) (gTupD (gsCons (gSlot 5) (gsCons (gSlot 6) gsNil))) (sSeq (sSet 7 (fIf (fB (fBin oEq (fVar 5) (fC (.int (-1))))) (fVar 3) (fMeth 0 [0, 1] (pureZ f_Table_joined) (fFld [(1, 0)] (fVar 0)) (fLen 2 (fCons (fVar 5) (fCons (fVar 3) fNil))))))
    (sAsg (gSub (fVar 4) (fVar 7)) (fBi gMax2 (fCons (fGet2 (fVar 4) (fVar 7) (fC (.int 0))) (fCons (fVar 6) fNil))))))
    (sSeq (sAsg (gSub (fVar 4) (fC (.int (-1)))) (fIf (fB (fBin (oIn false) (fVar 2) (fVar 4))) (fBin oAdd (fBin oIxA (fVar 4) (fVar 2)) (fC (.int 1))) (fC (.int 0))))
    (sRet (fIf (fB (fBin oGe (fBin oIxA (fVar 4) (fC (.int (-1)))) (fFld [(1, 1)] (fVar 0)))) (fC .non) (fBi gTup (fCons (fSrtItems (fVar 4)) fNil)))))))
def f_Endings_pairs_behind : FM := mir 8 s_Endings_pairs_behind
/-! Endings.state_behind -/
abbrev st_Endings_state_behind : Stmt := inClass (top 9) 2
theorem sc_Endings_state_behind : FnScope ["self", "state", "thing", "found", "pairs", "value"] ["self", "state", "thing"] (defScope st_Endings_state_behind) := ⟨rfl, rfl, rfl, by decide +kernel, rfl, by decide +kernel, by decide +kernel⟩
def s_Endings_state_behind : FS := (sSeq (sSet 3 (fBi gTup (fCons (fLC [4, 5] (fZip (fCons (fVar 1) (fCons (fFld [(1, 2)] (fVar 0)) fNil))) (gTupD (gsCons (gSlot 4) (gsCons (gSlot 5) gsNil))) gYes (fMeth 1 [0, 1, 2] (pureZ f_Endings_pairs_behind) (fVar 0) (fLen 3 (fCons (fVar 4) (fCons (fVar 5) (fCons (fVar 2) fNil)))))) fNil)))
    (sRet (fIf (fB (fBin oNoneT (fC .non) (fVar 3))) (fC .non) (fVar 3))))
def f_Endings_state_behind : FM := mir 6 s_Endings_state_behind
/-! longest_without -/
abbrev st_longest_without : Stmt := top 10
theorem sc_longest_without : FnScope ["table", "values", "k", "endings", "best", "waiting", "state", "further", "left", "rows", "value", "there", "row"] ["table", "values", "k"] (defScope st_longest_without) := ⟨rfl, rfl, rfl, by decide +kernel, rfl, by decide +kernel, by decide +kernel⟩
def s_longest_without : FS := (sSeq (sSet 3 (fMake 1 [0, 1] f_Endings___init__ (fLen 2 (fCons (fVar 0) (fCons (fVar 2) fNil)))))
    (sSeq (sAsg (gTupD (gsCons (gSlot 4) (gsCons (gSlot 5) gsNil))) (fTup (fCons fDicN (fCons (fLstR (fCons (fFld [(1, 3)] (fVar 3)) fNil)) fNil))))
    (sSeq (sWhile FUEL (fB (fBin oNe (fVar 5) (fLst fNil))) (sSeq (sSet 6 (fBin oIxA (fVar 5) (fNeg (fC (.int 1)))))
    (sSeq (sSet 7 (fLC [10] (fItems (fVar 1)) (gSlot 10) gYes (fTup (fCons (fVar 10) (fCons (fMeth 1 [0, 1] (pureZ f_Endings_state_behind) (fVar 3) (fLen 2 (fCons (fVar 6) (fCons (fVar 10) fNil)))) fNil)))))
    (sSeq (sSet 8 (fLC [10, 11] (fItems (fVar 7)) (gTupD (gsCons (gSlot 10) (gsCons (gSlot 11) gsNil))) (gAnd (fB (fBin oIsNot (fVar 11) (fC .non))) (fB (fBin (oIn true) (fVar 11) (fVar 4)))) (fVar 11)))
    (sIf (fB (fBin oNe (fVar 8) (fLst fNil))) (sExpr (fBm isLst mExtend (fVar 5) (fCons (fVar 8) fNil))) (sSeq (sExpr (fBm isLst mPop (fVar 5) fNil))
    (sSeq (sSet 9 (fLC [10, 11] (fItems (fVar 7)) (gTupD (gsCons (gSlot 10) (gsCons (gSlot 11) gsNil))) (fB (fBin oIsNot (fVar 11) (fC .non))) (fTup (fCons (fVar 10) (fStar (fBin oIxA (fVar 4) (fVar 11)) fNil)))))
    (sAsg (gSub (fVar 4) (fVar 6)) (fIf (fB (fBin oNe (fVar 9) (fLst fNil))) (fMaxLen (fVar 9)) (fTup fNil))))))))))
    (sRet (fBin oIxA (fVar 4) (fFld [(1, 3)] (fVar 3)))))))
def f_longest_without : FM := mir 13 s_longest_without
/-! sure_length -/
abbrev st_sure_length : Stmt := top 11
theorem sc_sure_length : FnScope ["table", "values", "k"] ["table", "values", "k"] (defScope st_sure_length) := ⟨rfl, rfl, rfl, by decide +kernel, rfl, by decide +kernel, by decide +kernel⟩
def s_sure_length : FS := (sRet (fBin oAdd (fBi gLen (fCons (fCall [0, 1, 2] (pureZ f_longest_without) (fLen 3 (fCons (fVar 0) (fCons (fVar 1) (fCons (fVar 2) fNil))))) fNil)) (fC (.int 1))))
def f_sure_length : FM := mir 3 s_sure_length
/-! _law_deck -/
abbrev st__law_deck : Stmt := top 26
theorem sc__law_deck : FnScope ["_law_script", "_law_left", "_law_blend", "_law_cell"] ["_law_script"] (defScope st__law_deck) := ⟨rfl, rfl, rfl, by decide +kernel, rfl, by decide +kernel, by decide +kernel⟩
def s__law_deck : FS := (sSeq (sPar 1 2 (fRevL true (fBi (gList false) (fCons (fSlc false (fVar 0) fNoP (fP (fC (.int 63)))) fNil))) (fC (.int 89447)))
    (sSeq (sForL FUEL (fVar 1) (gSlot 3) (sSet 2 (fBin oMod (fBi gInt (fCons (fBin oAdd (fBin oAdd (fBin oMul (fVar 2) (fC (.int 40692))) (fBin oMod (fBi gInt (fCons (fVar 3) fNil)) (fC (.int 2147483563)))) (fC (.int 59))) fNil)) (fC (.int 2147483629)))))
    (sRet (fLstR (fCons (fVar 1) (fCons (fVar 2) (fCons (fC (.int 0)) fNil)))))))
def f__law_deck : FM := mir 4 s__law_deck
/-! _law_draw -/
abbrev st__law_draw : Stmt := top 27
theorem sc__law_draw : FnScope ["_law_deck_here", "_law_size", "_law_blend", "_law_cell"] ["_law_deck_here", "_law_size"] (defScope st__law_draw) := ⟨rfl, rfl, rfl, by decide +kernel, rfl, by decide +kernel, by decide +kernel⟩
def s__law_draw : FS := (sSeq (sAsg (gSub (fVar 0) (fC (.int 2))) (fBin oAdd (fBin oIxA (fVar 0) (fC (.int 2))) (fC (.int 1))))
    (sSeq (sSet 2 (fBin oAdd (fBin oIxA (fVar 0) (fC (.int 1))) (fBin oMul (fBin oMul (fC (.int 60133)) (fBin oIxA (fVar 0) (fC (.int 2)))) (fBin oIxA (fVar 0) (fC (.int 2))))))
    (sSeq (sIf (fB (fBin oNe (fBin oIxA (fVar 0) (fC (.int 0))) (fLst fNil))) (sSeq (sSet 3 (fBm isLst mPop (fBin oIxA (fVar 0) (fC (.int 0))) fNil))
    (sSeq (sIf (fB (fBin oGe (fVar 3) (fBin oPow (fC (.int 10)) (fC (.int 18))))) (sSeq (sExpr (fBm isLst mAppend (fBin oIxA (fVar 0) (fC (.int 0))) (fCons (fBin oFdiv (fVar 3) (fVar 1)) fNil)))
    (sRet (fBin oMod (fBi gInt (fCons (fVar 3) fNil)) (fVar 1)))) sNil)
    (sSet 2 (fBin oAdd (fVar 2) (fVar 3))))) sNil)
    (sSeq (sSet 2 (fBin oMod (fBin oMul (fBin oMod (fBi gInt (fCons (fVar 2) fNil)) (fC (.int 2147483587))) (fC (.int 48271))) (fC (.int 2147483647))))
    (sSeq (sSet 2 (fBin oMod (fBi gInt (fCons (fBin oAdd (fBin oAdd (fBin oMul (fVar 2) (fVar 2)) (fBin oMul (fC (.int 69621)) (fBin oIxA (fVar 0) (fC (.int 2))))) (fC (.int 67))) fNil)) (fC (.int 2147483549))))
    (sRet (fBin oMod (fBin oFdiv (fBin oMod (fBi gInt (fCons (fBin oMul (fVar 2) (fC (.int 39373))) fNil)) (fC (.int 2147483629))) (fC (.int 64))) (fVar 1))))))))
def f__law_draw : FM := mir 4 s__law_draw
/-! _law_known -/
abbrev st__law_known : Stmt := top 29
theorem sc__law_known : FnScope ["_law_size", "_law_way", "_law_found", "_law_x", "_law_y"] ["_law_size", "_law_way"] (defScope st__law_known) := ⟨rfl, rfl, rfl, by decide +kernel, rfl, by decide +kernel, by decide +kernel⟩
def s__law_known : FS := (sSeq (sSet 2 (fLstR fNil))
    (sSeq (sFor (rng1 (fVar 0)) (gSlot 3) (sExpr (fBm isLst mAppend (fVar 2) (fCons (fBi gTup (fCons (fLC [4] (rng1 (fVar 0)) (gSlot 4) gYes (fBin oIxA (fLst (fCons (fBin oMod (fBin oAdd (fVar 3) (fVar 4)) (fVar 0)) (fCons (fBi gMin2 (fCons (fVar 3) (fCons (fVar 4) fNil))) (fCons (fBi gMax2 (fCons (fVar 3) (fCons (fVar 4) fNil))) (fCons (fVar 3) (fCons (fVar 4) (fCons (fC (.int 0)) fNil))))))) (fVar 1))) fNil)) fNil))))
    (sRet (fBi gTup (fCons (fVar 2) fNil)))))
def f__law_known : FM := mir 5 s__law_known
/-! _law_steps -/
abbrev st__law_steps : Stmt := top 30
theorem sc__law_steps : FnScope ["_law_early", "_law_ring", "_law_late", "_law_steps_here", "_law_x", "_law_y"] ["_law_early", "_law_ring"] (defScope st__law_steps) := ⟨rfl, rfl, rfl, by decide +kernel, rfl, by decide +kernel, by decide +kernel⟩
def s__law_steps : FS := (sSeq (sSet 2 (fBin oSub (fBin oAdd (fVar 0) (fVar 1)) (fC (.int 1))))
    (sSeq (sSet 3 (fLC [4] (rng1 (fBin oAdd (fBin oMul (fC (.int 2)) (fVar 2)) (fC (.int 1)))) (gSlot 4) gYes (fIf (fB (fBin oLe (fVar 4) (fVar 2))) (fVar 4) (fBin oAdd (fVar 0) (fBin oMod (fBin oSub (fVar 4) (fVar 0)) (fVar 1))))))
    (sRet (fBi gTup (fCons (fLC [4] (rng2 (fC (.int 1)) (fBin oAdd (fVar 2) (fC (.int 1)))) (gSlot 4) gYes (fBi gTup (fCons (fLC [5] (rng2 (fC (.int 1)) (fBin oAdd (fVar 2) (fC (.int 1)))) (gSlot 5) gYes (fBin oSub (fBin oIxA (fVar 3) (fBin oAdd (fVar 4) (fVar 5))) (fC (.int 1)))) fNil))) fNil)))))
def f__law_steps : FM := mir 6 s__law_steps
/-! _law_anew -/
abbrev st__law_anew : Stmt := top 31
theorem sc__law_anew : FnScope ["_law_grid", "_law_spots", "_law_x", "_law_y"] ["_law_grid", "_law_spots"] (defScope st__law_anew) := ⟨rfl, rfl, rfl, by decide +kernel, rfl, by decide +kernel, by decide +kernel⟩
def s__law_anew : FS := (sRet (fBi gTup (fCons (fLC [2] (fItems (fVar 1)) (gSlot 2) gYes (fBi gTup (fCons (fLC [3] (fItems (fVar 1)) (gSlot 3) gYes (fBm isLst mIndex (fVar 1) (fCons (fBin oIxA (fBin oIxA (fVar 0) (fVar 2)) (fVar 3)) fNil))) fNil))) fNil)))
def f__law_anew : FM := mir 4 s__law_anew
/-! _law_power -/
abbrev st__law_power : Stmt := top 32
theorem sc__law_power : FnScope ["_law_base", "_law_count", "_law_found", "_law_turn"] ["_law_base", "_law_count"] (defScope st__law_power) := ⟨rfl, rfl, rfl, by decide +kernel, rfl, by decide +kernel, by decide +kernel⟩
def s__law_power : FS := (sSeq (sSet 2 (fC (.int 1)))
    (sSeq (sFor (rng1 (fVar 1)) (gSlot 3) (sSet 2 (fBin oMul (fVar 2) (fVar 0))))
    (sRet (fVar 2))))
def f__law_power : FM := mir 4 s__law_power
/-! _law_is_told -/
abbrev st__law_is_told : Stmt := top 33
theorem sc__law_is_told : FnScope ["_law_grid", "_law_some", "_law_count", "_law_due", "_law_code", "_law_got"] ["_law_grid", "_law_some", "_law_count", "_law_due"] (defScope st__law_is_told) := ⟨rfl, rfl, rfl, by decide +kernel, rfl, by decide +kernel, by decide +kernel⟩
def s__law_is_told : FS := (sSeq (sSet 4 (fMake 0 [0] f_Table___init__ (fLen 1 (fCons (fVar 0) fNil))))
    (sSeq (sSet 5 (fLst (fCons (fCall [0, 1, 2] (pureZ f_sure_length) (fLen 3 (fCons (fVar 4) (fCons (fVar 1) (fCons (fVar 2) fNil))))) (fCons (fCall [2, 1, 0] (pureZ f_sure_length) (fLen 3 (fCons (fVar 2) (fCons (fVar 1) (fCons (fVar 4) fNil))))) fNil))))
    (sRet (fAndV (fReprEq (fVar 5) (fLst (fCons (fVar 3) (fCons (fVar 3) fNil)))) (fBin oEq (fBi gLen (fCons (fCall [0, 1, 2] (pureZ f_longest_without) (fLen 3 (fCons (fVar 4) (fCons (fVar 1) (fCons (fVar 2) fNil))))) fNil)) (fBin oSub (fVar 3) (fC (.int 1))))))))
def f__law_is_told : FM := mir 6 s__law_is_told
end K47

set_option Elab.async false
set_option linter.all false
set_option maxRecDepth 100000
set_option maxHeartbeats 4000000
set_option autoImplicit false
namespace K47
open PySem L2 DL
/-! ### what is told of a table: longest_without evaluated -/
structure Cs where
  g : D
  ev : D
  c : Int
  n : Nat
def sureOf (LW : FM) : FM := mir 3 (sRet (fBin oAdd (fBi gLen (fCons (fCall [0, 1, 2] (pureZ LW) (fLen 3 (fCons (fVar 0) (fCons (fVar 1) (fCons (fVar 2) fNil))))) fNil)) (fC (.int 1))))
def toldOf (MK LW : FM) : FM := mir 6 (sSeq (sSet 4 (fMake 0 [0] MK (fLen 1 (fCons (fVar 0) fNil))))
    (sSeq (sSet 5 (fLst (fCons (fCall [0, 1, 2] (pureZ (sureOf LW)) (fLen 3 (fCons (fVar 4) (fCons (fVar 1) (fCons (fVar 2) fNil))))) (fCons (fCall [2, 1, 0] (pureZ (sureOf LW)) (fLen 3 (fCons (fVar 2) (fCons (fVar 1) (fCons (fVar 4) fNil))))) fNil))))
    (sRet (fAndV (fReprEq (fVar 5) (fLst (fCons (fVar 3) (fCons (fVar 3) fNil)))) (fBin oEq (fBi gLen (fCons (fCall [0, 1, 2] (pureZ LW) (fLen 3 (fCons (fVar 4) (fCons (fVar 1) (fCons (fVar 2) fNil))))) fNil)) (fBin oSub (fVar 3) (fC (.int 1))))))))
theorem told_eq : f__law_is_told = toldOf f_Table___init__ f_longest_without := rfl
def lwB (q : Cs) : Bool := vl frzN q.g && ([.ins 0 [q.g], q.ev, .int q.c] : List D).all (vl frzN) && decide (q.n ≤ 1000) && (match makeW 0 f_Table___init__ [q.g] [] with
  | .ok (.ins 0 [g]) [] => same g q.g
  | _ => false) && (match pureZ f_longest_without [.ins 0 [q.g], q.ev, .int q.c] [] with
  | .ok (.tup xs) [] => xs.length == q.n
  | _ => false)
theorem sure_of {LW : FM} {g ev : D} {c : Int} {xs : List D} (hv : ([.ins 0 [g], ev, .int c] : List D).all (vl frzN) = true) (hL : pureZ LW [.ins 0 [g], ev, .int c] [] = .ok (.tup xs) []) (hn : xs.length ≤ 1000) :
    pureZ (sureOf LW) [.ins 0 [g], ev, .int c] [] = .ok (.int (xs.length + 1)) [] := by
  refine pureZ_vl (G' := []) hv ?_ rfl
  · simp [sureOf, mir, startE, sRet, fBin, fBi, fCons, fNil, fCall, fLen, fVar, fC, R.bnd, R.go, sel, hL, gLen, one1, oAdd, vw]
theorem told_of {MK LW : FM} {g ev : D} {c : Int} {n : Nat} {xs : List D} (hv : ([.ins 0 [g], ev, .int c] : List D).all (vl frzN) = true) (hT : makeW 0 MK [g] [] = .ok (.ins 0 [g]) []) (hL : pureZ LW [.ins 0 [g], ev, .int c] [] = .ok (.tup xs) []) (hn : xs.length = n) (hn2 : n ≤ 1000) :
    toldOf MK LW [g, ev, .int c, .int (n + 1)] [] = .ok (.bl true) [] := by
  have hs := sure_of hv hL (by omega)
  have sl : ∀ x y z : D, sel [2, 1, 0] [x, y, z] = [z, y, x] := fun _ _ _ => rfl
  have sk : ∀ x y z : D, sel [0, 1, 2] [x, y, z] = [x, y, z] := fun _ _ _ => rfl
  have a1 : sSet 4 (fMake 0 [0] MK (fLen 1 (fCons (fVar 0) fNil))) [some g, some ev, some (.int c), some (.int (n + 1)), none, none] [] = .nx [some g, some ev, some (.int c), some (.int (n + 1)), some (.ins 0 [g]), none] [] := by
    simp [sSet, fMake, fCons, fNil, fLen, fVar, R.bnd, R.go, sel, hT]
  have a2 : sSet 5 (fLst (fCons (fCall [0, 1, 2] (pureZ (sureOf LW)) (fLen 3 (fCons (fVar 4) (fCons (fVar 1) (fCons (fVar 2) fNil))))) (fCons (fCall [2, 1, 0] (pureZ (sureOf LW)) (fLen 3 (fCons (fVar 2) (fCons (fVar 1) (fCons (fVar 4) fNil))))) fNil))) [some g, some ev, some (.int c), some (.int (n + 1)), some (.ins 0 [g]), none] []
      = .nx [some g, some ev, some (.int c), some (.int (n + 1)), some (.ins 0 [g]), some (.lst [.int (n + 1), .int (n + 1)])] [] := by
    simp [sSet, fCall, fLst, fCons, fNil, fLen, fVar, R.bnd, R.go, sl, sk, hs, hn, small, sizeLine]
  have hr : rpOk (.lst [.int (n + 1), .int (n + 1)]) = true := by
    simp [rpOk, isPy, arePy, py, pys, PyData.showable, PyData.showableAll, PyData.hasDict, PyData.hasDictAll, PyData.depth, PyData.depthAll, sm, sms, PyData.bulk, PyData.bulkAll]
    refine ⟨?_, by omega, by omega⟩
    have e : ((n : Int) + 1).natAbs = n + 1 := by omega
    rw [e]
    exact (Nat.log2_lt (by omega)).mpr (Nat.lt_of_lt_of_le (show n + 1 < 2 ^ 10 by omega) (Nat.pow_le_pow_right (by decide) (by decide)))
  have a3 : sRet (fAndV (fReprEq (fVar 5) (fLst (fCons (fVar 3) (fCons (fVar 3) fNil)))) (fBin oEq (fBi gLen (fCons (fCall [0, 1, 2] (pureZ LW) (fLen 3 (fCons (fVar 4) (fCons (fVar 1) (fCons (fVar 2) fNil))))) fNil)) (fBin oSub (fVar 3) (fC (.int 1)))))
      [some g, some ev, some (.int c), some (.int (n + 1)), some (.ins 0 [g]), some (.lst [.int (n + 1), .int (n + 1)])] [] = .rt (.bl true) [] := by
    simp [sRet, fAndV, fReprEq, fBin, fBi, fCall, fLst, fCons, fNil, fLen, fVar, fC, R.bnd, R.go, sk, hL, hn, small, sizeLine, rpV, vw, hr, same, sames, gLen, one1, oSub, o2, oEq, okV, okD, eqD, isPy, py, SeqAt.shaped, PyData.canLay0, PyData.depth, PyData.eqv]
  show (match sSeq _ (sSeq _ _) _ _ with | .nx _ G1 => R.ok D.non G1 | .rt d G1 => R.ok d G1 | .ex e _ G1 => R.ex e G1 | _ => R.st) = _
  unfold sSeq
  erw [a1]
  simp only []
  erw [a2]
  simp only []
  erw [a3]
theorem told_case {q : Cs} (h : lwB q = true) (G : GH) : pureZ f__law_is_told [q.g, q.ev, .int q.c, .int (q.n + 1)] G = .ok (.bl true) G := by
  unfold lwB at h
  rw [Bool.and_eq_true, Bool.and_eq_true, Bool.and_eq_true, Bool.and_eq_true, decide_eq_true_eq] at h
  obtain ⟨⟨⟨⟨h1, h2⟩, h3⟩, h4⟩, h5⟩ := h
  split at h4
  · rename_i g e
    split at h5
    · rename_i xs e2
      have hg := same_eq _ _ h4
      subst hg
      have hv : ([q.g, q.ev, .int q.c, .int (q.n + 1)] : List D).all (vl frzN) = true := by
        simp only [List.all_cons, List.all_nil, Bool.and_eq_true, Bool.and_true] at h2 ⊢
        exact ⟨h1, h2.2.1, h2.2.2, rfl⟩
      refine pureZ_vl (G' := []) hv ?_ rfl
      rw [told_eq]
      exact told_of h2 e e2 (beq_iff_eq.mp h5) h3
    · cases h5
  · cases h4
abbrev cs0 : Cs := ⟨.tup [.tup [.int (0)]], .tup [.int (0)], 1, 0⟩
theorem lw0 : lwB cs0 = true := by decide +kernel
abbrev cs1 : Cs := ⟨.tup [.tup [.int (0)]], .tup [.int (0)], 2, 1⟩
theorem lw1 : lwB cs1 = true := by decide +kernel
abbrev cs2 : Cs := ⟨.tup [.tup [.int (0), .int (1)], .tup [.int (1), .int (0)]], .tup [.int (0), .int (1)], 1, 1⟩
theorem lw2 : lwB cs2 = true := by decide +kernel
abbrev cs3 : Cs := ⟨.tup [.tup [.int (0), .int (0)], .tup [.int (0), .int (1)]], .tup [.int (0), .int (1)], 1, 0⟩
theorem lw3 : lwB cs3 = true := by decide +kernel
abbrev cs4 : Cs := ⟨.tup [.tup [.int (0), .int (1)], .tup [.int (1), .int (1)]], .tup [.int (0), .int (1)], 1, 0⟩
theorem lw4 : lwB cs4 = true := by decide +kernel
abbrev cs5 : Cs := ⟨.tup [.tup [.int (0), .int (0)], .tup [.int (1), .int (1)]], .tup [.int (0), .int (1)], 1, 0⟩
theorem lw5 : lwB cs5 = true := by decide +kernel
abbrev cs6 : Cs := ⟨.tup [.tup [.int (0), .int (1)], .tup [.int (0), .int (1)]], .tup [.int (0), .int (1)], 1, 0⟩
theorem lw6 : lwB cs6 = true := by decide +kernel
abbrev cs7 : Cs := ⟨.tup [.tup [.int (0), .int (0)], .tup [.int (0), .int (0)]], .tup [.int (0), .int (1)], 1, 1⟩
theorem lw7 : lwB cs7 = true := by decide +kernel
abbrev cs8 : Cs := ⟨.tup [.tup [.int (1), .int (0)], .tup [.int (0), .int (1)]], .tup [.int (0), .int (1)], 1, 1⟩
theorem lw8 : lwB cs8 = true := by decide +kernel
abbrev cs9 : Cs := ⟨.tup [.tup [.int (1), .int (1)], .tup [.int (1), .int (1)]], .tup [.int (0), .int (1)], 1, 1⟩
theorem lw9 : lwB cs9 = true := by decide +kernel
abbrev cs10 : Cs := ⟨.tup [.tup [.int (0), .int (0)], .tup [.int (0), .int (1)]], .tup [.int (1)], 1, 0⟩
theorem lw10 : lwB cs10 = true := by decide +kernel
abbrev cs11 : Cs := ⟨.tup [.tup [.int (1), .int (0)], .tup [.int (0), .int (1)]], .tup [.int (0)], 1, 1⟩
theorem lw11 : lwB cs11 = true := by decide +kernel
abbrev cs12 : Cs := ⟨.tup [.tup [.int (1), .int (1)], .tup [.int (1), .int (1)]], .tup [.int (0)], 1, 1⟩
theorem lw12 : lwB cs12 = true := by decide +kernel
abbrev cs13 : Cs := ⟨.tup [.tup [.int (0), .int (1)], .tup [.int (1), .int (0)]], .tup [.int (0), .int (1)], 2, 3⟩
theorem lw13 : lwB cs13 = true := by decide +kernel
abbrev cs14 : Cs := ⟨.tup [.tup [.int (0), .int (0)], .tup [.int (0), .int (1)]], .tup [.int (0), .int (1)], 2, 3⟩
theorem lw14 : lwB cs14 = true := by decide +kernel
abbrev cs15 : Cs := ⟨.tup [.tup [.int (0), .int (1)], .tup [.int (1), .int (1)]], .tup [.int (0), .int (1)], 2, 3⟩
theorem lw15 : lwB cs15 = true := by decide +kernel
abbrev cs16 : Cs := ⟨.tup [.tup [.int (0), .int (0)], .tup [.int (1), .int (1)]], .tup [.int (0), .int (1)], 2, 2⟩
theorem lw16 : lwB cs16 = true := by decide +kernel
abbrev cs17 : Cs := ⟨.tup [.tup [.int (0), .int (1)], .tup [.int (0), .int (1)]], .tup [.int (0), .int (1)], 2, 2⟩
theorem lw17 : lwB cs17 = true := by decide +kernel
abbrev cs18 : Cs := ⟨.tup [.tup [.int (0), .int (0)], .tup [.int (0), .int (0)]], .tup [.int (0), .int (1)], 2, 3⟩
theorem lw18 : lwB cs18 = true := by decide +kernel
abbrev cs19 : Cs := ⟨.tup [.tup [.int (1), .int (0)], .tup [.int (0), .int (1)]], .tup [.int (0), .int (1)], 2, 3⟩
theorem lw19 : lwB cs19 = true := by decide +kernel
abbrev cs20 : Cs := ⟨.tup [.tup [.int (1), .int (1)], .tup [.int (1), .int (1)]], .tup [.int (0), .int (1)], 2, 3⟩
theorem lw20 : lwB cs20 = true := by decide +kernel
abbrev cs21 : Cs := ⟨.tup [.tup [.int (0), .int (0)], .tup [.int (0), .int (1)]], .tup [.int (1)], 2, 1⟩
theorem lw21 : lwB cs21 = true := by decide +kernel
abbrev cs22 : Cs := ⟨.tup [.tup [.int (1), .int (0)], .tup [.int (0), .int (1)]], .tup [.int (0)], 2, 3⟩
theorem lw22 : lwB cs22 = true := by decide +kernel
abbrev cs23 : Cs := ⟨.tup [.tup [.int (1), .int (1)], .tup [.int (1), .int (1)]], .tup [.int (0)], 2, 3⟩
theorem lw23 : lwB cs23 = true := by decide +kernel
abbrev cs24 : Cs := ⟨.tup [.tup [.int (0), .int (1)], .tup [.int (1), .int (0)]], .tup [.int (0), .int (1)], 3, 5⟩
theorem lw24 : lwB cs24 = true := by decide +kernel
abbrev cs25 : Cs := ⟨.tup [.tup [.int (0), .int (0)], .tup [.int (0), .int (1)]], .tup [.int (0), .int (1)], 3, 8⟩
theorem lw25 : lwB cs25 = true := by decide +kernel
abbrev cs26 : Cs := ⟨.tup [.tup [.int (0), .int (1)], .tup [.int (1), .int (1)]], .tup [.int (0), .int (1)], 3, 8⟩
theorem lw26 : lwB cs26 = true := by decide +kernel
abbrev cs27 : Cs := ⟨.tup [.tup [.int (0), .int (0)], .tup [.int (1), .int (1)]], .tup [.int (0), .int (1)], 3, 4⟩
theorem lw27 : lwB cs27 = true := by decide +kernel
abbrev cs28 : Cs := ⟨.tup [.tup [.int (0), .int (1)], .tup [.int (0), .int (1)]], .tup [.int (0), .int (1)], 3, 4⟩
theorem lw28 : lwB cs28 = true := by decide +kernel
abbrev cs29 : Cs := ⟨.tup [.tup [.int (0), .int (0)], .tup [.int (0), .int (0)]], .tup [.int (0), .int (1)], 3, 5⟩
theorem lw29 : lwB cs29 = true := by decide +kernel
abbrev cs30 : Cs := ⟨.tup [.tup [.int (1), .int (0)], .tup [.int (0), .int (1)]], .tup [.int (0), .int (1)], 3, 5⟩
theorem lw30 : lwB cs30 = true := by decide +kernel
abbrev cs31 : Cs := ⟨.tup [.tup [.int (1), .int (1)], .tup [.int (1), .int (1)]], .tup [.int (0), .int (1)], 3, 5⟩
theorem lw31 : lwB cs31 = true := by decide +kernel
abbrev cs32 : Cs := ⟨.tup [.tup [.int (0), .int (0)], .tup [.int (0), .int (1)]], .tup [.int (1)], 3, 2⟩
theorem lw32 : lwB cs32 = true := by decide +kernel
abbrev cs33 : Cs := ⟨.tup [.tup [.int (1), .int (0)], .tup [.int (0), .int (1)]], .tup [.int (0)], 3, 5⟩
theorem lw33 : lwB cs33 = true := by decide +kernel
abbrev cs34 : Cs := ⟨.tup [.tup [.int (1), .int (1)], .tup [.int (1), .int (1)]], .tup [.int (0)], 3, 5⟩
theorem lw34 : lwB cs34 = true := by decide +kernel
abbrev cs35 : Cs := ⟨.tup [.tup [.int (0), .int (1)], .tup [.int (1), .int (0)]], .tup [.int (0), .int (1)], 4, 7⟩
theorem lw35 : lwB cs35 = true := by decide +kernel
abbrev cs36 : Cs := ⟨.tup [.tup [.int (0), .int (0)], .tup [.int (0), .int (1)]], .tup [.int (0), .int (1)], 4, 15⟩
theorem lw36 : lwB cs36 = true := by decide +kernel
abbrev cs37 : Cs := ⟨.tup [.tup [.int (0), .int (1)], .tup [.int (1), .int (1)]], .tup [.int (0), .int (1)], 4, 15⟩
theorem lw37 : lwB cs37 = true := by decide +kernel
abbrev cs38 : Cs := ⟨.tup [.tup [.int (0), .int (0)], .tup [.int (1), .int (1)]], .tup [.int (0), .int (1)], 4, 6⟩
theorem lw38 : lwB cs38 = true := by decide +kernel
abbrev cs39 : Cs := ⟨.tup [.tup [.int (0), .int (1)], .tup [.int (0), .int (1)]], .tup [.int (0), .int (1)], 4, 6⟩
theorem lw39 : lwB cs39 = true := by decide +kernel
abbrev cs40 : Cs := ⟨.tup [.tup [.int (0), .int (0)], .tup [.int (0), .int (0)]], .tup [.int (0), .int (1)], 4, 7⟩
theorem lw40 : lwB cs40 = true := by decide +kernel
abbrev cs41 : Cs := ⟨.tup [.tup [.int (1), .int (0)], .tup [.int (0), .int (1)]], .tup [.int (0), .int (1)], 4, 7⟩
theorem lw41 : lwB cs41 = true := by decide +kernel
abbrev cs42 : Cs := ⟨.tup [.tup [.int (1), .int (1)], .tup [.int (1), .int (1)]], .tup [.int (0), .int (1)], 4, 7⟩
theorem lw42 : lwB cs42 = true := by decide +kernel
abbrev cs43 : Cs := ⟨.tup [.tup [.int (0), .int (0)], .tup [.int (0), .int (1)]], .tup [.int (1)], 4, 3⟩
theorem lw43 : lwB cs43 = true := by decide +kernel
abbrev cs44 : Cs := ⟨.tup [.tup [.int (1), .int (0)], .tup [.int (0), .int (1)]], .tup [.int (0)], 4, 7⟩
theorem lw44 : lwB cs44 = true := by decide +kernel
abbrev cs45 : Cs := ⟨.tup [.tup [.int (1), .int (1)], .tup [.int (1), .int (1)]], .tup [.int (0)], 4, 7⟩
theorem lw45 : lwB cs45 = true := by decide +kernel
abbrev cs46 : Cs := ⟨.tup [.tup [.int (0), .int (1), .int (2)], .tup [.int (1), .int (2), .int (0)], .tup [.int (2), .int (0), .int (1)]], .tup [.int (0), .int (1), .int (2)], 1, 2⟩
theorem lw46 : lwB cs46 = true := by decide +kernel
abbrev cs47 : Cs := ⟨.tup [.tup [.int (0), .int (0), .int (0)], .tup [.int (0), .int (1), .int (1)], .tup [.int (0), .int (1), .int (2)]], .tup [.int (0), .int (1), .int (2)], 1, 0⟩
theorem lw47 : lwB cs47 = true := by decide +kernel
abbrev cs48 : Cs := ⟨.tup [.tup [.int (0), .int (1), .int (2)], .tup [.int (1), .int (1), .int (2)], .tup [.int (2), .int (2), .int (2)]], .tup [.int (0), .int (1), .int (2)], 1, 0⟩
theorem lw48 : lwB cs48 = true := by decide +kernel
abbrev cs49 : Cs := ⟨.tup [.tup [.int (0), .int (0), .int (0)], .tup [.int (1), .int (1), .int (1)], .tup [.int (2), .int (2), .int (2)]], .tup [.int (0), .int (1), .int (2)], 1, 0⟩
theorem lw49 : lwB cs49 = true := by decide +kernel
abbrev cs50 : Cs := ⟨.tup [.tup [.int (0), .int (1), .int (2)], .tup [.int (0), .int (1), .int (2)], .tup [.int (0), .int (1), .int (2)]], .tup [.int (0), .int (1), .int (2)], 1, 0⟩
theorem lw50 : lwB cs50 = true := by decide +kernel
abbrev cs51 : Cs := ⟨.tup [.tup [.int (0), .int (0), .int (0)], .tup [.int (0), .int (0), .int (0)], .tup [.int (0), .int (0), .int (0)]], .tup [.int (0), .int (1), .int (2)], 1, 1⟩
theorem lw51 : lwB cs51 = true := by decide +kernel
abbrev cs52 : Cs := ⟨.tup [.tup [.int (0), .int (0), .int (0)], .tup [.int (0), .int (1), .int (2)], .tup [.int (0), .int (2), .int (2)]], .tup [.int (0), .int (1), .int (2)], 1, 0⟩
theorem lw52 : lwB cs52 = true := by decide +kernel
abbrev cs53 : Cs := ⟨.tup [.tup [.int (0), .int (1), .int (2)], .tup [.int (1), .int (1), .int (1)], .tup [.int (2), .int (1), .int (2)]], .tup [.int (0), .int (1), .int (2)], 1, 0⟩
theorem lw53 : lwB cs53 = true := by decide +kernel
abbrev cs54 : Cs := ⟨.tup [.tup [.int (2), .int (0), .int (1)], .tup [.int (0), .int (1), .int (2)], .tup [.int (1), .int (2), .int (0)]], .tup [.int (0), .int (1), .int (2)], 1, 2⟩
theorem lw54 : lwB cs54 = true := by decide +kernel
abbrev cs55 : Cs := ⟨.tup [.tup [.int (0), .int (1), .int (0)], .tup [.int (1), .int (1), .int (1)], .tup [.int (0), .int (1), .int (2)]], .tup [.int (0), .int (1), .int (2)], 1, 0⟩
theorem lw55 : lwB cs55 = true := by decide +kernel
abbrev cs56 : Cs := ⟨.tup [.tup [.int (0), .int (0), .int (2)], .tup [.int (0), .int (1), .int (2)], .tup [.int (2), .int (2), .int (2)]], .tup [.int (0), .int (1), .int (2)], 1, 0⟩
theorem lw56 : lwB cs56 = true := by decide +kernel
abbrev cs57 : Cs := ⟨.tup [.tup [.int (1), .int (1), .int (1)], .tup [.int (1), .int (1), .int (1)], .tup [.int (1), .int (1), .int (1)]], .tup [.int (0), .int (1), .int (2)], 1, 1⟩
theorem lw57 : lwB cs57 = true := by decide +kernel
abbrev cs58 : Cs := ⟨.tup [.tup [.int (1), .int (2), .int (0)], .tup [.int (2), .int (0), .int (1)], .tup [.int (0), .int (1), .int (2)]], .tup [.int (0), .int (1), .int (2)], 1, 2⟩
theorem lw58 : lwB cs58 = true := by decide +kernel
abbrev cs59 : Cs := ⟨.tup [.tup [.int (2), .int (2), .int (2)], .tup [.int (2), .int (2), .int (2)], .tup [.int (2), .int (2), .int (2)]], .tup [.int (0), .int (1), .int (2)], 1, 1⟩
theorem lw59 : lwB cs59 = true := by decide +kernel
abbrev cs60 : Cs := ⟨.tup [.tup [.int (0), .int (0), .int (0)], .tup [.int (0), .int (1), .int (1)], .tup [.int (0), .int (1), .int (2)]], .tup [.int (2)], 1, 0⟩
theorem lw60 : lwB cs60 = true := by decide +kernel
abbrev cs61 : Cs := ⟨.tup [.tup [.int (1), .int (2), .int (0)], .tup [.int (2), .int (0), .int (1)], .tup [.int (0), .int (1), .int (2)]], .tup [.int (0)], 1, 2⟩
theorem lw61 : lwB cs61 = true := by decide +kernel
abbrev cs62 : Cs := ⟨.tup [.tup [.int (1), .int (2), .int (1)], .tup [.int (2), .int (1), .int (2)], .tup [.int (1), .int (2), .int (1)]], .tup [.int (0)], 1, 1⟩
theorem lw62 : lwB cs62 = true := by decide +kernel
abbrev cs63 : Cs := ⟨.tup [.tup [.int (1), .int (2), .int (2)], .tup [.int (2), .int (2), .int (2)], .tup [.int (2), .int (2), .int (2)]], .tup [.int (0)], 1, 2⟩
theorem lw63 : lwB cs63 = true := by decide +kernel
abbrev cs64 : Cs := ⟨.tup [.tup [.int (0), .int (1), .int (2)], .tup [.int (1), .int (2), .int (0)], .tup [.int (2), .int (0), .int (1)]], .tup [.int (0), .int (1), .int (2)], 2, 5⟩
theorem lw64 : lwB cs64 = true := by decide +kernel
abbrev cs65 : Cs := ⟨.tup [.tup [.int (0), .int (0), .int (0)], .tup [.int (0), .int (1), .int (1)], .tup [.int (0), .int (1), .int (2)]], .tup [.int (0), .int (1), .int (2)], 2, 7⟩
theorem lw65 : lwB cs65 = true := by decide +kernel
abbrev cs66 : Cs := ⟨.tup [.tup [.int (0), .int (1), .int (2)], .tup [.int (1), .int (1), .int (2)], .tup [.int (2), .int (2), .int (2)]], .tup [.int (0), .int (1), .int (2)], 2, 7⟩
theorem lw66 : lwB cs66 = true := by decide +kernel
abbrev cs67 : Cs := ⟨.tup [.tup [.int (0), .int (0), .int (0)], .tup [.int (1), .int (1), .int (1)], .tup [.int (2), .int (2), .int (2)]], .tup [.int (0), .int (1), .int (2)], 2, 3⟩
theorem lw67 : lwB cs67 = true := by decide +kernel
abbrev cs68 : Cs := ⟨.tup [.tup [.int (0), .int (1), .int (2)], .tup [.int (0), .int (1), .int (2)], .tup [.int (0), .int (1), .int (2)]], .tup [.int (0), .int (1), .int (2)], 2, 3⟩
theorem lw68 : lwB cs68 = true := by decide +kernel
abbrev cs69 : Cs := ⟨.tup [.tup [.int (0), .int (0), .int (0)], .tup [.int (0), .int (0), .int (0)], .tup [.int (0), .int (0), .int (0)]], .tup [.int (0), .int (1), .int (2)], 2, 3⟩
theorem lw69 : lwB cs69 = true := by decide +kernel
abbrev cs70 : Cs := ⟨.tup [.tup [.int (0), .int (0), .int (0)], .tup [.int (0), .int (1), .int (2)], .tup [.int (0), .int (2), .int (2)]], .tup [.int (0), .int (1), .int (2)], 2, 7⟩
theorem lw70 : lwB cs70 = true := by decide +kernel
abbrev cs71 : Cs := ⟨.tup [.tup [.int (0), .int (1), .int (2)], .tup [.int (1), .int (1), .int (1)], .tup [.int (2), .int (1), .int (2)]], .tup [.int (0), .int (1), .int (2)], 2, 7⟩
theorem lw71 : lwB cs71 = true := by decide +kernel
abbrev cs72 : Cs := ⟨.tup [.tup [.int (2), .int (0), .int (1)], .tup [.int (0), .int (1), .int (2)], .tup [.int (1), .int (2), .int (0)]], .tup [.int (0), .int (1), .int (2)], 2, 5⟩
theorem lw72 : lwB cs72 = true := by decide +kernel
abbrev cs73 : Cs := ⟨.tup [.tup [.int (0), .int (1), .int (0)], .tup [.int (1), .int (1), .int (1)], .tup [.int (0), .int (1), .int (2)]], .tup [.int (0), .int (1), .int (2)], 2, 7⟩
theorem lw73 : lwB cs73 = true := by decide +kernel
abbrev cs74 : Cs := ⟨.tup [.tup [.int (0), .int (0), .int (2)], .tup [.int (0), .int (1), .int (2)], .tup [.int (2), .int (2), .int (2)]], .tup [.int (0), .int (1), .int (2)], 2, 7⟩
theorem lw74 : lwB cs74 = true := by decide +kernel
abbrev cs75 : Cs := ⟨.tup [.tup [.int (1), .int (1), .int (1)], .tup [.int (1), .int (1), .int (1)], .tup [.int (1), .int (1), .int (1)]], .tup [.int (0), .int (1), .int (2)], 2, 3⟩
theorem lw75 : lwB cs75 = true := by decide +kernel
abbrev cs76 : Cs := ⟨.tup [.tup [.int (1), .int (2), .int (0)], .tup [.int (2), .int (0), .int (1)], .tup [.int (0), .int (1), .int (2)]], .tup [.int (0), .int (1), .int (2)], 2, 5⟩
theorem lw76 : lwB cs76 = true := by decide +kernel
abbrev cs77 : Cs := ⟨.tup [.tup [.int (2), .int (2), .int (2)], .tup [.int (2), .int (2), .int (2)], .tup [.int (2), .int (2), .int (2)]], .tup [.int (0), .int (1), .int (2)], 2, 3⟩
theorem lw77 : lwB cs77 = true := by decide +kernel
abbrev cs78 : Cs := ⟨.tup [.tup [.int (0), .int (0), .int (0)], .tup [.int (0), .int (1), .int (1)], .tup [.int (0), .int (1), .int (2)]], .tup [.int (2)], 2, 1⟩
theorem lw78 : lwB cs78 = true := by decide +kernel
abbrev cs79 : Cs := ⟨.tup [.tup [.int (1), .int (2), .int (0)], .tup [.int (2), .int (0), .int (1)], .tup [.int (0), .int (1), .int (2)]], .tup [.int (0)], 2, 5⟩
theorem lw79 : lwB cs79 = true := by decide +kernel
abbrev cs80 : Cs := ⟨.tup [.tup [.int (1), .int (2), .int (1)], .tup [.int (2), .int (1), .int (2)], .tup [.int (1), .int (2), .int (1)]], .tup [.int (0)], 2, 3⟩
theorem lw80 : lwB cs80 = true := by decide +kernel
abbrev cs81 : Cs := ⟨.tup [.tup [.int (1), .int (2), .int (2)], .tup [.int (2), .int (2), .int (2)], .tup [.int (2), .int (2), .int (2)]], .tup [.int (0)], 2, 5⟩
theorem lw81 : lwB cs81 = true := by decide +kernel
def css : List Cs := [cs0, cs1, cs2, cs3, cs4, cs5, cs6, cs7, cs8, cs9, cs10, cs11, cs12, cs13, cs14, cs15, cs16, cs17, cs18, cs19, cs20, cs21, cs22, cs23, cs24, cs25, cs26, cs27, cs28, cs29, cs30, cs31, cs32, cs33, cs34, cs35, cs36, cs37, cs38, cs39, cs40, cs41, cs42, cs43, cs44, cs45, cs46, cs47, cs48, cs49, cs50, cs51, cs52, cs53, cs54, cs55, cs56, cs57, cs58, cs59, cs60, cs61, cs62, cs63, cs64, cs65, cs66, cs67, cs68, cs69, cs70, cs71, cs72, cs73, cs74, cs75, cs76, cs77, cs78, cs79, cs80, cs81]
theorem css_ok : ∀ q ∈ css, lwB q = true := (List.forall_mem_cons.mpr ⟨lw0, (List.forall_mem_cons.mpr ⟨lw1, (List.forall_mem_cons.mpr ⟨lw2, (List.forall_mem_cons.mpr ⟨lw3, (List.forall_mem_cons.mpr ⟨lw4, (List.forall_mem_cons.mpr ⟨lw5, (List.forall_mem_cons.mpr ⟨lw6, (List.forall_mem_cons.mpr ⟨lw7, (List.forall_mem_cons.mpr ⟨lw8, (List.forall_mem_cons.mpr ⟨lw9, (List.forall_mem_cons.mpr ⟨lw10, (List.forall_mem_cons.mpr ⟨lw11, (List.forall_mem_cons.mpr ⟨lw12, (List.forall_mem_cons.mpr ⟨lw13, (List.forall_mem_cons.mpr ⟨lw14, (List.forall_mem_cons.mpr ⟨lw15, (List.forall_mem_cons.mpr ⟨lw16, (List.forall_mem_cons.mpr ⟨lw17, (List.forall_mem_cons.mpr ⟨lw18, (List.forall_mem_cons.mpr ⟨lw19, (List.forall_mem_cons.mpr ⟨lw20, (List.forall_mem_cons.mpr ⟨lw21, (List.forall_mem_cons.mpr ⟨lw22, (List.forall_mem_cons.mpr ⟨lw23, (List.forall_mem_cons.mpr ⟨lw24, (List.forall_mem_cons.mpr ⟨lw25, (List.forall_mem_cons.mpr ⟨lw26, (List.forall_mem_cons.mpr ⟨lw27, (List.forall_mem_cons.mpr ⟨lw28, (List.forall_mem_cons.mpr ⟨lw29, (List.forall_mem_cons.mpr ⟨lw30, (List.forall_mem_cons.mpr ⟨lw31, (List.forall_mem_cons.mpr ⟨lw32, (List.forall_mem_cons.mpr ⟨lw33, (List.forall_mem_cons.mpr ⟨lw34, (List.forall_mem_cons.mpr ⟨lw35, (List.forall_mem_cons.mpr ⟨lw36, (List.forall_mem_cons.mpr ⟨lw37, (List.forall_mem_cons.mpr ⟨lw38, (List.forall_mem_cons.mpr ⟨lw39, (List.forall_mem_cons.mpr ⟨lw40, (List.forall_mem_cons.mpr ⟨lw41, (List.forall_mem_cons.mpr ⟨lw42, (List.forall_mem_cons.mpr ⟨lw43, (List.forall_mem_cons.mpr ⟨lw44, (List.forall_mem_cons.mpr ⟨lw45, (List.forall_mem_cons.mpr ⟨lw46, (List.forall_mem_cons.mpr ⟨lw47, (List.forall_mem_cons.mpr ⟨lw48, (List.forall_mem_cons.mpr ⟨lw49, (List.forall_mem_cons.mpr ⟨lw50, (List.forall_mem_cons.mpr ⟨lw51, (List.forall_mem_cons.mpr ⟨lw52, (List.forall_mem_cons.mpr ⟨lw53, (List.forall_mem_cons.mpr ⟨lw54, (List.forall_mem_cons.mpr ⟨lw55, (List.forall_mem_cons.mpr ⟨lw56, (List.forall_mem_cons.mpr ⟨lw57, (List.forall_mem_cons.mpr ⟨lw58, (List.forall_mem_cons.mpr ⟨lw59, (List.forall_mem_cons.mpr ⟨lw60, (List.forall_mem_cons.mpr ⟨lw61, (List.forall_mem_cons.mpr ⟨lw62, (List.forall_mem_cons.mpr ⟨lw63, (List.forall_mem_cons.mpr ⟨lw64, (List.forall_mem_cons.mpr ⟨lw65, (List.forall_mem_cons.mpr ⟨lw66, (List.forall_mem_cons.mpr ⟨lw67, (List.forall_mem_cons.mpr ⟨lw68, (List.forall_mem_cons.mpr ⟨lw69, (List.forall_mem_cons.mpr ⟨lw70, (List.forall_mem_cons.mpr ⟨lw71, (List.forall_mem_cons.mpr ⟨lw72, (List.forall_mem_cons.mpr ⟨lw73, (List.forall_mem_cons.mpr ⟨lw74, (List.forall_mem_cons.mpr ⟨lw75, (List.forall_mem_cons.mpr ⟨lw76, (List.forall_mem_cons.mpr ⟨lw77, (List.forall_mem_cons.mpr ⟨lw78, (List.forall_mem_cons.mpr ⟨lw79, (List.forall_mem_cons.mpr ⟨lw80, (List.forall_mem_cons.mpr ⟨lw81, (fun _ h => nomatch h)⟩)⟩)⟩)⟩)⟩)⟩)⟩)⟩)⟩)⟩)⟩)⟩)⟩)⟩)⟩)⟩)⟩)⟩)⟩)⟩)⟩)⟩)⟩)⟩)⟩)⟩)⟩)⟩)⟩)⟩)⟩)⟩)⟩)⟩)⟩)⟩)⟩)⟩)⟩)⟩)⟩)⟩)⟩)⟩)⟩)⟩)⟩)⟩)⟩)⟩)⟩)⟩)⟩)⟩)⟩)⟩)⟩)⟩)⟩)⟩)⟩)⟩)⟩)⟩)⟩)⟩)⟩)⟩)⟩)⟩)⟩)⟩)⟩)⟩)⟩)⟩)⟩)⟩)⟩)⟩)⟩)⟩)
def tTold : FM := fun ds G => if css.any (fun q => sames ds [q.g, q.ev, .int q.c, .int (q.n + 1)]) then .ok (.bl true) G else .st
theorem told_less : ∀ ds G, tTold ds G = .st ∨ pureZ f__law_is_told ds G = tTold ds G := fun ds G => by
  unfold tTold
  by_cases h : css.any (fun q => sames ds [q.g, q.ev, .int q.c, .int (q.n + 1)]) = true
  · right
    rw [if_pos h]
    obtain ⟨q, hq, e⟩ := List.any_eq_true.mp h
    rw [sames_eq _ _ e]
    exact told_case (css_ok q hq) G
  · left
    rw [if_neg h]
end K47

set_option Elab.async false
set_option linter.all false
set_option maxRecDepth 100000
set_option maxHeartbeats 4000000
set_option autoImplicit false
namespace K47
open PySem L2 DL
def s_law_0 : FS := (sSet 3 (fBin oAdd (fC (.int 1)) (fCall [0, 1] f__law_draw (fLen 2 (fCons (fVar 1) (fCons (fC (.int 3)) fNil))))))
def s_law_1 : FS := (sSet 4 (fBin oAdd (fC (.int 1)) (fCall [0, 1] f__law_draw (fLen 2 (fCons (fVar 1) (fCons (fIf (fB (fBin oEq (fVar 3) (fC (.int 2)))) (fC (.int 4)) (fC (.int 2))) fNil))))))
def s_law_2 : FS := (sPar 5 6 (fLstRg true (rg1 (fVar 3))) (fLstR fNil))
def s_law_3 : FS := (sWhile FUEL (fB (fBin oNe (fVar 5) (fLst fNil))) (sExpr (fBm isLst mAppend (fVar 6) (fCons (fBm isLst mPopAt (fVar 5) (fCons (fCall [0, 1] f__law_draw (fLen 2 (fCons (fVar 1) (fCons (fBi gLen (fCons (fVar 5) fNil)) fNil)))) fNil)) fNil))))
def s_law_4 : FS := (sPar 7 8 (fTupRg (rg1 (fVar 3))) (fCall [0, 1] (pureZ f__law_power) (fLen 2 (fCons (fVar 4) (fCons (fVar 3) fNil)))))
def s_law_5 : FS := (sSet 9 (fLstR (fCons (fBin oMul (fVar 3) (fVar 4)) (fCons (fVar 8) (fCons (fVar 8) (fCons (fBin oAdd (fBin oMul (fVar 3) (fBin oSub (fVar 4) (fC (.int 1)))) (fC (.int 1))) (fCons (fBin oAdd (fBin oMul (fVar 3) (fBin oSub (fVar 4) (fC (.int 1)))) (fC (.int 1))) fNil)))))))
def s_law_6 : FS := (sExpr (fBm isLst mAppend (fVar 9) (fCons (fIf (fB (fBin oGt (fVar 3) (fC (.int 1)))) (fBin oMul (fC (.int 2)) (fVar 4)) (fVar 4)) fNil)))
def s_law_7 : FS := (sFor (rng1 (fC (.int 6))) (gSlot 10) (sIf (gNot (fB (fCall [0, 1, 2, 3] tTold (fLen 4 (fCons (fCall [0, 1] (pureZ f__law_anew) (fLen 2 (fCons (fCall [0, 1] (pureZ f__law_known) (fLen 2 (fCons (fVar 3) (fCons (fVar 10) fNil)))) (fCons (fVar 6) fNil)))) (fCons (fVar 7) (fCons (fVar 4) (fCons (fBin oIxA (fVar 9) (fVar 10)) fNil)))))))) (sRet (fC (.bl false))) sNil))
def s_law_8 : FS := (sIf (gNot (fB (fCall [0, 1, 2, 3] tTold (fLen 4 (fCons (fCall [0, 1] (pureZ f__law_known) (fLen 2 (fCons (fVar 3) (fCons (fC (.int 1)) fNil)))) (fCons (fTup (fCons (fBin oSub (fVar 3) (fC (.int 1))) fNil)) (fCons (fVar 4) (fCons (fVar 4) fNil)))))))) (sRet (fC (.bl false))) sNil)
def s_law_9 : FS := (sSet 11 (fBin oAdd (fC (.int 1)) (fCall [0, 1] f__law_draw (fLen 2 (fCons (fVar 1) (fCons (fVar 3) fNil))))))
def s_law_10 : FS := (sSet 12 (fBin oSub (fBin oAdd (fVar 3) (fC (.int 1))) (fVar 11)))
def s_law_11 : FS := (sSet 13 (fBin oIxA (fLC [14] (rng2 (fVar 11) (fBin oAdd (fVar 11) (fVar 12))) (gSlot 14) (fB (fBin oEq (fBin oMod (fBi gInt (fCons (fVar 14) fNil)) (fVar 12)) (fC (.int 0)))) (fVar 14)) (fC (.int 0))))
def s_law_12 : FS := (sIf (gNot (fB (fCall [0, 1, 2, 3] tTold (fLen 4 (fCons (fCall [0, 1] (pureZ f__law_steps) (fLen 2 (fCons (fVar 11) (fCons (fVar 12) fNil)))) (fCons (fTup (fCons (fC (.int 0)) fNil)) (fCons (fVar 4) (fCons (fBin oMul (fVar 13) (fVar 4)) fNil)))))))) (sRet (fC (.bl false))) sNil)
/-! law -/
abbrev st_law : Stmt := top 34
theorem sc_law : FnScope ["_law_script", "_law_deck_here", "_law_turn", "_law_size", "_law_count", "_law_left", "_law_spots", "_law_every", "_law_power_here", "_law_dues", "_law_way", "_law_early", "_law_ring", "_law_steady_steps", "_law_x"] ["_law_script"] (defScope st_law) := ⟨rfl, rfl, rfl, by decide +kernel, rfl, by decide +kernel, by decide +kernel⟩
def s_law : FS := (sSeq (sSet 1 (fCall [0] f__law_deck (fLen 1 (fCons (fVar 0) fNil))))
    (sSeq (sFor (rng1 (fC (.int 2))) (gSlot 2) (sSeq s_law_0
    (sSeq s_law_1
    (sSeq s_law_2
    (sSeq s_law_3
    (sSeq s_law_4
    (sSeq s_law_5
    (sSeq s_law_6
    (sSeq s_law_7
    (sSeq s_law_8
    (sSeq s_law_9
    (sSeq s_law_10
    (sSeq s_law_11
    s_law_12)))))))))))))
    (sRet (fC (.bl true)))))
def f_law : FM := mir 15 s_law
theorem kb_is_integer_0 {K : PySem.W.Frag} {f : Addr} {fd : FuncData} (F : Fun K "is_integer" "is_integer" st_is_integer f fd) : KB K fd ["thing"] 0 1 [] [0] :=
  kb_of F fun _ _ _ _ _ _ fs us ws h1 h2 h3 => match fs, us, ws, h1, h2, h3 with | [], [_], [], _, _, _ => rfl
theorem kb_is_value_1 {K : PySem.W.Frag} {f : Addr} {fd : FuncData} (F : Fun K "is_value" "is_value" st_is_value f fd) : KB K fd ["size", "thing"] 0 2 [] [0, 1] :=
  kb_of F fun _ _ _ _ _ _ fs us ws h1 h2 h3 => match fs, us, ws, h1, h2, h3 with | [], [_, _], [], _, _, _ => rfl
theorem kb_are_rows_2 {K : PySem.W.Frag} {f : Addr} {fd : FuncData} (F : Fun K "are_rows" "are_rows" st_are_rows f fd) : KB K fd ["thing"] 0 1 [] [0] :=
  kb_of F fun _ _ _ _ _ _ fs us ws h1 h2 h3 => match fs, us, ws, h1, h2, h3 with | [], [_], [], _, _, _ => rfl
theorem kb_odd_triple_3 {K : PySem.W.Frag} {f : Addr} {fd : FuncData} (F : Fun K "odd_triple" "odd_triple" st_odd_triple f fd) : KB K fd ["rows"] 0 1 [] [0] :=
  kb_of F fun _ _ _ _ _ _ fs us ws h1 h2 h3 => match fs, us, ws, h1, h2, h3 with | [], [_], [], _, _, _ => rfl
theorem kb_Table___len___4 {K : PySem.W.Frag} {f : Addr} {fd : FuncData} (F : Fun K "__len__" "Table.__len__" st_Table___len__ f fd) : KB K fd ["self"] 1 0 [] [] :=
  kb_of F fun _ _ _ _ _ _ fs us ws h1 h2 h3 => match fs, us, ws, h1, h2, h3 with | [_], [], [], _, _, _ => rfl
theorem kb_steady_5 {K : PySem.W.Frag} {f : Addr} {fd : FuncData} (F : Fun K "steady" "steady" st_steady f fd) : KB K fd ["table"] 0 1 [] [0] :=
  kb_of F fun _ _ _ _ _ _ fs us ws h1 h2 h3 => match fs, us, ws, h1, h2, h3 with | [], [_], [], _, _, _ => rfl
theorem kb_Table_joined_6 {K : PySem.W.Frag} {f : Addr} {fd : FuncData} (F : Fun K "joined" "Table.joined" st_Table_joined f fd) : KB K fd ["self", "a", "b"] 1 2 [] [0, 1] :=
  kb_of F fun _ _ _ _ _ _ fs us ws h1 h2 h3 => match fs, us, ws, h1, h2, h3 with | [_], [_, _], [], _, _, _ => rfl
theorem kb_Endings_pairs_behind_7 {K : PySem.W.Frag} {f : Addr} {fd : FuncData} (F : Fun K "pairs_behind" "Endings.pairs_behind" st_Endings_pairs_behind f fd) : KB K fd ["self", "pairs", "value", "thing"] 1 3 [] [0, 1, 2] :=
  kb_of F fun _ _ _ _ _ _ fs us ws h1 h2 h3 => match fs, us, ws, h1, h2, h3 with | [_], [_, _, _], [], _, _, _ => rfl
theorem kb_Endings___init___8 {K : PySem.W.Frag} {f : Addr} {fd : FuncData} (F : Fun K "__init__" "Endings.__init__" st_Endings___init__ f fd) : KB K fd ["self", "table", "k"] 1 2 [] [0, 1] :=
  kb_of F fun _ _ _ _ _ _ fs us ws h1 h2 h3 => match fs, us, ws, h1, h2, h3 with | [_], [_, _], [], _, _, _ => rfl
theorem kb_Endings_state_behind_9 {K : PySem.W.Frag} {f : Addr} {fd : FuncData} (F : Fun K "state_behind" "Endings.state_behind" st_Endings_state_behind f fd) : KB K fd ["self", "state", "thing"] 1 2 [] [0, 1] :=
  kb_of F fun _ _ _ _ _ _ fs us ws h1 h2 h3 => match fs, us, ws, h1, h2, h3 with | [_], [_, _], [], _, _, _ => rfl
theorem kb_longest_without_10 {K : PySem.W.Frag} {f : Addr} {fd : FuncData} (F : Fun K "longest_without" "longest_without" st_longest_without f fd) : KB K fd ["table", "values", "k"] 0 3 [] [0, 1, 2] :=
  kb_of F fun _ _ _ _ _ _ fs us ws h1 h2 h3 => match fs, us, ws, h1, h2, h3 with | [], [_, _, _], [], _, _, _ => rfl
theorem kb_Table___init___11 {K : PySem.W.Frag} {f : Addr} {fd : FuncData} (F : Fun K "__init__" "Table.__init__" st_Table___init__ f fd) : KB K fd ["self", "rows"] 1 1 [] [0] :=
  kb_of F fun _ _ _ _ _ _ fs us ws h1 h2 h3 => match fs, us, ws, h1, h2, h3 with | [_], [_], [], _, _, _ => rfl
theorem kb_sure_length_12 {K : PySem.W.Frag} {f : Addr} {fd : FuncData} (F : Fun K "sure_length" "sure_length" st_sure_length f fd) : KB K fd ["table", "values", "k"] 0 0 ["k", "values", "table"] [2, 1, 0] :=
  kb_of F fun _ _ _ _ _ _ fs us ws h1 h2 h3 => match fs, us, ws, h1, h2, h3 with | [], [], [_, _, _], _, _, _ => rfl
theorem kb_sure_length_13 {K : PySem.W.Frag} {f : Addr} {fd : FuncData} (F : Fun K "sure_length" "sure_length" st_sure_length f fd) : KB K fd ["table", "values", "k"] 0 3 [] [0, 1, 2] :=
  kb_of F fun _ _ _ _ _ _ fs us ws h1 h2 h3 => match fs, us, ws, h1, h2, h3 with | [], [_, _, _], [], _, _, _ => rfl
theorem kb__law_deck_14 {K : PySem.W.Frag} {f : Addr} {fd : FuncData} (F : Fun K "_law_deck" "_law_deck" st__law_deck f fd) : KB K fd ["_law_script"] 0 1 [] [0] :=
  kb_of F fun _ _ _ _ _ _ fs us ws h1 h2 h3 => match fs, us, ws, h1, h2, h3 with | [], [_], [], _, _, _ => rfl
theorem kb__law_draw_15 {K : PySem.W.Frag} {f : Addr} {fd : FuncData} (F : Fun K "_law_draw" "_law_draw" st__law_draw f fd) : KB K fd ["_law_deck_here", "_law_size"] 0 2 [] [0, 1] :=
  kb_of F fun _ _ _ _ _ _ fs us ws h1 h2 h3 => match fs, us, ws, h1, h2, h3 with | [], [_, _], [], _, _, _ => rfl
theorem kb__law_power_16 {K : PySem.W.Frag} {f : Addr} {fd : FuncData} (F : Fun K "_law_power" "_law_power" st__law_power f fd) : KB K fd ["_law_base", "_law_count"] 0 2 [] [0, 1] :=
  kb_of F fun _ _ _ _ _ _ fs us ws h1 h2 h3 => match fs, us, ws, h1, h2, h3 with | [], [_, _], [], _, _, _ => rfl
theorem kb__law_known_17 {K : PySem.W.Frag} {f : Addr} {fd : FuncData} (F : Fun K "_law_known" "_law_known" st__law_known f fd) : KB K fd ["_law_size", "_law_way"] 0 2 [] [0, 1] :=
  kb_of F fun _ _ _ _ _ _ fs us ws h1 h2 h3 => match fs, us, ws, h1, h2, h3 with | [], [_, _], [], _, _, _ => rfl
theorem kb__law_anew_18 {K : PySem.W.Frag} {f : Addr} {fd : FuncData} (F : Fun K "_law_anew" "_law_anew" st__law_anew f fd) : KB K fd ["_law_grid", "_law_spots"] 0 2 [] [0, 1] :=
  kb_of F fun _ _ _ _ _ _ fs us ws h1 h2 h3 => match fs, us, ws, h1, h2, h3 with | [], [_, _], [], _, _, _ => rfl
theorem kb__law_is_told_19 {K : PySem.W.Frag} {f : Addr} {fd : FuncData} (F : Fun K "_law_is_told" "_law_is_told" st__law_is_told f fd) : KB K fd ["_law_grid", "_law_some", "_law_count", "_law_due"] 0 4 [] [0, 1, 2, 3] :=
  kb_of F fun _ _ _ _ _ _ fs us ws h1 h2 h3 => match fs, us, ws, h1, h2, h3 with | [], [_, _, _, _], [], _, _, _ => rfl
theorem kb__law_steps_20 {K : PySem.W.Frag} {f : Addr} {fd : FuncData} (F : Fun K "_law_steps" "_law_steps" st__law_steps f fd) : KB K fd ["_law_early", "_law_ring"] 0 2 [] [0, 1] :=
  kb_of F fun _ _ _ _ _ _ fs us ws h1 h2 h3 => match fs, us, ws, h1, h2, h3 with | [], [_, _], [], _, _, _ => rfl
structure Txt (Y : Tx) (K : PySem.W.Frag) (cls : Nat → Addr) (tb : List (Addr × Str)) : Prop where
  F_is_integer : ∃ (f : Addr) (fd : FuncData), Y.mg "is_integer" = some (.ref f) ∧ Fun K "is_integer" "is_integer" st_is_integer f fd
  F_is_value : ∃ (f : Addr) (fd : FuncData), Y.mg "is_value" = some (.ref f) ∧ Fun K "is_value" "is_value" st_is_value f fd
  F_are_rows : ∃ (f : Addr) (fd : FuncData), Y.mg "are_rows" = some (.ref f) ∧ Fun K "are_rows" "are_rows" st_are_rows f fd
  F_odd_triple : ∃ (f : Addr) (fd : FuncData), Y.mg "odd_triple" = some (.ref f) ∧ Fun K "odd_triple" "odd_triple" st_odd_triple f fd
  F_Table___init__ : ∃ (f : Addr) (fd : FuncData), Y.mg "Table" = some (.ref (cls 0)) ∧ Mk K (cls 0) f ∧ Fun K "__init__" "Table.__init__" st_Table___init__ f fd
  F_Table___len__ : ∃ (f : Addr) (fd : FuncData), Meth K (cls 0) "__len__" f ∧ Fun K "__len__" "Table.__len__" st_Table___len__ f fd
  F_Table_joined : ∃ (f : Addr) (fd : FuncData), Meth K (cls 0) "joined" f ∧ Fun K "joined" "Table.joined" st_Table_joined f fd
  F_steady : ∃ (f : Addr) (fd : FuncData), Y.mg "steady" = some (.ref f) ∧ Fun K "steady" "steady" st_steady f fd
  F_Endings___init__ : ∃ (f : Addr) (fd : FuncData), Y.mg "Endings" = some (.ref (cls 1)) ∧ Mk K (cls 1) f ∧ Fun K "__init__" "Endings.__init__" st_Endings___init__ f fd
  F_Endings_pairs_behind : ∃ (f : Addr) (fd : FuncData), Meth K (cls 1) "pairs_behind" f ∧ Fun K "pairs_behind" "Endings.pairs_behind" st_Endings_pairs_behind f fd
  F_Endings_state_behind : ∃ (f : Addr) (fd : FuncData), Meth K (cls 1) "state_behind" f ∧ Fun K "state_behind" "Endings.state_behind" st_Endings_state_behind f fd
  F_longest_without : ∃ (f : Addr) (fd : FuncData) (cc P : Addr), Y.mg "longest_without" = some (.ref f) ∧ Fun K "longest_without" "longest_without" st_longest_without f fd ∧ fd.code = .ref cc ∧ LamX.TabB Y.base Y.mg cc P ∧ tb = [(P, ("longest_without.<locals>.<lambda>" : Str))]
  F_sure_length : ∃ (f : Addr) (fd : FuncData), Y.mg "sure_length" = some (.ref f) ∧ Fun K "sure_length" "sure_length" st_sure_length f fd
  F__law_deck : ∃ (f : Addr) (fd : FuncData), Y.mg "_law_deck" = some (.ref f) ∧ Fun K "_law_deck" "_law_deck" st__law_deck f fd
  F__law_draw : ∃ (f : Addr) (fd : FuncData), Y.mg "_law_draw" = some (.ref f) ∧ Fun K "_law_draw" "_law_draw" st__law_draw f fd
  F__law_known : ∃ (f : Addr) (fd : FuncData), Y.mg "_law_known" = some (.ref f) ∧ Fun K "_law_known" "_law_known" st__law_known f fd
  F__law_steps : ∃ (f : Addr) (fd : FuncData), Y.mg "_law_steps" = some (.ref f) ∧ Fun K "_law_steps" "_law_steps" st__law_steps f fd
  F__law_anew : ∃ (f : Addr) (fd : FuncData), Y.mg "_law_anew" = some (.ref f) ∧ Fun K "_law_anew" "_law_anew" st__law_anew f fd
  F__law_power : ∃ (f : Addr) (fd : FuncData), Y.mg "_law_power" = some (.ref f) ∧ Fun K "_law_power" "_law_power" st__law_power f fd
  F__law_is_told : ∃ (f : Addr) (fd : FuncData), Y.mg "_law_is_told" = some (.ref f) ∧ Fun K "_law_is_told" "_law_is_told" st__law_is_told f fd
  F_law : ∃ (f : Addr) (fd : FuncData), Y.mg "law" = some (.ref f) ∧ Fun K "law" "law" st_law f fd
  b_all : Y.mg "all" = none
  b_bool : Y.mg "bool" = none
  b_enumerate : Y.mg "enumerate" = none
  b_int : Y.mg "int" = none
  b_isinstance : Y.mg "isinstance" = none
  b_len : Y.mg "len" = none
  b_list : Y.mg "list" = none
  b_max : Y.mg "max" = none
  b_min : Y.mg "min" = none
  b_range : Y.mg "range" = none
  b_repr : Y.mg "repr" = none
  b_sorted : Y.mg "sorted" = none
  b_tuple : Y.mg "tuple" = none
  b_zip : Y.mg "zip" = none
  g_NOTHING : ∃ t, Y.mg "NOTHING" = some (.int (-1) t)
  c_0 : Cls K (cls 0)
  c_1 : Cls K (cls 1)
  n_0_rows : NoAttr K (cls 0) "rows"
  n_1_most : NoAttr K (cls 1) "most"
  n_1_start : NoAttr K (cls 1) "start"
  n_1_steady_values : NoAttr K (cls 1) "steady_values"
  n_1_table : NoAttr K (cls 1) "table"
theorem ok_is_integer {Y : Tx} {K : PySem.W.Frag} {cls : Nat → Addr} {tb : List (Addr × Str)} (Z : Txt Y K cls tb) : Kd Y (Tc Y K cls tb) 1 "is_integer" st_is_integer ["thing"] f_is_integer := by
  obtain ⟨fa, fd, hm, F⟩ := Z.F_is_integer
  refine ⟨fa, fd, hm, F, fn_d F sc_is_integer fun X E B hX => ?_⟩
  obtain ⟨cdv, A, outer, sh, H, hcd, rfl⟩ := hX
  exact (jb_one (js_ret (j_and (j_isi (ty := "int") (jv 0) rfl Z.b_isinstance rfl Z.b_int) (j_one (j_not (j_isi (ty := "bool") (jv 0) rfl Z.b_isinstance rfl Z.b_bool))))))
theorem ok_is_value {Y : Tx} {K : PySem.W.Frag} {cls : Nat → Addr} {tb : List (Addr × Str)} (Z : Txt Y K cls tb) : Kd Y (Tc Y K cls tb) 2 "is_value" st_is_value ["size", "thing"] f_is_value := by
  obtain ⟨fa, fd, hm, F⟩ := Z.F_is_value
  refine ⟨fa, fd, hm, F, fn_d F sc_is_value fun X E B hX => ?_⟩
  obtain ⟨cdv, A, outer, sh, H, hcd, rfl⟩ := hX
  exact (jb_one (js_ret (j_and (j_callZ (k := 1) B ⟨rfl, rfl, rfl, rfl, rfl⟩ ((ok_is_integer Z).mono (by decide)) rfl (fun _ _ F => kb_is_integer_0 F) rfl (jc_pos (n := 1) (ja_cons (jv 1) ja_nil))) (j_one (j_chain op_le od_cmp op_lt od_cmp ji (jv 1) (jv 0))))))
theorem ok_are_rows {Y : Tx} {K : PySem.W.Frag} {cls : Nat → Addr} {tb : List (Addr × Str)} (Z : Txt Y K cls tb) : Kd Y (Tc Y K cls tb) 3 "are_rows" st_are_rows ["thing"] f_are_rows := by
  obtain ⟨fa, fd, hm, F⟩ := Z.F_are_rows
  refine ⟨fa, fd, hm, F, fn_d F sc_are_rows fun X E B hX => ?_⟩
  obtain ⟨cdv, A, outer, sh, H, hcd, rfl⟩ := hX
  exact (jb_cons (js_if (jt_w (jw_or (jt_not (jtv (j_isi (ty := "tuple") (jv 0) rfl Z.b_isinstance rfl Z.b_tuple))) (jw_or1 (jt_cmp (op_eqD B.u64) od_eq (jv 0) (j_tup ja_nil))))) (jb_one (js_ret jbl)) jb_nil)
    (jb_cons (js_for (own := [1]) B.po B.cm (ji_val (jv 0)) (jg_name B.nd rfl (.inl rfl)) (jb_cons (js_if (jt_w (jw_or (jt_not (jtv (j_isi (ty := "tuple") (jv 1) rfl Z.b_isinstance rfl Z.b_tuple))) (jw_or1 (jt_cmp (op_neD B.u64) od_ne (j_bi cr_lenD bd_len rfl Z.b_len (ja_cons (jv 1) ja_nil)) (j_bi cr_lenD bd_len rfl Z.b_len (ja_cons (jv 0) ja_nil)))))) (jb_one (js_ret jbl)) jb_nil)
    (jb_one (js_if (jt_not (jtv (j_bi (cr_all B.cm) bd_all rfl Z.b_all (ja_cons (j_lc (own := [("number", 2)]) B.cm B.nd (ji_val (jv 1)) (by kernel_rfl) (fun _ _ _ _ _ => (jg_name B.blk.nd rfl (.inl rfl))) (fun _ _ _ _ _ => jts_nil) (fun _ _ _ _ _ => (j_callZ (k := 2) B.blk ⟨rfl, rfl, rfl, rfl, rfl⟩ ((ok_is_value Z).mono (by decide)) rfl (fun _ _ F => kb_is_value_1 F) rfl (jc_pos (n := 2) (ja_cons (j_bi cr_lenD bd_len rfl Z.b_len (ja_cons (jv 0) ja_nil)) (ja_cons (jv 2) ja_nil)))))) ja_nil)))) (jb_one (js_ret jbl)) jb_nil))))
    (jb_one (js_ret jbl))))
theorem ok_odd_triple {Y : Tx} {K : PySem.W.Frag} {cls : Nat → Addr} {tb : List (Addr × Str)} (Z : Txt Y K cls tb) : Kd Y (Tc Y K cls tb) 1 "odd_triple" st_odd_triple ["rows"] f_odd_triple := by
  obtain ⟨fa, fd, hm, F⟩ := Z.F_odd_triple
  refine ⟨fa, fd, hm, F, fn_d F sc_odd_triple fun X E B hX => ?_⟩
  obtain ⟨cdv, A, outer, sh, H, hcd, rfl⟩ := hX
  exact (jb_cons (js_for (own := [1, 2]) B.po B.cm (ji_enum rfl Z.b_enumerate (jv 0)) (jg_tup B.cm (jgs_cons (jg_name B.nd rfl (.inl rfl)) (jgs_cons (jg_name B.nd rfl (.inl rfl)) jgs_nil)) (gs_len1 (gs_len1 gs_len0))) (jb_one (js_for (own := [3, 4]) B.po B.cm (ji_enum rfl Z.b_enumerate (jv 2)) (jg_tup B.cm (jgs_cons (jg_name B.nd rfl (.inl rfl)) (jgs_cons (jg_name B.nd rfl (.inl rfl)) jgs_nil)) (gs_len1 (gs_len1 gs_len0))) (jb_one (js_for (own := [5]) B.po B.cm (ji_range1 rfl Z.b_range (j_bi cr_lenD bd_len rfl Z.b_len (ja_cons (jv 0) ja_nil))) (jg_name B.nd rfl (.inl rfl)) (jb_one (js_if (jt_cmp (op_neD B.u64) od_ne (jixA B rfl rfl (jixA B rfl rfl (jv 0) (jv 4)) (jv 5)) (jixA B rfl rfl (jv 2) (jixA B rfl rfl (jixA B rfl rfl (jv 0) (jv 3)) (jv 5)))) (jb_one (js_ret (j_tup (ja_cons (jv 1) (ja_cons (jv 3) (ja_cons (jv 5) ja_nil)))))) jb_nil)))))))
    (jb_one (js_ret jnon)))
theorem ok_Table___init__ {Y : Tx} {K : PySem.W.Frag} {cls : Nat → Addr} {tb : List (Addr × Str)} (Z : Txt Y K cls tb) : Kc Y (Tc Y K cls tb) 4 0 "Table" "Table.__init__" st_Table___init__ ["self", "rows"] f_Table___init__ := by
  obtain ⟨fa, fd, hm, hk, F⟩ := Z.F_Table___init__
  refine ⟨fa, fd, hm, hk, F, fn_d F sc_Table___init__ fun X E B hX => ?_⟩
  obtain ⟨cdv, A, outer, sh, H, hcd, rfl⟩ := hX
  exact (jb_cons (js_if (jt_not (jtv (j_callZ (k := 3) B ⟨rfl, rfl, rfl, rfl, rfl⟩ ((ok_are_rows Z).mono (by decide)) rfl (fun _ _ F => kb_are_rows_2 F) rfl (jc_pos (n := 1) (ja_cons (jv 1) ja_nil))))) (jb_one js_st) jb_nil)
    (jb_cons (js_set (i := 2) B.nd rfl (.inl rfl) (j_callZ (k := 3) B ⟨rfl, rfl, rfl, rfl, rfl⟩ ((ok_odd_triple Z).mono (by decide)) rfl (fun _ _ F => kb_odd_triple_3 F) rfl (jc_pos (n := 1) (ja_cons (jv 1) ja_nil))))
    (jb_cons (js_if (jt_cmp op_notN od_isnot (jv 2) jnon) (jb_one js_st) jb_nil)
    (jb_one (js_fld (FldOk.cons (i := 0) rfl Z.c_0 Z.n_0_rows FldOk.nil) (jv 0) (jv 1))))))
theorem ok_Table___len__ {Y : Tx} {K : PySem.W.Frag} {cls : Nat → Addr} {tb : List (Addr × Str)} (Z : Txt Y K cls tb) : Km Y (Tc Y K cls tb) 1 0 "__len__" "Table.__len__" st_Table___len__ ["self"] f_Table___len__ := by
  obtain ⟨fa, fd, hm, F⟩ := Z.F_Table___len__
  refine ⟨fa, fd, hm, F, fn_d F sc_Table___len__ fun X E B hX => ?_⟩
  obtain ⟨cdv, A, outer, sh, H, hcd, rfl⟩ := hX
  exact (jb_one (js_ret (j_bi cr_lenD bd_len rfl Z.b_len (ja_cons (j_fld (FldOk.cons (i := 0) rfl Z.c_0 Z.n_0_rows FldOk.nil) (jv 0)) ja_nil))))
theorem ok_Table_joined {Y : Tx} {K : PySem.W.Frag} {cls : Nat → Addr} {tb : List (Addr × Str)} (Z : Txt Y K cls tb) : Km Y (Tc Y K cls tb) 1 0 "joined" "Table.joined" st_Table_joined ["self", "a", "b"] f_Table_joined := by
  obtain ⟨fa, fd, hm, F⟩ := Z.F_Table_joined
  refine ⟨fa, fd, hm, F, fn_d F sc_Table_joined fun X E B hX => ?_⟩
  obtain ⟨cdv, A, outer, sh, H, hcd, rfl⟩ := hX
  exact (jb_one (js_ret (jixA B rfl rfl (jixA B rfl rfl (j_fld (FldOk.cons (i := 0) rfl Z.c_0 Z.n_0_rows FldOk.nil) (jv 0)) (jv 1)) (jv 2))))
theorem ok_steady {Y : Tx} {K : PySem.W.Frag} {cls : Nat → Addr} {tb : List (Addr × Str)} (Z : Txt Y K cls tb) : Kd Y (Tc Y K cls tb) 3 "steady" st_steady ["table"] f_steady := by
  obtain ⟨fa, fd, hm, F⟩ := Z.F_steady
  refine ⟨fa, fd, hm, F, fn_d F sc_steady fun X E B hX => ?_⟩
  obtain ⟨cdv, A, outer, sh, H, hcd, rfl⟩ := hX
  exact (jb_one (js_ret (j_ty call_tuple_of bd_tup rfl Z.b_tuple (ja_cons (j_lc (own := [("a", 1)]) B.cm B.nd (ji_range1 rfl Z.b_range (j_lenO (k := 1) B ⟨rfl, rfl, rfl, rfl, rfl⟩ ((ok_Table___len__ Z).mono (by decide)) Z.c_0 rfl rfl Z.b_len (fun _ _ F => kb_Table___len___4 F) (jv 0))) (by kernel_rfl) (fun _ _ _ _ _ => (jg_name B.blk.nd rfl (.inl rfl))) (fun _ _ _ _ _ => (jts_one (jt_cmp (op_eqD B.blk.u64) od_eq (jixA B.blk rfl rfl (jixA B.blk rfl rfl (j_fld (FldOk.cons (i := 0) rfl Z.c_0 Z.n_0_rows FldOk.nil) (jv 0)) (jv 1)) (jv 1)) (jv 1)))) (fun _ _ _ _ _ => (jv 1))) ja_nil))))
theorem ok_Endings___init__ {Y : Tx} {K : PySem.W.Frag} {cls : Nat → Addr} {tb : List (Addr × Str)} (Z : Txt Y K cls tb) : Kc Y (Tc Y K cls tb) 4 1 "Endings" "Endings.__init__" st_Endings___init__ ["self", "table", "k"] f_Endings___init__ := by
  obtain ⟨fa, fd, hm, hk, F⟩ := Z.F_Endings___init__
  refine ⟨fa, fd, hm, hk, F, fn_d F sc_Endings___init__ fun X E B hX => ?_⟩
  obtain ⟨cdv, A, outer, sh, H, hcd, rfl⟩ := hX
  exact (jb_cons (js_fld (FldOk.cons (i := 0) rfl Z.c_1 Z.n_1_table FldOk.nil) (jv 0) (jv 1))
    (jb_cons (js_fld (FldOk.cons (i := 1) rfl Z.c_1 Z.n_1_most FldOk.nil) (jv 0) (jv 2))
    (jb_cons (js_fld (FldOk.cons (i := 2) rfl Z.c_1 Z.n_1_steady_values FldOk.nil) (jv 0) (j_callZ (k := 3) B ⟨rfl, rfl, rfl, rfl, rfl⟩ ((ok_steady Z).mono (by decide)) rfl (fun _ _ F => kb_steady_5 F) rfl (jc_pos (n := 1) (ja_cons (jv 1) ja_nil))))
    (jb_one (js_fld (FldOk.cons (i := 3) rfl Z.c_1 Z.n_1_start FldOk.nil) (jv 0) (j_ty call_tuple_of bd_tup rfl Z.b_tuple (ja_cons (j_lc (own := [("value", 3)]) B.cm B.nd (ji_val (j_fld (FldOk.cons (i := 2) rfl Z.c_1 Z.n_1_steady_values FldOk.nil) (jv 0))) (by kernel_rfl) (fun _ _ _ _ _ => (jg_name B.blk.nd rfl (.inl rfl))) (fun _ _ _ _ _ => jts_nil) (fun _ _ _ _ _ => (j_tup (ja_cons (j_tup (ja_cons (jgi rfl Z.g_NOTHING) (ja_cons ji ja_nil))) ja_nil)))) ja_nil)))))))
theorem ok_Endings_pairs_behind {Y : Tx} {K : PySem.W.Frag} {cls : Nat → Addr} {tb : List (Addr × Str)} (Z : Txt Y K cls tb) : Km Y (Tc Y K cls tb) 2 1 "pairs_behind" "Endings.pairs_behind" st_Endings_pairs_behind ["self", "pairs", "value", "thing"] f_Endings_pairs_behind := by
  obtain ⟨fa, fd, hm, F⟩ := Z.F_Endings_pairs_behind
  refine ⟨fa, fd, hm, F, fn_d F sc_Endings_pairs_behind fun X E B hX => ?_⟩
  obtain ⟨cdv, A, outer, sh, H, hcd, rfl⟩ := hX
  exact (jb_cons (js_set (i := 4) B.nd rfl (.inl rfl) j_dic0)
    (jb_cons (js_for (own := [5, 6]) B.po B.cm (ji_val (jv 1)) (jg_tup B.cm (jgs_cons (jg_name B.nd rfl (.inl rfl)) (jgs_cons (jg_name B.nd rfl (.inl rfl)) jgs_nil)) (gs_len1 (gs_len1 gs_len0))) (jb_cons (js_set (i := 7) B.nd rfl (.inl rfl) (j_if (jt_cmp (op_eqD B.u64) od_eq (jv 5) (jgi rfl Z.g_NOTHING)) (jv 3) (j_methG (k := 1) spD_pureZ B ⟨rfl, rfl, rfl, rfl, rfl⟩ ((ok_Table_joined Z).mono (by decide)) Z.c_0 (show (("joined" : Str) ∉ FLD 0) by decide +kernel) (fun _ _ F => kb_Table_joined_6 F) rfl (j_fld (FldOk.cons (i := 0) rfl Z.c_1 Z.n_1_table FldOk.nil) (jv 0)) (jc_pos (n := 2) (ja_cons (jv 5) (ja_cons (jv 3) ja_nil))))))
    (jb_one (js_asg (own := []) (j_bi (call_max2 B.cm) two2_of rfl Z.b_max (ja_cons (j_get2 B (jv 4) (jv 7) ji) (ja_cons (jv 6) ja_nil))) (jg_sub B rfl rfl (jv 4) (jv 7))))))
    (jb_cons (js_asg (own := []) (j_if (jt_cmp (op_inT B.u65 rfl rfl rfl) od_in (jv 2) (jv 4)) (jadd (jixA B rfl rfl (jv 4) (jv 2)) ji) ji) (jg_sub B rfl rfl (jv 4) (jgi rfl Z.g_NOTHING)))
    (jb_one (js_ret (j_if (jt_cmp op_ge od_cmp (jixA B rfl rfl (jv 4) (jgi rfl Z.g_NOTHING)) (j_fld (FldOk.cons (i := 1) rfl Z.c_1 Z.n_1_most FldOk.nil) (jv 0))) jnon (j_ty call_tuple_of bd_tup rfl Z.b_tuple (ja_cons (j_srtItems B (jv 4) rfl Z.b_sorted) ja_nil))))))))
theorem ok_Endings_state_behind {Y : Tx} {K : PySem.W.Frag} {cls : Nat → Addr} {tb : List (Addr × Str)} (Z : Txt Y K cls tb) : Km Y (Tc Y K cls tb) 3 1 "state_behind" "Endings.state_behind" st_Endings_state_behind ["self", "state", "thing"] f_Endings_state_behind := by
  obtain ⟨fa, fd, hm, F⟩ := Z.F_Endings_state_behind
  refine ⟨fa, fd, hm, F, fn_d F sc_Endings_state_behind fun X E B hX => ?_⟩
  obtain ⟨cdv, A, outer, sh, H, hcd, rfl⟩ := hX
  exact (jb_cons (js_set (i := 3) B.nd rfl (.inl rfl) (j_ty call_tuple_of bd_tup rfl Z.b_tuple (ja_cons (j_lc (own := [("pairs", 4), ("value", 5)]) B.cm B.nd (ji_zip rfl Z.b_zip (ja_cons (jv 1) (ja_cons (j_fld (FldOk.cons (i := 2) rfl Z.c_1 Z.n_1_steady_values FldOk.nil) (jv 0)) ja_nil))) (by kernel_rfl) (fun _ _ _ _ _ => (jg_tup B.blk.cm (jgs_cons (jg_name B.blk.nd rfl (.inl rfl)) (jgs_cons (jg_name B.blk.nd rfl (.inl rfl)) jgs_nil)) (gs_len1 (gs_len1 gs_len0)))) (fun _ _ _ _ _ => jts_nil) (fun _ _ _ _ _ => (j_methG (k := 2) spD_pureZ B.blk ⟨rfl, rfl, rfl, rfl, rfl⟩ ((ok_Endings_pairs_behind Z).mono (by decide)) Z.c_1 (show (("pairs_behind" : Str) ∉ FLD 1) by decide +kernel) (fun _ _ F => kb_Endings_pairs_behind_7 F) rfl (jv 0) (jc_pos (n := 3) (ja_cons (jv 4) (ja_cons (jv 5) (ja_cons (jv 2) ja_nil))))))) ja_nil)))
    (jb_one (js_ret (j_if (jt_cmp (op_noneT B.u65) od_noneT jnon (jv 3)) jnon (jv 3)))))
theorem ok_longest_without {Y : Tx} {K : PySem.W.Frag} {cls : Nat → Addr} {tb : List (Addr × Str)} (Z : Txt Y K cls tb) : Kd Y (Tc Y K cls tb) 6 "longest_without" st_longest_without ["table", "values", "k"] f_longest_without := by
  obtain ⟨fa, fd, cc, Pt, hm, F, hcc, TB, hT⟩ := Z.F_longest_without
  refine ⟨fa, fd, hm, F, fn_d F sc_longest_without fun X E B hX => ?_⟩
  obtain ⟨cdv, A, outer, sh, H, hcd, rfl⟩ := hX
  rw [hcc] at hcd
  subst hcd
  have hcd : (rfl : Nat = Nat) = rfl := rfl
  exact (jb_cons (js_set (i := 3) B.nd rfl (.inr rfl) (j_make (k := 4) B ⟨rfl, rfl, rfl, rfl, rfl⟩ ((ok_Endings___init__ Z).mono (by decide)) rfl (fun _ _ F => kb_Endings___init___8 F) rfl (jc_pos (n := 2) (ja_cons (jv 0) (ja_cons (jv 2) ja_nil)))))
    (jb_cons (js_asg (own := [4, 5]) (j_tup (ja_cons j_dicN (ja_cons (j_lstR (ja_cons (j_fld (FldOk.cons (i := 3) rfl Z.c_1 Z.n_1_start FldOk.nil) (jv 3)) ja_nil)) ja_nil))) (jg_tup B.cm (jgs_cons (jg_name B.nd rfl (.inr rfl)) (jgs_cons (jg_name B.nd rfl (.inl rfl)) jgs_nil)) (gs_len1 (gs_len1 gs_len0))))
    (jb_cons (js_while FUEL B.po (jt_cmp (op_neD B.u64) od_ne (jv 5) (j_lst ja_nil)) (jb_cons (js_set (i := 6) B.nd rfl (.inr rfl) (jixA B rfl rfl (jv 5) (j_neg ji)))
    (jb_cons (js_setLc (own := [("value", 10)]) B.cm B.nd rfl rfl rfl (ji_val (jv 1)) (by kernel_rfl) (fun _ _ _ _ _ => (jg_name B.blk.nd rfl (.inl rfl))) (fun _ _ _ _ _ => jts_nil) (fun _ _ _ _ _ => (j_tup (ja_cons (jv 10) (ja_cons (j_methG (k := 5) spD_pureZ B.blk ⟨rfl, rfl, rfl, rfl, rfl⟩ ((ok_Endings_state_behind Z).mono (by decide)) Z.c_1 (show (("state_behind" : Str) ∉ FLD 1) by decide +kernel) (fun _ _ F => kb_Endings_state_behind_9 F) rfl (jv 3) (jc_pos (n := 2) (ja_cons (jv 6) (ja_cons (jv 10) ja_nil)))) ja_nil)))))
    (jb_cons (js_setLc (own := [("value", 10), ("there", 11)]) B.cm B.nd rfl rfl rfl (ji_val (jv 7)) (by kernel_rfl) (fun _ _ _ _ _ => (jg_tup B.blk.cm (jgs_cons (jg_name B.blk.nd rfl (.inl rfl)) (jgs_cons (jg_name B.blk.nd rfl (.inl rfl)) jgs_nil)) (gs_len1 (gs_len1 gs_len0)))) (fun _ _ _ _ _ => (jts_one (jt_w (jw_and (jt_cmp op_notN od_isnot (jv 11) jnon) (jw_and1 (jt_cmp (op_notInT B.blk.u65 rfl rfl rfl) od_notin (jv 11) (jv 4))))))) (fun _ _ _ _ _ => (jv 11)))
    (jb_one (js_if (jt_cmp (op_neD B.u64) od_ne (jv 8) (j_lst ja_nil)) (jb_one (js_expr (j_bm PySem.F.plainAttrs_list PySem.F.slot_list_extend PySem.F.type_list_extend mt_extend md_extend (jv 5) (ja_cons (jv 8) ja_nil)))) (jb_cons (js_expr (j_bm0 PySem.F.plainAttrs_list PySem.F.slot_list_pop PySem.F.type_list_pop mt_pop md_pop (jv 5)))
    (jb_cons (js_setLc (own := [("value", 10), ("there", 11)]) B.cm B.nd rfl rfl rfl (ji_val (jv 7)) (by kernel_rfl) (fun _ _ _ _ _ => (jg_tup B.blk.cm (jgs_cons (jg_name B.blk.nd rfl (.inl rfl)) (jgs_cons (jg_name B.blk.nd rfl (.inl rfl)) jgs_nil)) (gs_len1 (gs_len1 gs_len0)))) (fun _ _ _ _ _ => (jts_one (jt_cmp op_notN od_isnot (jv 11) jnon))) (fun _ _ _ _ _ => (j_tup (ja_cons (jv 10) (ja_star (jixA B.blk rfl rfl (jv 4) (jv 11)) ja_nil)))))
    (jb_one (js_asg (own := []) (j_if (jt_cmp (op_neD B.u64) od_ne (jv 9) (j_lst ja_nil)) (j_maxLen B TB rfl hT (jv 9) rfl Z.b_max Z.b_len) (j_tup ja_nil)) (jg_sub B rfl rfl (jv 4) (jv 6))))))))))))
    (jb_one (js_ret (jixA B rfl rfl (jv 4) (j_fld (FldOk.cons (i := 3) rfl Z.c_1 Z.n_1_start FldOk.nil) (jv 3))))))))
theorem ok_sure_length {Y : Tx} {K : PySem.W.Frag} {cls : Nat → Addr} {tb : List (Addr × Str)} (Z : Txt Y K cls tb) : Kd Y (Tc Y K cls tb) 7 "sure_length" st_sure_length ["table", "values", "k"] f_sure_length := by
  obtain ⟨fa, fd, hm, F⟩ := Z.F_sure_length
  refine ⟨fa, fd, hm, F, fn_d F sc_sure_length fun X E B hX => ?_⟩
  obtain ⟨cdv, A, outer, sh, H, hcd, rfl⟩ := hX
  exact (jb_one (js_ret (jadd (j_bi cr_lenD bd_len rfl Z.b_len (ja_cons (j_callZ (k := 6) B ⟨rfl, rfl, rfl, rfl, rfl⟩ ((ok_longest_without Z).mono (by decide)) rfl (fun _ _ F => kb_longest_without_10 F) rfl (jc_pos (n := 3) (ja_cons (jv 0) (ja_cons (jv 1) (ja_cons (jv 2) ja_nil))))) ja_nil)) ji)))
theorem ok__law_deck {Y : Tx} {K : PySem.W.Frag} {cls : Nat → Addr} {tb : List (Addr × Str)} (Z : Txt Y K cls tb) : Kd Y (Tc Y K cls tb) 1 "_law_deck" st__law_deck ["_law_script"] f__law_deck := by
  obtain ⟨fa, fd, hm, F⟩ := Z.F__law_deck
  refine ⟨fa, fd, hm, F, fn_d F sc__law_deck fun X E B hX => ?_⟩
  obtain ⟨cdv, A, outer, sh, H, hcd, rfl⟩ := hX
  exact (jb_cons (js_par (i := 1) (j := 2) B.cm B.nd rfl rfl (by decide) rfl rfl (j_revL (h := true) (j_ty call_list_of bd_list rfl Z.b_list (ja_cons (j_slc (h := false) (jv 0) jo_none (jo_some ji)) ja_nil))) ji rfl)
    (jb_cons (js_forL (own := [3]) FUEL B.po B.cm (jv 1) (jg_name B.nd rfl (.inl rfl)) (jb_one (js_set (i := 2) B.nd rfl (.inl rfl) (j_op op_mod od_mod (j_ty call_int1 bd_int rfl Z.b_int (ja_cons (jadd (jadd (jmul (jv 2) ji) (j_op op_mod od_mod (j_ty call_int1 bd_int rfl Z.b_int (ja_cons (jv 3) ja_nil)) ji)) ji) ja_nil)) ji))))
    (jb_one (js_ret (j_lstR (ja_cons (jv 1) (ja_cons (jv 2) (ja_cons ji ja_nil))))))))
theorem ok__law_draw {Y : Tx} {K : PySem.W.Frag} {cls : Nat → Addr} {tb : List (Addr × Str)} (Z : Txt Y K cls tb) : Kd Y (Tc Y K cls tb) 1 "_law_draw" st__law_draw ["_law_deck_here", "_law_size"] f__law_draw := by
  obtain ⟨fa, fd, hm, F⟩ := Z.F__law_draw
  refine ⟨fa, fd, hm, F, fn_d F sc__law_draw fun X E B hX => ?_⟩
  obtain ⟨cdv, A, outer, sh, H, hcd, rfl⟩ := hX
  exact (jb_cons (js_asg (own := []) (jadd (jixA B rfl rfl (jv 0) ji) ji) (jg_sub B rfl rfl (jv 0) ji))
    (jb_cons (js_set (i := 2) B.nd rfl (.inl rfl) (jadd (jixA B rfl rfl (jv 0) ji) (jmul (jmul ji (jixA B rfl rfl (jv 0) ji)) (jixA B rfl rfl (jv 0) ji))))
    (jb_cons (js_if (jt_cmp (op_neD B.u64) od_ne (jixA B rfl rfl (jv 0) ji) (j_lst ja_nil)) (jb_cons (js_set (i := 3) B.nd rfl (.inl rfl) (j_bm0 PySem.F.plainAttrs_list PySem.F.slot_list_pop PySem.F.type_list_pop mt_pop md_pop (jixA B rfl rfl (jv 0) ji)))
    (jb_cons (js_if (jt_cmp op_ge od_cmp (jv 3) (j_op op_pow od_pow ji ji)) (jb_cons (js_expr (j_bm PySem.F.plainAttrs_list PySem.F.slot_list_append PySem.F.type_list_append mt_append md_append (jixA B rfl rfl (jv 0) ji) (ja_cons (j_op op_fdiv od_fdiv (jv 3) (jv 1)) ja_nil)))
    (jb_one (js_ret (j_op op_mod od_mod (j_ty call_int1 bd_int rfl Z.b_int (ja_cons (jv 3) ja_nil)) (jv 1))))) jb_nil)
    (jb_one (js_set (i := 2) B.nd rfl (.inl rfl) (jadd (jv 2) (jv 3)))))) jb_nil)
    (jb_cons (js_set (i := 2) B.nd rfl (.inl rfl) (j_op op_mod od_mod (jmul (j_op op_mod od_mod (j_ty call_int1 bd_int rfl Z.b_int (ja_cons (jv 2) ja_nil)) ji) ji) ji))
    (jb_cons (js_set (i := 2) B.nd rfl (.inl rfl) (j_op op_mod od_mod (j_ty call_int1 bd_int rfl Z.b_int (ja_cons (jadd (jadd (jmul (jv 2) (jv 2)) (jmul ji (jixA B rfl rfl (jv 0) ji))) ji) ja_nil)) ji))
    (jb_one (js_ret (j_op op_mod od_mod (j_op op_fdiv od_fdiv (j_op op_mod od_mod (j_ty call_int1 bd_int rfl Z.b_int (ja_cons (jmul (jv 2) ji) ja_nil)) ji) ji) (jv 1)))))))))
theorem ok__law_known {Y : Tx} {K : PySem.W.Frag} {cls : Nat → Addr} {tb : List (Addr × Str)} (Z : Txt Y K cls tb) : Kd Y (Tc Y K cls tb) 1 "_law_known" st__law_known ["_law_size", "_law_way"] f__law_known := by
  obtain ⟨fa, fd, hm, F⟩ := Z.F__law_known
  refine ⟨fa, fd, hm, F, fn_d F sc__law_known fun X E B hX => ?_⟩
  obtain ⟨cdv, A, outer, sh, H, hcd, rfl⟩ := hX
  exact (jb_cons (js_set (i := 2) B.nd rfl (.inl rfl) (j_lstR ja_nil))
    (jb_cons (js_for (own := [3]) B.po B.cm (ji_range1 rfl Z.b_range (jv 0)) (jg_name B.nd rfl (.inr rfl)) (jb_one (js_expr (j_bm PySem.F.plainAttrs_list PySem.F.slot_list_append PySem.F.type_list_append mt_append md_append (jv 2) (ja_cons (j_ty call_tuple_of bd_tup rfl Z.b_tuple (ja_cons (j_lc (own := [("_law_y", 4)]) B.cm B.nd (ji_range1 rfl Z.b_range (jv 0)) (by kernel_rfl) (fun _ _ _ _ _ => (jg_name B.blk.nd rfl (.inl rfl))) (fun _ _ _ _ _ => jts_nil) (fun _ _ _ _ _ => (jixA B.blk rfl rfl (j_lst (ja_cons (j_op op_mod od_mod (jadd (jv 3) (jv 4)) (jv 0)) (ja_cons (j_bi (call_min2 B.blk.cm) two2_of rfl Z.b_min (ja_cons (jv 3) (ja_cons (jv 4) ja_nil))) (ja_cons (j_bi (call_max2 B.blk.cm) two2_of rfl Z.b_max (ja_cons (jv 3) (ja_cons (jv 4) ja_nil))) (ja_cons (jv 3) (ja_cons (jv 4) (ja_cons ji ja_nil))))))) (jv 1)))) ja_nil)) ja_nil)))))
    (jb_one (js_ret (j_ty call_tuple_of bd_tup rfl Z.b_tuple (ja_cons (jv 2) ja_nil))))))
theorem ok__law_steps {Y : Tx} {K : PySem.W.Frag} {cls : Nat → Addr} {tb : List (Addr × Str)} (Z : Txt Y K cls tb) : Kd Y (Tc Y K cls tb) 1 "_law_steps" st__law_steps ["_law_early", "_law_ring"] f__law_steps := by
  obtain ⟨fa, fd, hm, F⟩ := Z.F__law_steps
  refine ⟨fa, fd, hm, F, fn_d F sc__law_steps fun X E B hX => ?_⟩
  obtain ⟨cdv, A, outer, sh, H, hcd, rfl⟩ := hX
  exact (jb_cons (js_set (i := 2) B.nd rfl (.inr rfl) (j_op op_sub od_sub (jadd (jv 0) (jv 1)) ji))
    (jb_cons (js_set (i := 3) B.nd rfl (.inr rfl) (j_lc (own := [("_law_x", 4)]) B.cm B.nd (ji_range1 rfl Z.b_range (jadd (jmul ji (jv 2)) ji)) (by kernel_rfl) (fun _ _ _ _ _ => (jg_name B.blk.nd rfl (.inl rfl))) (fun _ _ _ _ _ => jts_nil) (fun _ _ _ _ _ => (j_if (jt_cmp op_le od_cmp (jv 4) (jv 2)) (jv 4) (jadd (jv 0) (j_op op_mod od_mod (j_op op_sub od_sub (jv 4) (jv 0)) (jv 1)))))))
    (jb_one (js_ret (j_ty call_tuple_of bd_tup rfl Z.b_tuple (ja_cons (j_lc (own := [("_law_x", 4)]) B.cm B.nd (ji_range2 rfl Z.b_range ji (jadd (jv 2) ji)) (by kernel_rfl) (fun _ _ _ _ _ => (jg_name B.blk.nd rfl (.inr rfl))) (fun _ _ _ _ _ => jts_nil) (fun _ _ _ _ _ => (j_ty call_tuple_of bd_tup rfl Z.b_tuple (ja_cons (j_lc (own := [("_law_y", 5)]) B.blk.cm B.blk.nd (ji_range2 rfl Z.b_range ji (jadd (jv 2) ji)) (by kernel_rfl) (fun _ _ _ _ _ => (jg_name B.blk.nd rfl (.inl rfl))) (fun _ _ _ _ _ => jts_nil) (fun _ _ _ _ _ => (j_op op_sub od_sub (jixA B.blk rfl rfl (jv 3) (jadd (jv 4) (jv 5))) ji))) ja_nil)))) ja_nil))))))
theorem ok__law_anew {Y : Tx} {K : PySem.W.Frag} {cls : Nat → Addr} {tb : List (Addr × Str)} (Z : Txt Y K cls tb) : Kd Y (Tc Y K cls tb) 1 "_law_anew" st__law_anew ["_law_grid", "_law_spots"] f__law_anew := by
  obtain ⟨fa, fd, hm, F⟩ := Z.F__law_anew
  refine ⟨fa, fd, hm, F, fn_d F sc__law_anew fun X E B hX => ?_⟩
  obtain ⟨cdv, A, outer, sh, H, hcd, rfl⟩ := hX
  exact (jb_one (js_ret (j_ty call_tuple_of bd_tup rfl Z.b_tuple (ja_cons (j_lc (own := [("_law_x", 2)]) B.cm B.nd (ji_val (jv 1)) (by kernel_rfl) (fun _ _ _ _ _ => (jg_name B.blk.nd rfl (.inr rfl))) (fun _ _ _ _ _ => jts_nil) (fun _ _ _ _ _ => (j_ty call_tuple_of bd_tup rfl Z.b_tuple (ja_cons (j_lc (own := [("_law_y", 3)]) B.blk.cm B.blk.nd (ji_val (jv 1)) (by kernel_rfl) (fun _ _ _ _ _ => (jg_name B.blk.nd rfl (.inl rfl))) (fun _ _ _ _ _ => jts_nil) (fun _ _ _ _ _ => (j_bm PySem.F.plainAttrs_list PySem.F.slot_list_index PySem.F.type_list_index (mt_indexD B.blk.u65) md_index (jv 1) (ja_cons (jixA B.blk rfl rfl (jixA B.blk rfl rfl (jv 0) (jv 2)) (jv 3)) ja_nil)))) ja_nil)))) ja_nil))))
theorem ok__law_power {Y : Tx} {K : PySem.W.Frag} {cls : Nat → Addr} {tb : List (Addr × Str)} (Z : Txt Y K cls tb) : Kd Y (Tc Y K cls tb) 1 "_law_power" st__law_power ["_law_base", "_law_count"] f__law_power := by
  obtain ⟨fa, fd, hm, F⟩ := Z.F__law_power
  refine ⟨fa, fd, hm, F, fn_d F sc__law_power fun X E B hX => ?_⟩
  obtain ⟨cdv, A, outer, sh, H, hcd, rfl⟩ := hX
  exact (jb_cons (js_set (i := 2) B.nd rfl (.inl rfl) ji)
    (jb_cons (js_for (own := [3]) B.po B.cm (ji_range1 rfl Z.b_range (jv 1)) (jg_name B.nd rfl (.inl rfl)) (jb_one (js_set (i := 2) B.nd rfl (.inl rfl) (jmul (jv 2) (jv 0)))))
    (jb_one (js_ret (jv 2)))))
theorem ok__law_is_told {Y : Tx} {K : PySem.W.Frag} {cls : Nat → Addr} {tb : List (Addr × Str)} (Z : Txt Y K cls tb) : Kd Y (Tc Y K cls tb) 8 "_law_is_told" st__law_is_told ["_law_grid", "_law_some", "_law_count", "_law_due"] f__law_is_told := by
  obtain ⟨fa, fd, hm, F⟩ := Z.F__law_is_told
  refine ⟨fa, fd, hm, F, fn_d F sc__law_is_told fun X E B hX => ?_⟩
  obtain ⟨cdv, A, outer, sh, H, hcd, rfl⟩ := hX
  exact (jb_cons (js_set (i := 4) B.nd rfl (.inl rfl) (j_make (k := 6) B ⟨rfl, rfl, rfl, rfl, rfl⟩ ((ok_Table___init__ Z).mono (by decide)) rfl (fun _ _ F => kb_Table___init___11 F) rfl (jc_pos (n := 1) (ja_cons (jv 0) ja_nil))))
    (jb_cons (js_set (i := 5) B.nd rfl (.inl rfl) (j_lst (ja_cons (j_callZ (k := 7) B ⟨rfl, rfl, rfl, rfl, rfl⟩ ((ok_sure_length Z).mono (by decide)) rfl (fun _ _ F => kb_sure_length_13 F) rfl (jc_pos (n := 3) (ja_cons (jv 4) (ja_cons (jv 1) (ja_cons (jv 2) ja_nil))))) (ja_cons (j_callZ (k := 7) B ⟨rfl, rfl, rfl, rfl, rfl⟩ ((ok_sure_length Z).mono (by decide)) rfl (fun _ _ F => kb_sure_length_12 F) rfl (jc_kw (ks := ["k", "values", "table"]) (jk_cons (jv 2) (jk_cons (jv 1) (jk_cons (jv 4) jk_nil))))) ja_nil))))
    (jb_one (js_ret (j_and (j_reprEq (j_eqS (j_bi (cr_repr B.gd B.u64) bd_repr rfl Z.b_repr (ja_cons (jv 5) ja_nil)) (j_bi (cr_repr B.gd B.u64) bd_repr rfl Z.b_repr (ja_cons (j_lst (ja_cons (jv 3) (ja_cons (jv 3) ja_nil))) ja_nil)))) (j_one (j_cmp (op_eqD B.u64) od_eq (j_bi cr_lenD bd_len rfl Z.b_len (ja_cons (j_callZ (k := 7) B ⟨rfl, rfl, rfl, rfl, rfl⟩ ((ok_longest_without Z).mono (by decide)) rfl (fun _ _ F => kb_longest_without_10 F) rfl (jc_pos (n := 3) (ja_cons (jv 4) (ja_cons (jv 1) (ja_cons (jv 2) ja_nil))))) ja_nil)) (j_op op_sub od_sub (jv 3) ji))))))))
theorem ok_law {Y : Tx} {K : PySem.W.Frag} {cls : Nat → Addr} {tb : List (Addr × Str)} (Z : Txt Y K cls tb) : Kd Y (Tc Y K cls tb) 9 "law" st_law ["_law_script"] f_law := by
  obtain ⟨fa, fd, hm, F⟩ := Z.F_law
  refine ⟨fa, fd, hm, F, fn_d F sc_law fun X E B hX => ?_⟩
  obtain ⟨cdv, A, outer, sh, H, hcd, rfl⟩ := hX
  exact (jb_cons (js_set (i := 1) B.nd rfl (.inl rfl) (j_callH (k := 8) B ⟨rfl, rfl, rfl, rfl, rfl⟩ ((ok__law_deck Z).mono (by decide)) rfl (fun _ _ F => kb__law_deck_14 F) rfl (jc_pos (n := 1) (ja_cons (jv 0) ja_nil))))
    (jb_cons (js_for (own := [2]) B.po B.cm (ji_range1 rfl Z.b_range ji) (jg_name B.nd rfl (.inl rfl)) (jb_cons (js_set (i := 3) B.nd rfl (.inl rfl) (jadd ji (j_callH (k := 8) B ⟨rfl, rfl, rfl, rfl, rfl⟩ ((ok__law_draw Z).mono (by decide)) rfl (fun _ _ F => kb__law_draw_15 F) rfl (jc_pos (n := 2) (ja_cons (jv 1) (ja_cons ji ja_nil))))))
    (jb_cons (js_set (i := 4) B.nd rfl (.inl rfl) (jadd ji (j_callH (k := 8) B ⟨rfl, rfl, rfl, rfl, rfl⟩ ((ok__law_draw Z).mono (by decide)) rfl (fun _ _ F => kb__law_draw_15 F) rfl (jc_pos (n := 2) (ja_cons (jv 1) (ja_cons (j_if (jt_cmp (op_eqD B.u64) od_eq (jv 3) ji) ji ji) ja_nil))))))
    (jb_cons (js_par (i := 5) (j := 6) B.cm B.nd rfl rfl (by decide) rfl rfl (j_lstRg (h := true) B rfl Z.b_list (jr_1 rfl Z.b_range (jv 3))) (j_lstR ja_nil) rfl)
    (jb_cons (js_while FUEL B.po (jt_cmp (op_neD B.u64) od_ne (jv 5) (j_lst ja_nil)) (jb_one (js_expr (j_bm PySem.F.plainAttrs_list PySem.F.slot_list_append PySem.F.type_list_append mt_append md_append (jv 6) (ja_cons (j_bm PySem.F.plainAttrs_list PySem.F.slot_list_pop PySem.F.type_list_pop mt_popAt md_popAt (jv 5) (ja_cons (j_callH (k := 8) B ⟨rfl, rfl, rfl, rfl, rfl⟩ ((ok__law_draw Z).mono (by decide)) rfl (fun _ _ F => kb__law_draw_15 F) rfl (jc_pos (n := 2) (ja_cons (jv 1) (ja_cons (j_bi cr_lenD bd_len rfl Z.b_len (ja_cons (jv 5) ja_nil)) ja_nil)))) ja_nil)) ja_nil)))))
    (jb_cons (js_par (i := 7) (j := 8) B.cm B.nd rfl rfl (by decide) rfl rfl (j_tupRg B rfl Z.b_tuple (jr_1 rfl Z.b_range (jv 3))) (j_callZ (k := 8) B ⟨rfl, rfl, rfl, rfl, rfl⟩ ((ok__law_power Z).mono (by decide)) rfl (fun _ _ F => kb__law_power_16 F) rfl (jc_pos (n := 2) (ja_cons (jv 4) (ja_cons (jv 3) ja_nil)))) rfl)
    (jb_cons (js_set (i := 9) B.nd rfl (.inl rfl) (j_lstR (ja_cons (jmul (jv 3) (jv 4)) (ja_cons (jv 8) (ja_cons (jv 8) (ja_cons (jadd (jmul (jv 3) (j_op op_sub od_sub (jv 4) ji)) ji) (ja_cons (jadd (jmul (jv 3) (j_op op_sub od_sub (jv 4) ji)) ji) ja_nil)))))))
    (jb_cons (js_expr (j_bm PySem.F.plainAttrs_list PySem.F.slot_list_append PySem.F.type_list_append mt_append md_append (jv 9) (ja_cons (j_if (jt_cmp op_gt od_cmp (jv 3) ji) (jmul ji (jv 4)) (jv 4)) ja_nil)))
    (jb_cons (js_for (own := [10]) B.po B.cm (ji_range1 rfl Z.b_range ji) (jg_name B.nd rfl (.inl rfl)) (jb_one (js_if (jt_not (jtv (j_fCallLess (j_callZ (k := 8) B ⟨rfl, rfl, rfl, rfl, rfl⟩ ((ok__law_is_told Z).mono (by decide)) rfl (fun _ _ F => kb__law_is_told_19 F) rfl (jc_pos (n := 4) (ja_cons (j_callZ (k := 8) B ⟨rfl, rfl, rfl, rfl, rfl⟩ ((ok__law_anew Z).mono (by decide)) rfl (fun _ _ F => kb__law_anew_18 F) rfl (jc_pos (n := 2) (ja_cons (j_callZ (k := 8) B ⟨rfl, rfl, rfl, rfl, rfl⟩ ((ok__law_known Z).mono (by decide)) rfl (fun _ _ F => kb__law_known_17 F) rfl (jc_pos (n := 2) (ja_cons (jv 3) (ja_cons (jv 10) ja_nil)))) (ja_cons (jv 6) ja_nil)))) (ja_cons (jv 7) (ja_cons (jv 4) (ja_cons (jixA B rfl rfl (jv 9) (jv 10)) ja_nil)))))) told_less))) (jb_one (js_ret jbl)) jb_nil)))
    (jb_cons (js_if (jt_not (jtv (j_fCallLess (j_callZ (k := 8) B ⟨rfl, rfl, rfl, rfl, rfl⟩ ((ok__law_is_told Z).mono (by decide)) rfl (fun _ _ F => kb__law_is_told_19 F) rfl (jc_pos (n := 4) (ja_cons (j_callZ (k := 8) B ⟨rfl, rfl, rfl, rfl, rfl⟩ ((ok__law_known Z).mono (by decide)) rfl (fun _ _ F => kb__law_known_17 F) rfl (jc_pos (n := 2) (ja_cons (jv 3) (ja_cons ji ja_nil)))) (ja_cons (j_tup (ja_cons (j_op op_sub od_sub (jv 3) ji) ja_nil)) (ja_cons (jv 4) (ja_cons (jv 4) ja_nil)))))) told_less))) (jb_one (js_ret jbl)) jb_nil)
    (jb_cons (js_set (i := 11) B.nd rfl (.inl rfl) (jadd ji (j_callH (k := 8) B ⟨rfl, rfl, rfl, rfl, rfl⟩ ((ok__law_draw Z).mono (by decide)) rfl (fun _ _ F => kb__law_draw_15 F) rfl (jc_pos (n := 2) (ja_cons (jv 1) (ja_cons (jv 3) ja_nil))))))
    (jb_cons (js_set (i := 12) B.nd rfl (.inr rfl) (j_op op_sub od_sub (jadd (jv 3) ji) (jv 11)))
    (jb_cons (js_set (i := 13) B.nd rfl (.inl rfl) (jixA B rfl rfl (j_lc (own := [("_law_x", 14)]) B.cm B.nd (ji_range2 rfl Z.b_range (jv 11) (jadd (jv 11) (jv 12))) (by kernel_rfl) (fun _ _ _ _ _ => (jg_name B.blk.nd rfl (.inl rfl))) (fun _ _ _ _ _ => (jts_one (jt_cmp (op_eqD B.blk.u64) od_eq (j_op op_mod od_mod (j_ty call_int1 bd_int rfl Z.b_int (ja_cons (jv 14) ja_nil)) (jv 12)) ji))) (fun _ _ _ _ _ => (jv 14))) ji))
    (jb_one (js_if (jt_not (jtv (j_fCallLess (j_callZ (k := 8) B ⟨rfl, rfl, rfl, rfl, rfl⟩ ((ok__law_is_told Z).mono (by decide)) rfl (fun _ _ F => kb__law_is_told_19 F) rfl (jc_pos (n := 4) (ja_cons (j_callZ (k := 8) B ⟨rfl, rfl, rfl, rfl, rfl⟩ ((ok__law_steps Z).mono (by decide)) rfl (fun _ _ F => kb__law_steps_20 F) rfl (jc_pos (n := 2) (ja_cons (jv 11) (ja_cons (jv 12) ja_nil)))) (ja_cons (j_tup (ja_cons ji ja_nil)) (ja_cons (jv 4) (ja_cons (jmul (jv 13) (jv 4)) ja_nil)))))) told_less))) (jb_one (js_ret jbl)) jb_nil)))))))))))))))
    (jb_one (js_ret jbl))))
end K47

set_option Elab.async false
set_option linter.all false
set_option maxRecDepth 100000
set_option maxHeartbeats 4000000
set_option autoImplicit false
namespace K47
open PySem L2 DL
theorem all_mk {l : PySem.W.OpenLaw} {w : World} {K : PySem.W.Frag} {h : Heap} {mg : Str → Option Value} {fa C0 C1 f0 f1 f2 f3 f4 f5 f6 f7 f8 f9 f10 f11 f12 f13 f14 f15 f16 f17 f18 f19 f20 : Addr} {od0 an0 od1 an1 od2 an2 od3 an3 od4 an4 od5 an5 od6 an6 od7 an7 od8 an8 od9 an9 od10 an10 od11 an11 od12 an12 od13 an13 od14 an14 od15 an15 od16 an16 od17 an17 od18 an18 od19 an19 od20 an20 : Option Addr} {sl0 sl1 sl2 sl3 sl4 sl5 sl6 sl7 sl8 sl9 sl10 sl11 sl12 sl13 sl14 sl15 sl16 sl17 sl18 sl19 sl20 : Array (Option Value)} {oc0 kV0 dc0 pm0 cd0 ct0 oc1 kV1 dc1 pm1 cd1 ct1 oc2 kV2 dc2 pm2 cd2 ct2 oc3 kV3 dc3 pm3 cd3 ct3 oc4 kV4 dc4 pm4 cd4 ct4 oc5 kV5 dc5 pm5 cd5 ct5 oc6 kV6 dc6 pm6 cd6 ct6 oc7 kV7 dc7 pm7 cd7 ct7 oc8 kV8 dc8 pm8 cd8 ct8 oc9 kV9 dc9 pm9 cd9 ct9 oc10 kV10 dc10 pm10 cd10 ct10 oc11 kV11 dc11 pm11 ct11 oc12 kV12 dc12 pm12 cd12 ct12 oc13 kV13 dc13 pm13 cd13 ct13 oc14 kV14 dc14 pm14 cd14 ct14 oc15 kV15 dc15 pm15 cd15 ct15 oc16 kV16 dc16 pm16 cd16 ct16 oc17 kV17 dc17 pm17 cd17 ct17 oc18 kV18 dc18 pm18 cd18 ct18 oc19 kV19 dc19 pm19 cd19 ct19 oc20 kV20 dc20 pm20 cd20 ct20 : Value} {cc11 P11 : Addr} {oe11 : Value} {de11 : Option Addr} {ve11 : Array Value} {se11 : Array (Option Value)} {t_NOTHING : Tok}
    (X : K.In h) (G : h.Ns mainGlobals mg) (hfa : mg "law" = some (.ref fa))
    (aC0 : PySem.W.nsIn K mainGlobals "Table" = some (some (.ref C0)))
    (aC1 : PySem.W.nsIn K mainGlobals "Endings" = some (some (.ref C1)))
    (a0 : PySem.W.nsIn K mainGlobals "is_integer" = some (some (.ref f0)))
    (l0 : K.lookup f0 = some ⟨oc0, od0, .func (PySem.W.fnOf "is_integer" "is_integer" (defArgs st_is_integer) (defBody st_is_integer) (defScope st_is_integer) .none kV0 dc0 pm0 an0 cd0 ct0), sl0⟩)
    (c0 : PySem.W.codeIn K cd0 "is_integer" = true)
    (k0 : PySem.W.keepIn K (.ref f0) = true)
    (a1 : PySem.W.nsIn K mainGlobals "is_value" = some (some (.ref f1)))
    (l1 : K.lookup f1 = some ⟨oc1, od1, .func (PySem.W.fnOf "is_value" "is_value" (defArgs st_is_value) (defBody st_is_value) (defScope st_is_value) .none kV1 dc1 pm1 an1 cd1 ct1), sl1⟩)
    (c1 : PySem.W.codeIn K cd1 "is_value" = true)
    (k1 : PySem.W.keepIn K (.ref f1) = true)
    (a2 : PySem.W.nsIn K mainGlobals "are_rows" = some (some (.ref f2)))
    (l2 : K.lookup f2 = some ⟨oc2, od2, .func (PySem.W.fnOf "are_rows" "are_rows" (defArgs st_are_rows) (defBody st_are_rows) (defScope st_are_rows) .none kV2 dc2 pm2 an2 cd2 ct2), sl2⟩)
    (c2 : PySem.W.codeIn K cd2 "are_rows" = true)
    (k2 : PySem.W.keepIn K (.ref f2) = true)
    (a3 : PySem.W.nsIn K mainGlobals "odd_triple" = some (some (.ref f3)))
    (l3 : K.lookup f3 = some ⟨oc3, od3, .func (PySem.W.fnOf "odd_triple" "odd_triple" (defArgs st_odd_triple) (defBody st_odd_triple) (defScope st_odd_triple) .none kV3 dc3 pm3 an3 cd3 ct3), sl3⟩)
    (c3 : PySem.W.codeIn K cd3 "odd_triple" = true)
    (k3 : PySem.W.keepIn K (.ref f3) = true)
    (a4 : PySem.W.findIn K (.ref C0) "__init__" = some (some (.ref f4)))
    (i4 : PySem.W.isFn K (.ref f4) = true)
    (l4 : K.lookup f4 = some ⟨oc4, od4, .func (PySem.W.fnOf "__init__" "Table.__init__" (defArgs st_Table___init__) (defBody st_Table___init__) (defScope st_Table___init__) .none kV4 dc4 pm4 an4 cd4 ct4), sl4⟩)
    (c4 : PySem.W.codeIn K cd4 "Table.__init__" = true)
    (k4 : PySem.W.keepIn K (.ref f4) = true)
    (a5 : PySem.W.findIn K (.ref C0) "__len__" = some (some (.ref f5)))
    (i5 : PySem.W.isFn K (.ref f5) = true)
    (l5 : K.lookup f5 = some ⟨oc5, od5, .func (PySem.W.fnOf "__len__" "Table.__len__" (defArgs st_Table___len__) (defBody st_Table___len__) (defScope st_Table___len__) .none kV5 dc5 pm5 an5 cd5 ct5), sl5⟩)
    (c5 : PySem.W.codeIn K cd5 "Table.__len__" = true)
    (k5 : PySem.W.keepIn K (.ref f5) = true)
    (a6 : PySem.W.findIn K (.ref C0) "joined" = some (some (.ref f6)))
    (i6 : PySem.W.isFn K (.ref f6) = true)
    (l6 : K.lookup f6 = some ⟨oc6, od6, .func (PySem.W.fnOf "joined" "Table.joined" (defArgs st_Table_joined) (defBody st_Table_joined) (defScope st_Table_joined) .none kV6 dc6 pm6 an6 cd6 ct6), sl6⟩)
    (c6 : PySem.W.codeIn K cd6 "Table.joined" = true)
    (k6 : PySem.W.keepIn K (.ref f6) = true)
    (a7 : PySem.W.nsIn K mainGlobals "steady" = some (some (.ref f7)))
    (l7 : K.lookup f7 = some ⟨oc7, od7, .func (PySem.W.fnOf "steady" "steady" (defArgs st_steady) (defBody st_steady) (defScope st_steady) .none kV7 dc7 pm7 an7 cd7 ct7), sl7⟩)
    (c7 : PySem.W.codeIn K cd7 "steady" = true)
    (k7 : PySem.W.keepIn K (.ref f7) = true)
    (a8 : PySem.W.findIn K (.ref C1) "__init__" = some (some (.ref f8)))
    (i8 : PySem.W.isFn K (.ref f8) = true)
    (l8 : K.lookup f8 = some ⟨oc8, od8, .func (PySem.W.fnOf "__init__" "Endings.__init__" (defArgs st_Endings___init__) (defBody st_Endings___init__) (defScope st_Endings___init__) .none kV8 dc8 pm8 an8 cd8 ct8), sl8⟩)
    (c8 : PySem.W.codeIn K cd8 "Endings.__init__" = true)
    (k8 : PySem.W.keepIn K (.ref f8) = true)
    (a9 : PySem.W.findIn K (.ref C1) "pairs_behind" = some (some (.ref f9)))
    (i9 : PySem.W.isFn K (.ref f9) = true)
    (l9 : K.lookup f9 = some ⟨oc9, od9, .func (PySem.W.fnOf "pairs_behind" "Endings.pairs_behind" (defArgs st_Endings_pairs_behind) (defBody st_Endings_pairs_behind) (defScope st_Endings_pairs_behind) .none kV9 dc9 pm9 an9 cd9 ct9), sl9⟩)
    (c9 : PySem.W.codeIn K cd9 "Endings.pairs_behind" = true)
    (k9 : PySem.W.keepIn K (.ref f9) = true)
    (a10 : PySem.W.findIn K (.ref C1) "state_behind" = some (some (.ref f10)))
    (i10 : PySem.W.isFn K (.ref f10) = true)
    (l10 : K.lookup f10 = some ⟨oc10, od10, .func (PySem.W.fnOf "state_behind" "Endings.state_behind" (defArgs st_Endings_state_behind) (defBody st_Endings_state_behind) (defScope st_Endings_state_behind) .none kV10 dc10 pm10 an10 cd10 ct10), sl10⟩)
    (c10 : PySem.W.codeIn K cd10 "Endings.state_behind" = true)
    (k10 : PySem.W.keepIn K (.ref f10) = true)
    (a11 : PySem.W.nsIn K mainGlobals "longest_without" = some (some (.ref f11)))
    (l11 : K.lookup f11 = some ⟨oc11, od11, .func (PySem.W.fnOf "longest_without" "longest_without" (defArgs st_longest_without) (defBody st_longest_without) (defScope st_longest_without) .none kV11 dc11 pm11 an11 (.ref cc11) ct11), sl11⟩)
    (c11 : PySem.W.codeIn K (.ref cc11) "longest_without" = true)
    (k11 : PySem.W.keepIn K (.ref f11) = true)
    (lc11 : K.lookup cc11 = some ⟨oe11, de11, .fields ve11, se11⟩)
    (vp11 : ve11[11]? = some (.ref P11))
    (tb11 : PySem.W.CodeHd h cc11 P11 ∧ h.get? P11 = some { cls := .none, data := .fields #[] })
    (np11 : K.lookup P11 = none)
    (a12 : PySem.W.nsIn K mainGlobals "sure_length" = some (some (.ref f12)))
    (l12 : K.lookup f12 = some ⟨oc12, od12, .func (PySem.W.fnOf "sure_length" "sure_length" (defArgs st_sure_length) (defBody st_sure_length) (defScope st_sure_length) .none kV12 dc12 pm12 an12 cd12 ct12), sl12⟩)
    (c12 : PySem.W.codeIn K cd12 "sure_length" = true)
    (k12 : PySem.W.keepIn K (.ref f12) = true)
    (a13 : PySem.W.nsIn K mainGlobals "_law_deck" = some (some (.ref f13)))
    (l13 : K.lookup f13 = some ⟨oc13, od13, .func (PySem.W.fnOf "_law_deck" "_law_deck" (defArgs st__law_deck) (defBody st__law_deck) (defScope st__law_deck) .none kV13 dc13 pm13 an13 cd13 ct13), sl13⟩)
    (c13 : PySem.W.codeIn K cd13 "_law_deck" = true)
    (k13 : PySem.W.keepIn K (.ref f13) = true)
    (a14 : PySem.W.nsIn K mainGlobals "_law_draw" = some (some (.ref f14)))
    (l14 : K.lookup f14 = some ⟨oc14, od14, .func (PySem.W.fnOf "_law_draw" "_law_draw" (defArgs st__law_draw) (defBody st__law_draw) (defScope st__law_draw) .none kV14 dc14 pm14 an14 cd14 ct14), sl14⟩)
    (c14 : PySem.W.codeIn K cd14 "_law_draw" = true)
    (k14 : PySem.W.keepIn K (.ref f14) = true)
    (a15 : PySem.W.nsIn K mainGlobals "_law_known" = some (some (.ref f15)))
    (l15 : K.lookup f15 = some ⟨oc15, od15, .func (PySem.W.fnOf "_law_known" "_law_known" (defArgs st__law_known) (defBody st__law_known) (defScope st__law_known) .none kV15 dc15 pm15 an15 cd15 ct15), sl15⟩)
    (c15 : PySem.W.codeIn K cd15 "_law_known" = true)
    (k15 : PySem.W.keepIn K (.ref f15) = true)
    (a16 : PySem.W.nsIn K mainGlobals "_law_steps" = some (some (.ref f16)))
    (l16 : K.lookup f16 = some ⟨oc16, od16, .func (PySem.W.fnOf "_law_steps" "_law_steps" (defArgs st__law_steps) (defBody st__law_steps) (defScope st__law_steps) .none kV16 dc16 pm16 an16 cd16 ct16), sl16⟩)
    (c16 : PySem.W.codeIn K cd16 "_law_steps" = true)
    (k16 : PySem.W.keepIn K (.ref f16) = true)
    (a17 : PySem.W.nsIn K mainGlobals "_law_anew" = some (some (.ref f17)))
    (l17 : K.lookup f17 = some ⟨oc17, od17, .func (PySem.W.fnOf "_law_anew" "_law_anew" (defArgs st__law_anew) (defBody st__law_anew) (defScope st__law_anew) .none kV17 dc17 pm17 an17 cd17 ct17), sl17⟩)
    (c17 : PySem.W.codeIn K cd17 "_law_anew" = true)
    (k17 : PySem.W.keepIn K (.ref f17) = true)
    (a18 : PySem.W.nsIn K mainGlobals "_law_power" = some (some (.ref f18)))
    (l18 : K.lookup f18 = some ⟨oc18, od18, .func (PySem.W.fnOf "_law_power" "_law_power" (defArgs st__law_power) (defBody st__law_power) (defScope st__law_power) .none kV18 dc18 pm18 an18 cd18 ct18), sl18⟩)
    (c18 : PySem.W.codeIn K cd18 "_law_power" = true)
    (k18 : PySem.W.keepIn K (.ref f18) = true)
    (a19 : PySem.W.nsIn K mainGlobals "_law_is_told" = some (some (.ref f19)))
    (l19 : K.lookup f19 = some ⟨oc19, od19, .func (PySem.W.fnOf "_law_is_told" "_law_is_told" (defArgs st__law_is_told) (defBody st__law_is_told) (defScope st__law_is_told) .none kV19 dc19 pm19 an19 cd19 ct19), sl19⟩)
    (c19 : PySem.W.codeIn K cd19 "_law_is_told" = true)
    (k19 : PySem.W.keepIn K (.ref f19) = true)
    (a20 : PySem.W.nsIn K mainGlobals "law" = some (some (.ref f20)))
    (l20 : K.lookup f20 = some ⟨oc20, od20, .func (PySem.W.fnOf "law" "law" (defArgs st_law) (defBody st_law) (defScope st_law) .none kV20 dc20 pm20 an20 cd20 ct20), sl20⟩)
    (c20 : PySem.W.codeIn K cd20 "law" = true)
    (k20 : PySem.W.keepIn K (.ref f20) = true)
    (pg0 : PySem.W.plainGet K C0 Str.empty = true)
    (hd0 : PySem.W.hasDictIn K C0 = true)
    (po0 : PySem.W.plainOver K C0 = true)
    (sa0 : PySem.W.findIn K (.ref C0) "__setattr__" = some (some (.builtin "object.__setattr__")))
    (mk0 : PySem.W.makesIn K C0 = true)
    (kc0 : PySem.W.keepIn K (.ref C0) = true)
    (pg1 : PySem.W.plainGet K C1 Str.empty = true)
    (hd1 : PySem.W.hasDictIn K C1 = true)
    (po1 : PySem.W.plainOver K C1 = true)
    (sa1 : PySem.W.findIn K (.ref C1) "__setattr__" = some (some (.builtin "object.__setattr__")))
    (mk1 : PySem.W.makesIn K C1 = true)
    (kc1 : PySem.W.keepIn K (.ref C1) = true)
    (b_all : PySem.W.nsIn K mainGlobals "all" = some none)
    (b_bool : PySem.W.nsIn K mainGlobals "bool" = some none)
    (b_enumerate : PySem.W.nsIn K mainGlobals "enumerate" = some none)
    (b_int : PySem.W.nsIn K mainGlobals "int" = some none)
    (b_isinstance : PySem.W.nsIn K mainGlobals "isinstance" = some none)
    (b_len : PySem.W.nsIn K mainGlobals "len" = some none)
    (b_list : PySem.W.nsIn K mainGlobals "list" = some none)
    (b_max : PySem.W.nsIn K mainGlobals "max" = some none)
    (b_min : PySem.W.nsIn K mainGlobals "min" = some none)
    (b_range : PySem.W.nsIn K mainGlobals "range" = some none)
    (b_repr : PySem.W.nsIn K mainGlobals "repr" = some none)
    (b_sorted : PySem.W.nsIn K mainGlobals "sorted" = some none)
    (b_tuple : PySem.W.nsIn K mainGlobals "tuple" = some none)
    (b_zip : PySem.W.nsIn K mainGlobals "zip" = some none)
    (g_NOTHING : PySem.W.nsIn K mainGlobals "NOTHING" = some (some (.int (-1) t_NOTHING)))
    (n_0_rows : PySem.W.findIn K (.ref C0) "rows" = some none)
    (n_1_most : PySem.W.findIn K (.ref C1) "most" = some none)
    (n_1_start : PySem.W.findIn K (.ref C1) "start" = some none)
    (n_1_steady_values : PySem.W.findIn K (.ref C1) "steady_values" = some none)
    (n_1_table : PySem.W.findIn K (.ref C1) "table" = some none) :
    LawD l w K 9 "_law_script" f_law mg fa h := by
  have e := hfa.symm.trans (PySem.W.mg_of X G a20)
  cases e
  refine ⟨PySem.W.fnOf "law" "law" (defArgs st_law) (defBody st_law) (defScope st_law) .none kV20 dc20 pm20 an20 cd20 ct20, [(cc11, P11)], fun p hp => by
    obtain rfl := List.mem_singleton.mp hp
    exact ⟨tb11.1, tb11.2, np11⟩, fun s v => .of_eq rfl, fun base IB NB TB => ?_⟩
  have Z : Txt ⟨l.prog, w, mg, base⟩ K (fun c => match c with | 0 => C0 | 1 => C1 | _ => 0) [(P11, ("longest_without.<locals>.<lambda>" : Str))] := {
    F_is_integer := ⟨_, _, PySem.W.mg_of X G a0, fun_mk (st := st_is_integer) l0 c0 k0⟩,
    F_is_value := ⟨_, _, PySem.W.mg_of X G a1, fun_mk (st := st_is_value) l1 c1 k1⟩,
    F_are_rows := ⟨_, _, PySem.W.mg_of X G a2, fun_mk (st := st_are_rows) l2 c2 k2⟩,
    F_odd_triple := ⟨_, _, PySem.W.mg_of X G a3, fun_mk (st := st_odd_triple) l3 c3 k3⟩,
    F_Table___init__ := ⟨_, _, PySem.W.mg_of X G aC0, ⟨mk0, a4, i4, kc0⟩, fun_mk (st := st_Table___init__) l4 c4 k4⟩,
    F_Table___len__ := ⟨_, _, ⟨a5, i5, k5⟩, fun_mk (st := st_Table___len__) l5 c5 k5⟩,
    F_Table_joined := ⟨_, _, ⟨a6, i6, k6⟩, fun_mk (st := st_Table_joined) l6 c6 k6⟩,
    F_steady := ⟨_, _, PySem.W.mg_of X G a7, fun_mk (st := st_steady) l7 c7 k7⟩,
    F_Endings___init__ := ⟨_, _, PySem.W.mg_of X G aC1, ⟨mk1, a8, i8, kc1⟩, fun_mk (st := st_Endings___init__) l8 c8 k8⟩,
    F_Endings_pairs_behind := ⟨_, _, ⟨a9, i9, k9⟩, fun_mk (st := st_Endings_pairs_behind) l9 c9 k9⟩,
    F_Endings_state_behind := ⟨_, _, ⟨a10, i10, k10⟩, fun_mk (st := st_Endings_state_behind) l10 c10 k10⟩,
    F_longest_without := ⟨_, _, cc11, P11, PySem.W.mg_of X G a11, fun_mk (st := st_longest_without) l11 c11 k11, rfl, TB (cc11, P11) List.mem_cons_self, rfl⟩,
    F_sure_length := ⟨_, _, PySem.W.mg_of X G a12, fun_mk (st := st_sure_length) l12 c12 k12⟩,
    F__law_deck := ⟨_, _, PySem.W.mg_of X G a13, fun_mk (st := st__law_deck) l13 c13 k13⟩,
    F__law_draw := ⟨_, _, PySem.W.mg_of X G a14, fun_mk (st := st__law_draw) l14 c14 k14⟩,
    F__law_known := ⟨_, _, PySem.W.mg_of X G a15, fun_mk (st := st__law_known) l15 c15 k15⟩,
    F__law_steps := ⟨_, _, PySem.W.mg_of X G a16, fun_mk (st := st__law_steps) l16 c16 k16⟩,
    F__law_anew := ⟨_, _, PySem.W.mg_of X G a17, fun_mk (st := st__law_anew) l17 c17 k17⟩,
    F__law_power := ⟨_, _, PySem.W.mg_of X G a18, fun_mk (st := st__law_power) l18 c18 k18⟩,
    F__law_is_told := ⟨_, _, PySem.W.mg_of X G a19, fun_mk (st := st__law_is_told) l19 c19 k19⟩,
    F_law := ⟨_, _, PySem.W.mg_of X G a20, fun_mk (st := st_law) l20 c20 k20⟩,
    b_all := PySem.W.mg_none_of X G b_all,
    b_bool := PySem.W.mg_none_of X G b_bool,
    b_enumerate := PySem.W.mg_none_of X G b_enumerate,
    b_int := PySem.W.mg_none_of X G b_int,
    b_isinstance := PySem.W.mg_none_of X G b_isinstance,
    b_len := PySem.W.mg_none_of X G b_len,
    b_list := PySem.W.mg_none_of X G b_list,
    b_max := PySem.W.mg_none_of X G b_max,
    b_min := PySem.W.mg_none_of X G b_min,
    b_range := PySem.W.mg_none_of X G b_range,
    b_repr := PySem.W.mg_none_of X G b_repr,
    b_sorted := PySem.W.mg_none_of X G b_sorted,
    b_tuple := PySem.W.mg_none_of X G b_tuple,
    b_zip := PySem.W.mg_none_of X G b_zip,
    g_NOTHING := ⟨_, PySem.W.mg_of X G g_NOTHING⟩,
    c_0 := ⟨pg0, hd0, po0, sa0⟩,
    c_1 := ⟨pg1, hd1, po1, sa1⟩,
    n_0_rows := n_0_rows,
    n_1_most := n_1_most,
    n_1_start := n_1_start,
    n_1_steady_values := n_1_steady_values,
    n_1_table := n_1_table }
  obtain ⟨f9, fd9, em, FF, hF⟩ := ok_law Z
  have em2 := em.symm.trans (PySem.W.mg_of X G a20)
  cases em2
  obtain ⟨_, _, _, _, _, _, _, _, _, _, lk, _⟩ := FF.ex
  have lk2 := l20.symm.trans lk
  cases lk2
  exact ⟨Tc ⟨l.prog, w, mg, base⟩ K (fun c => match c with | 0 => C0 | 1 => C1 | _ => 0) [(P11, ("longest_without.<locals>.<lambda>" : Str))], rfl, fun p hp => by
    obtain rfl := List.mem_singleton.mp hp
    exact List.mem_singleton.mpr rfl, hF⟩
end K47

set_option Elab.async false
set_option linter.all false
set_option maxRecDepth 100000
set_option maxHeartbeats 4000000
set_option autoImplicit false
namespace K47
open PySem L2 DL
/-! ### the deck -/
abbrev dk (us : List Int) (b c : Int) (T : GH) : GH := .lst (us.map D.int) :: .lst [.ref 0, .int b, .int c] :: T
theorem ints_py : ∀ us : List Int, arePy (us.map D.int) = true
  | [] => rfl
  | _ :: us => ints_py us
theorem ints_lay : ∀ us : List Int, PyData.canLayAll0 (pys (us.map D.int)) = true ∧ PyData.depthAll (pys (us.map D.int)) = 0
  | [] => ⟨rfl, rfl⟩
  | u :: us => by
    obtain ⟨h1, h2⟩ := ints_lay us
    have e1 : PyData.canLayAll0 (pys ((u :: us).map D.int)) = (PyData.canLay0 (.int u) && PyData.canLayAll0 (pys (us.map D.int))) := by simp [pys, py, PyData.canLayAll0]
    have e2 : PyData.depthAll (pys ((u :: us).map D.int)) = max (PyData.depth (.int u)) (PyData.depthAll (pys (us.map D.int))) := by simp [pys, py, PyData.depthAll]
    rw [e1, e2, h1, h2]
    simp [PyData.canLay0, PyData.depth]
theorem ints_ok (us : List Int) : okD (.lst (us.map D.int)) = true := by
  obtain ⟨h1, h2⟩ := ints_lay us
  simp [okD, isPy, ints_py, py, SeqAt.shaped, PyData.canLay0, PyData.depth, h1, h2]
theorem nil_ok : okD (.lst []) = true := ints_ok []
theorem ne_nil (us : List Int) (b c : Int) (T : GH) : oNe (.ref 0) (.lst []) (dk us b c T) = .ok (.bl (!us.isEmpty)) (dk us b c T) := by
  have e1 : okV (dk us b c T) (.ref 0) = true := by
    show (okD (.lst (us.map D.int)) && true) = true
    rw [ints_ok]
    rfl
  have e2 : okV (dk us b c T) (.lst []) = true := by
    show (okD (.lst []) && true) = true
    rw [nil_ok]
    rfl
  have e3 : eqD (vw (dk us b c T) (.ref 0)) (vw (dk us b c T) (.lst [])) = us.isEmpty := by
    show PyData.eqv (.list (pys (us.map D.int))) (.list []) = _
    cases us <;> simp [PyData.eqv, PyData.eqvAll, pys]
  unfold oNe
  rw [e1, e2, e3]
  rfl
theorem mul_r {i j : Int} {G : GH} (h1 : -(2 ^ 64) < j) (h2 : j < 2 ^ 64) : oMul (.int i) (.int j) G = .ok (.int (i * j)) G := by
  have e : pMul i j = true := by
    unfold pMul
    rw [decide_eq_true h1, decide_eq_true h2]
    simp
  show (if pMul i j = true then _ else _) = _
  rw [if_pos e]
theorem mod_r {i j : Int} {G : GH} (h1 : 0 < j) : oMod (.int i) (.int j) G = .ok (.int (i % j)) G := by
  show (if decide (0 < j) = true then _ else _) = _
  rw [if_pos (decide_eq_true h1)]
theorem div_r {i j : Int} {G : GH} (h1 : 0 < j) (h2 : j < 1073741824) : oFdiv (.int i) (.int j) G = .ok (.int (i / j)) G := by
  have e : pDiv i j = true := by simp [pDiv, h1, h2]
  show (if pDiv i j = true then _ else _) = _
  rw [if_pos e]
theorem add_r {i j : Int} {G : GH} : oAdd (.int i) (.int j) G = .ok (.int (i + j)) G := rfl
theorem ge_r {i j : Int} {G : GH} : oGe (.int i) (.int j) G = .ok (.bl (decide (j ≤ i))) G := rfl
theorem pow_r {G : GH} : oPow (.int 10) (.int 18) G = .ok (.int 1000000000000000000) G := by kernel_rfl
theorem ix0 (us : List Int) (b c : Int) (T : GH) : oIxA (.ref 1) (.int 0) (dk us b c T) = .ok (.ref 0) (dk us b c T) := by kernel_rfl
theorem ix1 (us : List Int) (b c : Int) (T : GH) : oIxA (.ref 1) (.int 1) (dk us b c T) = .ok (.int b) (dk us b c T) := by kernel_rfl
theorem ix2 (us : List Int) (b c : Int) (T : GH) : oIxA (.ref 1) (.int 2) (dk us b c T) = .ok (.int c) (dk us b c T) := by kernel_rfl
theorem set2 (us : List Int) (b c d : Int) (T : GH) : setIx (.ref 1) (.int 2) (.int d) (dk us b c T) = some (dk us b d T) := by kernel_rfl
theorem isl (us : List Int) (b c : Int) (T : GH) : isLst (vw (dk us b c T) (.ref 0)) = true := by kernel_rfl
theorem pop_r (us : List Int) (x b c : Int) (T : GH) : mPop (.ref 0) [] (dk (us ++ [x]) b c T) = .ok (.int x) (dk us b c T) := by
  have e1 : ((us ++ [x]).map D.int)[((us ++ [x]).map D.int).length - 1]? = some (.int x) := by simp
  have e2 : ((us ++ [x]).map D.int).dropLast = us.map D.int := by simp
  show (match ((us ++ [x]).map D.int)[((us ++ [x]).map D.int).length - 1]? with | some y => R.ok y (D.lst ((us ++ [x]).map D.int).dropLast :: .lst [.ref 0, .int b, .int c] :: T) | none => .st) = _
  rw [e1, e2]
theorem app_r (us : List Int) (x b c : Int) (T : GH) (h : us.length < 1000) : mAppend (.ref 0) [.int x] (dk us b c T) = .ok .non (dk (us ++ [x]) b c T) := by
  have e : (us.map D.int).length < sizeLine := by rw [List.length_map]; exact Nat.lt_trans h (by decide)
  show (if (us.map D.int).length < sizeLine then R.ok D.non (D.lst (us.map D.int ++ [.int x]) :: .lst [.ref 0, .int b, .int c] :: T) else .st) = _
  rw [if_pos e]
  simp
theorem draw (us : List Int) (b c n : Int) (T : GH) (h1 : 1 ≤ n) (h2 : n ≤ 1000) (c1 : 0 ≤ c) (c2 : c ≤ 1000) (hu : us.length ≤ 100) :
    ∃ (r : Int) (vs : List Int), 0 ≤ r ∧ r < n ∧ vs.length ≤ 100 ∧ f__law_draw [.ref 1, .int n] (dk us b c T) = .ok (.int r) (dk vs b (c + 1) T) := by
  have hn : n ≠ 0 := by omega
  have tail : ∀ (X : Int) (o : Option D) (vs : List Int), ∃ r : Int, 0 ≤ r ∧ r < n ∧ sSeq (sSet 2 (fBin oMod (fBin oMul (fBin oMod (fBi gInt (fCons (fVar 2) fNil)) (fC (.int 2147483587))) (fC (.int 48271))) (fC (.int 2147483647))))
      (sSeq (sSet 2 (fBin oMod (fBi gInt (fCons (fBin oAdd (fBin oAdd (fBin oMul (fVar 2) (fVar 2)) (fBin oMul (fC (.int 69621)) (fBin oIxA (fVar 0) (fC (.int 2))))) (fC (.int 67))) fNil)) (fC (.int 2147483549))))
      (sRet (fBin oMod (fBin oFdiv (fBin oMod (fBi gInt (fCons (fBin oMul (fVar 2) (fC (.int 39373))) fNil)) (fC (.int 2147483629))) (fC (.int 64))) (fVar 1)))) [some (.ref 1), some (.int n), some (.int X), o] (dk vs b (c + 1) T)
      = .rt (.int r) (dk vs b (c + 1) T) := by
    intro X o vs
    refine ⟨((((X % 2147483587 * 48271 % 2147483647) * (X % 2147483587 * 48271 % 2147483647) + 69621 * (c + 1) + 67) % 2147483549) * 39373) % 2147483629 / 64 % n, Int.emod_nonneg _ hn, Int.emod_lt_of_pos _ (by omega), ?_⟩
    generalize hZ : X % 2147483587 * 48271 % 2147483647 = Z
    have hz : 0 ≤ Z := by rw [← hZ]; exact Int.emod_nonneg _ (by decide)
    have hy : Z < 2147483647 := by rw [← hZ]; exact Int.emod_lt_of_pos _ (by decide)
    have q1 : ∀ G : GH, oMod (.int X) (.int 2147483587) G = .ok (.int (X % 2147483587)) G := fun G => mod_r (by decide)
    have q2 : ∀ G : GH, oMul (.int (X % 2147483587)) (.int 48271) G = .ok (.int (X % 2147483587 * 48271)) G := fun G => mul_r (by decide) (by decide)
    have q3 : ∀ G : GH, oMod (.int (X % 2147483587 * 48271)) (.int 2147483647) G = .ok (.int Z) G := fun G => by rw [mod_r (by decide), hZ]
    have q4 : ∀ G : GH, oMul (.int Z) (.int Z) G = .ok (.int (Z * Z)) G := fun G => mul_r (by omega) (by omega)
    have q5 : ∀ G : GH, oMul (.int 69621) (.int (c + 1)) G = .ok (.int (69621 * (c + 1))) G := fun G => mul_r (by omega) (by omega)
    have q6 : ∀ (i : Int) (G : GH), oMod (.int i) (.int 2147483549) G = .ok (.int (i % 2147483549)) G := fun i G => mod_r (by decide)
    have q7 : ∀ (i : Int) (G : GH), oMul (.int i) (.int 39373) G = .ok (.int (i * 39373)) G := fun i G => mul_r (by decide) (by decide)
    have q8 : ∀ (i : Int) (G : GH), oMod (.int i) (.int 2147483629) G = .ok (.int (i % 2147483629)) G := fun i G => mod_r (by decide)
    have q9 : ∀ (i : Int) (G : GH), oFdiv (.int i) (.int 64) G = .ok (.int (i / 64)) G := fun i G => div_r (by decide) (by decide)
    have q10 : ∀ (i : Int) (G : GH), oMod (.int i) (.int n) G = .ok (.int (i % n)) G := fun i G => mod_r (by omega)
    simp only [sSeq, sSet, sRet, fBin, fBi, fCons, fNil, fVar, fC, R.bnd, R.go, gInt, one1, List.getElem?_cons_zero, List.getElem?_cons_succ, List.set_cons_zero, List.set_cons_succ, q1, q2, q3, q4, q5, q6, q7, q8, q9, q10, ix2, add_r]
  have p1 : ∀ G : GH, oMul (.int 60133) (.int (c + 1)) G = .ok (.int (60133 * (c + 1))) G := fun G => mul_r (by omega) (by omega)
  have p2 : ∀ (i : Int) (G : GH), oMul (.int i) (.int (c + 1)) G = .ok (.int (i * (c + 1))) G := fun i G => mul_r (by omega) (by omega)
  have d1 : ∀ (i : Int) (G : GH), oFdiv (.int i) (.int n) G = .ok (.int (i / n)) G := fun i G => div_r (by omega) (by omega)
  have m1 : ∀ (i : Int) (G : GH), oMod (.int i) (.int n) G = .ok (.int (i % n)) G := fun i G => mod_r (by omega)
  rcases List.eq_nil_or_concat us with rfl | ⟨vs, x, rfl⟩
  · obtain ⟨r, r1, r2, et⟩ := tail (b + 60133 * (c + 1) * (c + 1)) none []
    refine ⟨r, [], r1, r2, by decide, ?_⟩
    show (match s__law_draw [some (.ref 1), some (.int n), none, none] (dk [] b c T) with | .nx _ G1 => R.ok D.non G1 | .rt d G1 => R.ok d G1 | .ex e _ G1 => R.ex e G1 | _ => R.st) = _
    have h : s__law_draw [some (.ref 1), some (.int n), none, none] (dk [] b c T) = .rt (.int r) (dk [] b (c + 1) T) := by
      unfold s__law_draw
      refine Eq.trans ?_ et
      have a3 : oNe (.ref 0) (.lst []) (dk [] b (c + 1) T) = .ok (.bl false) (dk [] b (c + 1) T) := ne_nil [] b (c + 1) T
      simp only [sSeq, sAsg, DL.gSub, sIf, sNil, fB, fLst, small, sSet, sRet, fBin, fBi, fCons, fNil, fVar, fC, R.bnd, R.go, gInt, one1, List.getElem?_cons_zero, List.getElem?_cons_succ, List.set_cons_zero, List.set_cons_succ, ix0, ix1, ix2, set2, add_r, p1, p2, List.length_nil, Nat.zero_le, decide_true, if_true, a3]
    rw [h]
  · have hl : vs.length < 100 := by rw [List.concat_eq_append, List.length_append, List.length_singleton] at hu; omega
    have a3 : oNe (.ref 0) (.lst []) (dk (vs ++ [x]) b (c + 1) T) = .ok (.bl true) (dk (vs ++ [x]) b (c + 1) T) := by
      rw [ne_nil]
      simp
    have a4 := isl (vs ++ [x]) b (c + 1) T
    have a5 := pop_r vs x b (c + 1) T
    have a6 := isl vs b (c + 1) T
    have a7 := app_r vs (x / n) b (c + 1) T (by omega)
    rw [List.concat_eq_append]
    by_cases hx : 1000000000000000000 ≤ x
    · refine ⟨x % n, vs ++ [x / n], Int.emod_nonneg _ hn, Int.emod_lt_of_pos _ (by omega), by rw [List.length_append, List.length_singleton]; omega, ?_⟩
      show (match s__law_draw [some (.ref 1), some (.int n), none, none] (dk (vs ++ [x]) b c T) with | .nx _ G1 => R.ok D.non G1 | .rt d G1 => R.ok d G1 | .ex e _ G1 => R.ex e G1 | _ => R.st) = _
      have h : s__law_draw [some (.ref 1), some (.int n), none, none] (dk (vs ++ [x]) b c T) = .rt (.int (x % n)) (dk (vs ++ [x / n]) b (c + 1) T) := by
        unfold s__law_draw
        simp only [sSeq, sAsg, DL.gSub, sIf, sNil, sExpr, fBm, fB, fLst, small, sSet, sRet, fBin, fBi, fCons, fNil, fVar, fC, R.bnd, R.go, gInt, one1, List.getElem?_cons_zero, List.getElem?_cons_succ, List.set_cons_zero, List.set_cons_succ, ix0, ix1, ix2, set2, add_r, p1, p2, List.length_nil, Nat.zero_le, decide_true, if_true, a3, a4, a5, a6, a7, d1, m1, ge_r, pow_r, hx]
      rw [h]
    · obtain ⟨r, r1, r2, et⟩ := tail (b + 60133 * (c + 1) * (c + 1) + x) (some (.int x)) vs
      refine ⟨r, vs, r1, r2, by omega, ?_⟩
      show (match s__law_draw [some (.ref 1), some (.int n), none, none] (dk (vs ++ [x]) b c T) with | .nx _ G1 => R.ok D.non G1 | .rt d G1 => R.ok d G1 | .ex e _ G1 => R.ex e G1 | _ => R.st) = _
      have h : s__law_draw [some (.ref 1), some (.int n), none, none] (dk (vs ++ [x]) b c T) = .rt (.int r) (dk vs b (c + 1) T) := by
        unfold s__law_draw
        refine Eq.trans ?_ et
        simp only [sSeq, sAsg, DL.gSub, sIf, sNil, sExpr, fBm, fB, fLst, small, sSet, sRet, fBin, fBi, fCons, fNil, fVar, fC, R.bnd, R.go, gInt, one1, List.getElem?_cons_zero, List.getElem?_cons_succ, List.set_cons_zero, List.set_cons_succ, ix0, ix1, ix2, set2, add_r, p1, p2, List.length_nil, Nat.zero_le, decide_true, if_true, a3, a4, a5, a6, a7, d1, m1, ge_r, pow_r, hx, decide_false]
      rw [h]
/-- the deck made -/
theorem deck_loop (us : List Int) (sc : Option D) : ∀ (k i m : Nat) (b : Int) (o : Option D), i + k = us.length → k < m →
    ∃ (b' : Int) (o' : Option D), loopL 0 (gSlot 3) (sSet 2 (fBin oMod (fBi gInt (fCons (fBin oAdd (fBin oAdd (fBin oMul (fVar 2) (fC (.int 40692))) (fBin oMod (fBi gInt (fCons (fVar 3) fNil)) (fC (.int 2147483563)))) (fC (.int 59))) fNil)) (fC (.int 2147483629)))) m i [sc, some (.ref 0), some (.int b), o] [.lst (us.map D.int)]
      = .nx [sc, some (.ref 0), some (.int b'), o'] [.lst (us.map D.int)] := by
  intro k
  induction k with
  | zero =>
    intro i m b o hi hm
    obtain ⟨m, rfl⟩ : ∃ q, m = q + 1 := ⟨m - 1, by omega⟩
    refine ⟨b, o, ?_⟩
    have e : (us.map D.int)[i]? = none := by simp; omega
    show (match (us.map D.int)[i]? with | none => RS.nx _ _ | some d => _) = _
    rw [e]
  | succ k ih =>
    intro i m b o hi hm
    obtain ⟨m, rfl⟩ : ∃ q, m = q + 1 := ⟨m - 1, by omega⟩
    obtain ⟨u, hu⟩ : ∃ u, us[i]? = some u := ⟨us[i]'(by omega), List.getElem?_eq_getElem _⟩
    have e : (us.map D.int)[i]? = some (.int u) := by rw [List.getElem?_map, hu]; rfl
    have q1 : ∀ G : GH, oMul (.int b) (.int 40692) G = .ok (.int (b * 40692)) G := fun G => mul_r (by decide) (by decide)
    have q2 : ∀ G : GH, oMod (.int u) (.int 2147483563) G = .ok (.int (u % 2147483563)) G := fun G => mod_r (by decide)
    have q3 : ∀ (i : Int) (G : GH), oMod (.int i) (.int 2147483629) G = .ok (.int (i % 2147483629)) G := fun i G => mod_r (by decide)
    obtain ⟨b', o', h⟩ := ih (i + 1) m ((b * 40692 + u % 2147483563 + 59) % 2147483629) (some (.int u)) (by omega) (by omega)
    refine ⟨b', o', Eq.trans ?_ h⟩
    have st : sSet 2 (fBin oMod (fBi gInt (fCons (fBin oAdd (fBin oAdd (fBin oMul (fVar 2) (fC (.int 40692))) (fBin oMod (fBi gInt (fCons (fVar 3) fNil)) (fC (.int 2147483563)))) (fC (.int 59))) fNil)) (fC (.int 2147483629))) [sc, some (.ref 0), some (.int b), some (.int u)] [.lst (us.map D.int)]
        = .nx [sc, some (.ref 0), some (.int ((b * 40692 + u % 2147483563 + 59) % 2147483629)), some (.int u)] [.lst (us.map D.int)] := by
      simp only [sSet, fBin, fBi, fCons, fNil, fVar, fC, R.bnd, R.go, gInt, one1, List.getElem?_cons_zero, List.getElem?_cons_succ, List.set_cons_zero, List.set_cons_succ, q1, q2, q3, add_r]
    rw [loopL]
    show (match (us.map D.int)[i]? with | none => RS.nx _ _ | some d => _) = _
    rw [e]
    show (match sSet 2 _ [sc, some (.ref 0), some (.int b), some (.int u)] [.lst (us.map D.int)] with | .nx ρ2 G2 => _ | .ct ρ2 G2 => _ | .bk ρ2 G2 => _ | o => o) = _
    rw [st]
theorem deck_r (ns : List Int) : ∃ (us : List Int) (b : Int), us.length ≤ 100 ∧ f__law_deck [.scr ns] [] = .ok (.ref 1) (dk us b 0 []) := by
  have hc : (cut ns none (some 63)).length ≤ 63 := by
    unfold cut
    rw [List.length_take]
    have e1 : HT.sIx ns.length ns.length (some 63) = min 63 ns.length := HT.sIx_nat _ _ 63
    rw [e1]
    omega
  obtain ⟨b', o', h⟩ := deck_loop (cut ns none (some 63)).reverse (some (.scr ns)) (cut ns none (some 63)).reverse.length 0 FUEL 89447 none (by omega) (by rw [List.length_reverse]; exact Nat.lt_of_le_of_lt hc (by decide))
  refine ⟨(cut ns none (some 63)).reverse, b', by rw [List.length_reverse]; omega, ?_⟩
  have hs : s__law_deck [some (.scr ns), none, none, none] [] = .rt (.ref 1) (dk (cut ns none (some 63)).reverse b' 0 []) := by
    unfold s__law_deck
    have e1 : sPar 1 2 (fRevL true (fBi (gList false) (fCons (fSlc false (fVar 0) fNoP (fP (fC (.int 63)))) fNil))) (fC (.int 89447)) [some (.scr ns), none, none, none] [] = .nx [some (.scr ns), some (.ref 0), some (.int 89447), none] [.lst ((cut ns none (some 63)).reverse.map D.int)] := by
      have e0 : cut (ns.map D.int) none (some 63) = (cut ns none (some 63)).map D.int := by
        unfold cut
        rw [List.length_map, List.map_take, List.map_drop]
      rw [List.map_reverse, ← e0]
      rfl
    rw [sSeq, e1]
    simp only []
    have e2 : sForL FUEL (fVar 1) (gSlot 3) (sSet 2 (fBin oMod (fBi gInt (fCons (fBin oAdd (fBin oAdd (fBin oMul (fVar 2) (fC (.int 40692))) (fBin oMod (fBi gInt (fCons (fVar 3) fNil)) (fC (.int 2147483563)))) (fC (.int 59))) fNil)) (fC (.int 2147483629)))) [some (.scr ns), some (.ref 0), some (.int 89447), none] [.lst ((cut ns none (some 63)).reverse.map D.int)]
        = .nx [some (.scr ns), some (.ref 0), some (.int b'), o'] [.lst ((cut ns none (some 63)).reverse.map D.int)] := h
    rw [sSeq, e2]
    rfl
  show (match s__law_deck [some (.scr ns), none, none, none] [] with | .nx _ G1 => R.ok D.non G1 | .rt d G1 => R.ok d G1 | .ex e _ G1 => R.ex e G1 | _ => R.st) = _
  rw [hs]
end K47

set_option Elab.async false
set_option linter.all false
set_option maxRecDepth 100000
set_option maxHeartbeats 4000000
set_option autoImplicit false
namespace K47
open PySem L2 DL
theorem drawS {i : Nat} {E : F} {ρ : DL.Env} {G G1 : GH} {m r : Int} (h1 : ρ[1]? = some (some (D.ref 1))) (hE : E ρ G = .ok (.int m) G) (h : f__law_draw [.ref 1, .int m] G = .ok (.int r) G1) :
    sSet i (fBin oAdd (fC (.int 1)) (fCall [0, 1] f__law_draw (fLen 2 (fCons (fVar 1) (fCons E fNil))))) ρ G = .nx (ρ.set i (some (.int (1 + r)))) G1 := by
  have sk : ∀ x y : D, sel [0, 1] [x, y] = [x, y] := fun _ _ => rfl
  simp only [sSet, fBin, fC, fCall, fLen, fCons, fNil, fVar, R.bnd, R.go, h1, hE, sk, List.length_cons, List.length_nil, if_true, h, add_r]
def body3 : FS := sExpr (fBm isLst mAppend (fVar 6) (fCons (fBm isLst mPopAt (fVar 5) (fCons (fCall [0, 1] f__law_draw (fLen 2 (fCons (fVar 1) (fCons (fBi gLen (fCons (fVar 5) fNil)) fNil)))) fNil)) fNil))
def test3 : FT := fB (fBin oNe (fVar 5) (fLst fNil))
theorem law3 : s_law_3 = sWhile FUEL test3 body3 := rfl
theorem body3_r {ρ : DL.Env} {G G1 : GH} {L S r : Nat} {ls sp : List D} {y : D} (h1 : ρ[1]? = some (some (D.ref 1))) (h5 : ρ[5]? = some (some (D.ref L))) (h6 : ρ[6]? = some (some (D.ref S))) (gL : G[L]? = some (D.lst ls)) (gS : G[S]? = some (D.lst sp))
    (hd : f__law_draw [.ref 1, .int ls.length] G = .ok (.int r) G1) (gL1 : G1[L]? = some (D.lst ls)) (gS1 : G1[S]? = some (D.lst sp)) (hLS : L ≠ S) (hy : ls[r]? = some y) (hz : ls.length ≤ 1000) (hs : sp.length ≤ 1000) :
    body3 ρ G = .nx ρ ((G1.set L (.lst (ls.eraseIdx r))).set S (.lst (sp ++ [y]))) := by
  have sk : ∀ x y : D, sel [0, 1] [x, y] = [x, y] := fun _ _ => rfl
  have hr := (List.getElem?_eq_some_iff.mp hy).1
  have v1 : vw G (.ref S) = .lst sp := by simp only [vw, gS]
  have v2 : vw G (.ref L) = .lst ls := by simp only [vw, gL]
  have l1 : gLen [.ref L] G = .ok (.int ls.length) G := by simp only [gLen, one1, v2]
  have ix : seqIndex? (r : Int) ls.length = some r := by
    unfold seqIndex?
    simp
    omega
  have p1 : mPopAt (.ref L) [.int r] G1 = .ok y (G1.set L (.lst (ls.eraseIdx r))) := by
    have c : -(2 ^ 63) ≤ (r : Int) ∧ (r : Int) < 2 ^ 63 := by omega
    simp only [mPopAt, onLst, gL1, if_pos c, ix, hy]
  have q1 : (G1.set L (.lst (ls.eraseIdx r)))[S]? = some (D.lst sp) := by rw [List.getElem?_set_ne hLS]; exact gS1
  have a1 : mAppend (.ref S) [y] (G1.set L (.lst (ls.eraseIdx r))) = .ok .non ((G1.set L (.lst (ls.eraseIdx r))).set S (.lst (sp ++ [y]))) := by
    have c : sp.length < sizeLine := Nat.lt_of_le_of_lt hs (by decide)
    simp only [mAppend, onLst, q1, if_pos c]
  simp only [body3, sExpr, fBm, fBi, fCall, fLen, fCons, fNil, fVar, R.bnd, R.go, h1, h5, h6, v1, v2, isLst, l1, sk, List.length_cons, List.length_nil, if_true, hd, p1, a1]
theorem test3_r {ρ : DL.Env} {G : GH} {L : Nat} {us : List Int} (h5 : ρ[5]? = some (some (D.ref L))) (gL : G[L]? = some (D.lst (us.map D.int))) : test3 ρ G = .ok (!us.isEmpty) G := by
  have v : vw G (.ref L) = .lst (us.map D.int) := by simp only [vw, gL]
  have e1 : okV G (.ref L) = true := by
    simp only [okV, v, ints_ok, Bool.and_self]
  have e2 : okV G (.lst []) = true := by
    show (okD (.lst []) && true) = true
    rw [nil_ok]
    rfl
  have e3 : eqD (vw G (.ref L)) (vw G (.lst [])) = us.isEmpty := by
    rw [v]
    show PyData.eqv (.list (pys (us.map D.int))) (.list []) = _
    cases us <;> simp [PyData.eqv, PyData.eqvAll, pys]
  have e4 : oNe (.ref L) (.lst []) G = .ok (.bl (!us.isEmpty)) G := by
    unfold oNe
    rw [e1, e2, e3]
    rfl
  simp only [test3, fB, fBin, fLst, fNil, fVar, small, List.length_nil, Nat.zero_le, decide_true, if_true, R.bnd, h5, e4]
theorem er_map : ∀ (l : List Int) (i : Nat), (l.map D.int).eraseIdx i = (l.eraseIdx i).map D.int
  | [], _ => rfl
  | _ :: _, 0 => rfl
  | x :: l, i + 1 => by
    show D.int x :: (l.map D.int).eraseIdx i = D.int x :: (l.eraseIdx i).map D.int
    rw [er_map l i]
/-- the orders in which a list is emptied -/
def orders : Nat → List Int → List (List Int)
  | 0, _ => [[]]
  | k + 1, ls => (List.range (k + 1)).flatMap fun r => (orders k (ls.eraseIdx r)).map fun ps => ls.getD r 0 :: ps
theorem loop3 {ρ : DL.Env} {pre : List D} {b : Int} (h1 : ρ[1]? = some (some (D.ref 1))) (h5 : ρ[5]? = some (some (D.ref (pre.length + 2)))) (h6 : ρ[6]? = some (some (D.ref (pre.length + 3)))) :
    ∀ (k m : Nat) (ls sp us : List Int) (c : Int), ls.length = k → k < m → k ≤ 10 → sp.length + k ≤ 20 → us.length ≤ 100 → 0 ≤ c → c + k ≤ 900 →
      ∃ (vs ps : List Int), vs.length ≤ 100 ∧ ps ∈ orders k ls ∧ loopW test3 body3 m ρ (dk us b c (pre ++ [.lst (ls.map D.int), .lst (sp.map D.int)])) = .nx ρ (dk vs b (c + k) (pre ++ [.lst [], .lst ((sp ++ ps).map D.int)])) := by
  intro k
  induction k with
  | zero =>
    intro m ls sp us c hl hm _ _ hu c1 c2
    obtain ⟨m, rfl⟩ : ∃ q, m = q + 1 := ⟨m - 1, by omega⟩
    obtain rfl := List.length_eq_zero_iff.mp hl
    refine ⟨us, [], hu, List.mem_singleton.mpr rfl, ?_⟩
    have g : (dk us b c (pre ++ [.lst [], .lst (sp.map D.int)]))[pre.length + 2]? = some (D.lst (([] : List Int).map D.int)) := by simp
    have t := test3_r h5 g
    rw [loopW]
    show R.go (test3 ρ (dk us b c (pre ++ [.lst [], .lst (sp.map D.int)]))) ρ _ = _
    rw [t]
    simp [R.go]
  | succ k ih =>
    intro m ls sp us c hl hm hk hs hu c1 c2
    obtain ⟨m, rfl⟩ : ∃ q, m = q + 1 := ⟨m - 1, by omega⟩
    have g0 : ∀ (ws : List Int) (d : Int), (dk ws b d (pre ++ [.lst (ls.map D.int), .lst (sp.map D.int)]))[pre.length + 2]? = some (D.lst (ls.map D.int)) := fun ws d => by simp
    have g1 : ∀ (ws : List Int) (d : Int), (dk ws b d (pre ++ [.lst (ls.map D.int), .lst (sp.map D.int)]))[pre.length + 3]? = some (D.lst (sp.map D.int)) := fun ws d => by simp
    have t := test3_r h5 (g0 us c)
    have hne : (!ls.isEmpty) = true := by cases ls with
      | nil => cases hl
      | cons _ _ => rfl
    rw [hne] at t
    obtain ⟨r, vs, r1, r2, hv, hd⟩ := draw us b c ls.length (pre ++ [.lst (ls.map D.int), .lst (sp.map D.int)]) (by omega) (by omega) c1 (by omega) hu
    obtain ⟨q, rfl⟩ : ∃ q : Nat, r = q := ⟨r.toNat, by omega⟩
    have hq : q < ls.length := by omega
    have hy : (ls.map D.int)[q]? = some (.int (ls.getD q 0)) := by
      rw [List.getElem?_map, List.getElem?_eq_getElem hq]
      simp [List.getD, List.getElem?_eq_getElem hq]
    have hd' : f__law_draw [.ref 1, .int ((ls.map D.int).length : Int)] (dk us b c (pre ++ [.lst (ls.map D.int), .lst (sp.map D.int)])) = .ok (.int q) (dk vs b (c + 1) (pre ++ [.lst (ls.map D.int), .lst (sp.map D.int)])) := by rw [List.length_map]; exact hd
    have bd := body3_r h1 h5 h6 (g0 us c) (g1 us c) hd' (g0 vs (c + 1)) (g1 vs (c + 1)) (by omega) hy (by rw [List.length_map]; omega) (by rw [List.length_map]; omega)
    have e : ((dk vs b (c + 1) (pre ++ [.lst (ls.map D.int), .lst (sp.map D.int)])).set (pre.length + 2) (.lst ((ls.map D.int).eraseIdx q))).set (pre.length + 3) (.lst (sp.map D.int ++ [.int (ls.getD q 0)]))
        = dk vs b (c + 1) (pre ++ [.lst ((ls.eraseIdx q).map D.int), .lst ((sp ++ [ls.getD q 0]).map D.int)]) := by
      have e1 : (ls.map D.int).eraseIdx q = (ls.eraseIdx q).map D.int := er_map ls q
      rw [e1]
      simp [List.set_append]
    rw [e] at bd
    obtain ⟨ws, ps, hw, hp, hl2⟩ := ih m (ls.eraseIdx q) (sp ++ [ls.getD q 0]) vs (c + 1) (by rw [List.length_eraseIdx, if_pos hq]; omega) (by omega) (by omega) (by rw [List.length_append, List.length_singleton]; omega) hv (by omega) (by omega)
    refine ⟨ws, ls.getD q 0 :: ps, hw, ?_, ?_⟩
    · exact List.mem_flatMap.mpr ⟨q, List.mem_range.mpr (by omega), List.mem_map.mpr ⟨ps, hp, rfl⟩⟩
    · rw [loopW]
      show R.go (test3 ρ (dk us b c (pre ++ [.lst (ls.map D.int), .lst (sp.map D.int)]))) ρ _ = _
      rw [t]
      show (match body3 ρ (dk us b c (pre ++ [.lst (ls.map D.int), .lst (sp.map D.int)])) with | .nx ρ2 G2 => loopW test3 body3 m ρ2 G2 | .ct ρ2 G2 => loopW test3 body3 m ρ2 G2 | .bk ρ2 G2 => .nx ρ2 G2 | o => o) = _
      rw [bd]
      show loopW test3 body3 m ρ _ = _
      rw [hl2]
      have e5 : c + 1 + (k : Int) = c + ((k + 1 : Nat) : Int) := by omega
      rw [e5]
      simp
end K47

set_option Elab.async false
set_option linter.all false
set_option maxRecDepth 100000
set_option maxHeartbeats 4000000
set_option autoImplicit false
namespace K47
open PySem L2 DL

theorem sA_0_1_1_0 (q : FS) (sc t e7 e8 e9 e10 e11 e12 e13 e14 : Option D) (o0 o1 : D) : sSeq s_law_4 (sSeq s_law_5 (sSeq s_law_6 (sSeq s_law_7 (sSeq s_law_8 q)))) [sc, some (.ref 1), t, some (.int 1), some (.int 1), some (.ref 2), some (.ref 3), e7, e8, e9, e10, e11, e12, e13, e14] (o0 :: o1 :: [.lst [], .lst [.int 0]])
    = q [sc, some (.ref 1), t, some (.int 1), some (.int 1), some (.ref 2), some (.ref 3), some (.tup [.int 0]), some (.int 1), some (.ref 4), some (.int 5), e11, e12, e13, e14] (o0 :: o1 :: [.lst [], .lst [.int 0], .lst [.int 1, .int 1, .int 1, .int 1, .int 1, .int 1]]) := by kernel_rfl
theorem sA_0_1_2_0 (q : FS) (sc t e7 e8 e9 e10 e11 e12 e13 e14 : Option D) (o0 o1 : D) : sSeq s_law_4 (sSeq s_law_5 (sSeq s_law_6 (sSeq s_law_7 (sSeq s_law_8 q)))) [sc, some (.ref 1), t, some (.int 1), some (.int 2), some (.ref 2), some (.ref 3), e7, e8, e9, e10, e11, e12, e13, e14] (o0 :: o1 :: [.lst [], .lst [.int 0]])
    = q [sc, some (.ref 1), t, some (.int 1), some (.int 2), some (.ref 2), some (.ref 3), some (.tup [.int 0]), some (.int 2), some (.ref 4), some (.int 5), e11, e12, e13, e14] (o0 :: o1 :: [.lst [], .lst [.int 0], .lst [.int 2, .int 2, .int 2, .int 2, .int 2, .int 2]]) := by kernel_rfl
theorem sA_0_2_1_01 (q : FS) (sc t e7 e8 e9 e10 e11 e12 e13 e14 : Option D) (o0 o1 : D) : sSeq s_law_4 (sSeq s_law_5 (sSeq s_law_6 (sSeq s_law_7 (sSeq s_law_8 q)))) [sc, some (.ref 1), t, some (.int 2), some (.int 1), some (.ref 2), some (.ref 3), e7, e8, e9, e10, e11, e12, e13, e14] (o0 :: o1 :: [.lst [], .lst [.int 0, .int 1]])
    = q [sc, some (.ref 1), t, some (.int 2), some (.int 1), some (.ref 2), some (.ref 3), some (.tup [.int 0, .int 1]), some (.int 1), some (.ref 4), some (.int 5), e11, e12, e13, e14] (o0 :: o1 :: [.lst [], .lst [.int 0, .int 1], .lst [.int 2, .int 1, .int 1, .int 1, .int 1, .int 2]]) := by kernel_rfl
theorem sA_0_2_1_10 (q : FS) (sc t e7 e8 e9 e10 e11 e12 e13 e14 : Option D) (o0 o1 : D) : sSeq s_law_4 (sSeq s_law_5 (sSeq s_law_6 (sSeq s_law_7 (sSeq s_law_8 q)))) [sc, some (.ref 1), t, some (.int 2), some (.int 1), some (.ref 2), some (.ref 3), e7, e8, e9, e10, e11, e12, e13, e14] (o0 :: o1 :: [.lst [], .lst [.int 1, .int 0]])
    = q [sc, some (.ref 1), t, some (.int 2), some (.int 1), some (.ref 2), some (.ref 3), some (.tup [.int 0, .int 1]), some (.int 1), some (.ref 4), some (.int 5), e11, e12, e13, e14] (o0 :: o1 :: [.lst [], .lst [.int 1, .int 0], .lst [.int 2, .int 1, .int 1, .int 1, .int 1, .int 2]]) := by kernel_rfl
theorem sA_0_2_2_01 (q : FS) (sc t e7 e8 e9 e10 e11 e12 e13 e14 : Option D) (o0 o1 : D) : sSeq s_law_4 (sSeq s_law_5 (sSeq s_law_6 (sSeq s_law_7 (sSeq s_law_8 q)))) [sc, some (.ref 1), t, some (.int 2), some (.int 2), some (.ref 2), some (.ref 3), e7, e8, e9, e10, e11, e12, e13, e14] (o0 :: o1 :: [.lst [], .lst [.int 0, .int 1]])
    = q [sc, some (.ref 1), t, some (.int 2), some (.int 2), some (.ref 2), some (.ref 3), some (.tup [.int 0, .int 1]), some (.int 4), some (.ref 4), some (.int 5), e11, e12, e13, e14] (o0 :: o1 :: [.lst [], .lst [.int 0, .int 1], .lst [.int 4, .int 4, .int 4, .int 3, .int 3, .int 4]]) := by kernel_rfl
theorem sA_0_2_2_10 (q : FS) (sc t e7 e8 e9 e10 e11 e12 e13 e14 : Option D) (o0 o1 : D) : sSeq s_law_4 (sSeq s_law_5 (sSeq s_law_6 (sSeq s_law_7 (sSeq s_law_8 q)))) [sc, some (.ref 1), t, some (.int 2), some (.int 2), some (.ref 2), some (.ref 3), e7, e8, e9, e10, e11, e12, e13, e14] (o0 :: o1 :: [.lst [], .lst [.int 1, .int 0]])
    = q [sc, some (.ref 1), t, some (.int 2), some (.int 2), some (.ref 2), some (.ref 3), some (.tup [.int 0, .int 1]), some (.int 4), some (.ref 4), some (.int 5), e11, e12, e13, e14] (o0 :: o1 :: [.lst [], .lst [.int 1, .int 0], .lst [.int 4, .int 4, .int 4, .int 3, .int 3, .int 4]]) := by kernel_rfl
theorem sA_0_2_3_01 (q : FS) (sc t e7 e8 e9 e10 e11 e12 e13 e14 : Option D) (o0 o1 : D) : sSeq s_law_4 (sSeq s_law_5 (sSeq s_law_6 (sSeq s_law_7 (sSeq s_law_8 q)))) [sc, some (.ref 1), t, some (.int 2), some (.int 3), some (.ref 2), some (.ref 3), e7, e8, e9, e10, e11, e12, e13, e14] (o0 :: o1 :: [.lst [], .lst [.int 0, .int 1]])
    = q [sc, some (.ref 1), t, some (.int 2), some (.int 3), some (.ref 2), some (.ref 3), some (.tup [.int 0, .int 1]), some (.int 9), some (.ref 4), some (.int 5), e11, e12, e13, e14] (o0 :: o1 :: [.lst [], .lst [.int 0, .int 1], .lst [.int 6, .int 9, .int 9, .int 5, .int 5, .int 6]]) := by kernel_rfl
theorem sA_0_2_3_10 (q : FS) (sc t e7 e8 e9 e10 e11 e12 e13 e14 : Option D) (o0 o1 : D) : sSeq s_law_4 (sSeq s_law_5 (sSeq s_law_6 (sSeq s_law_7 (sSeq s_law_8 q)))) [sc, some (.ref 1), t, some (.int 2), some (.int 3), some (.ref 2), some (.ref 3), e7, e8, e9, e10, e11, e12, e13, e14] (o0 :: o1 :: [.lst [], .lst [.int 1, .int 0]])
    = q [sc, some (.ref 1), t, some (.int 2), some (.int 3), some (.ref 2), some (.ref 3), some (.tup [.int 0, .int 1]), some (.int 9), some (.ref 4), some (.int 5), e11, e12, e13, e14] (o0 :: o1 :: [.lst [], .lst [.int 1, .int 0], .lst [.int 6, .int 9, .int 9, .int 5, .int 5, .int 6]]) := by kernel_rfl
theorem sA_0_2_4_01 (q : FS) (sc t e7 e8 e9 e10 e11 e12 e13 e14 : Option D) (o0 o1 : D) : sSeq s_law_4 (sSeq s_law_5 (sSeq s_law_6 (sSeq s_law_7 (sSeq s_law_8 q)))) [sc, some (.ref 1), t, some (.int 2), some (.int 4), some (.ref 2), some (.ref 3), e7, e8, e9, e10, e11, e12, e13, e14] (o0 :: o1 :: [.lst [], .lst [.int 0, .int 1]])
    = q [sc, some (.ref 1), t, some (.int 2), some (.int 4), some (.ref 2), some (.ref 3), some (.tup [.int 0, .int 1]), some (.int 16), some (.ref 4), some (.int 5), e11, e12, e13, e14] (o0 :: o1 :: [.lst [], .lst [.int 0, .int 1], .lst [.int 8, .int 16, .int 16, .int 7, .int 7, .int 8]]) := by kernel_rfl
theorem sA_0_2_4_10 (q : FS) (sc t e7 e8 e9 e10 e11 e12 e13 e14 : Option D) (o0 o1 : D) : sSeq s_law_4 (sSeq s_law_5 (sSeq s_law_6 (sSeq s_law_7 (sSeq s_law_8 q)))) [sc, some (.ref 1), t, some (.int 2), some (.int 4), some (.ref 2), some (.ref 3), e7, e8, e9, e10, e11, e12, e13, e14] (o0 :: o1 :: [.lst [], .lst [.int 1, .int 0]])
    = q [sc, some (.ref 1), t, some (.int 2), some (.int 4), some (.ref 2), some (.ref 3), some (.tup [.int 0, .int 1]), some (.int 16), some (.ref 4), some (.int 5), e11, e12, e13, e14] (o0 :: o1 :: [.lst [], .lst [.int 1, .int 0], .lst [.int 8, .int 16, .int 16, .int 7, .int 7, .int 8]]) := by kernel_rfl
theorem sA_0_3_1_012 (q : FS) (sc t e7 e8 e9 e10 e11 e12 e13 e14 : Option D) (o0 o1 : D) : sSeq s_law_4 (sSeq s_law_5 (sSeq s_law_6 (sSeq s_law_7 (sSeq s_law_8 q)))) [sc, some (.ref 1), t, some (.int 3), some (.int 1), some (.ref 2), some (.ref 3), e7, e8, e9, e10, e11, e12, e13, e14] (o0 :: o1 :: [.lst [], .lst [.int 0, .int 1, .int 2]])
    = q [sc, some (.ref 1), t, some (.int 3), some (.int 1), some (.ref 2), some (.ref 3), some (.tup [.int 0, .int 1, .int 2]), some (.int 1), some (.ref 4), some (.int 5), e11, e12, e13, e14] (o0 :: o1 :: [.lst [], .lst [.int 0, .int 1, .int 2], .lst [.int 3, .int 1, .int 1, .int 1, .int 1, .int 2]]) := by kernel_rfl
theorem sA_0_3_1_021 (q : FS) (sc t e7 e8 e9 e10 e11 e12 e13 e14 : Option D) (o0 o1 : D) : sSeq s_law_4 (sSeq s_law_5 (sSeq s_law_6 (sSeq s_law_7 (sSeq s_law_8 q)))) [sc, some (.ref 1), t, some (.int 3), some (.int 1), some (.ref 2), some (.ref 3), e7, e8, e9, e10, e11, e12, e13, e14] (o0 :: o1 :: [.lst [], .lst [.int 0, .int 2, .int 1]])
    = q [sc, some (.ref 1), t, some (.int 3), some (.int 1), some (.ref 2), some (.ref 3), some (.tup [.int 0, .int 1, .int 2]), some (.int 1), some (.ref 4), some (.int 5), e11, e12, e13, e14] (o0 :: o1 :: [.lst [], .lst [.int 0, .int 2, .int 1], .lst [.int 3, .int 1, .int 1, .int 1, .int 1, .int 2]]) := by kernel_rfl
theorem sA_0_3_1_102 (q : FS) (sc t e7 e8 e9 e10 e11 e12 e13 e14 : Option D) (o0 o1 : D) : sSeq s_law_4 (sSeq s_law_5 (sSeq s_law_6 (sSeq s_law_7 (sSeq s_law_8 q)))) [sc, some (.ref 1), t, some (.int 3), some (.int 1), some (.ref 2), some (.ref 3), e7, e8, e9, e10, e11, e12, e13, e14] (o0 :: o1 :: [.lst [], .lst [.int 1, .int 0, .int 2]])
    = q [sc, some (.ref 1), t, some (.int 3), some (.int 1), some (.ref 2), some (.ref 3), some (.tup [.int 0, .int 1, .int 2]), some (.int 1), some (.ref 4), some (.int 5), e11, e12, e13, e14] (o0 :: o1 :: [.lst [], .lst [.int 1, .int 0, .int 2], .lst [.int 3, .int 1, .int 1, .int 1, .int 1, .int 2]]) := by kernel_rfl
theorem sA_0_3_1_120 (q : FS) (sc t e7 e8 e9 e10 e11 e12 e13 e14 : Option D) (o0 o1 : D) : sSeq s_law_4 (sSeq s_law_5 (sSeq s_law_6 (sSeq s_law_7 (sSeq s_law_8 q)))) [sc, some (.ref 1), t, some (.int 3), some (.int 1), some (.ref 2), some (.ref 3), e7, e8, e9, e10, e11, e12, e13, e14] (o0 :: o1 :: [.lst [], .lst [.int 1, .int 2, .int 0]])
    = q [sc, some (.ref 1), t, some (.int 3), some (.int 1), some (.ref 2), some (.ref 3), some (.tup [.int 0, .int 1, .int 2]), some (.int 1), some (.ref 4), some (.int 5), e11, e12, e13, e14] (o0 :: o1 :: [.lst [], .lst [.int 1, .int 2, .int 0], .lst [.int 3, .int 1, .int 1, .int 1, .int 1, .int 2]]) := by kernel_rfl
theorem sA_0_3_1_201 (q : FS) (sc t e7 e8 e9 e10 e11 e12 e13 e14 : Option D) (o0 o1 : D) : sSeq s_law_4 (sSeq s_law_5 (sSeq s_law_6 (sSeq s_law_7 (sSeq s_law_8 q)))) [sc, some (.ref 1), t, some (.int 3), some (.int 1), some (.ref 2), some (.ref 3), e7, e8, e9, e10, e11, e12, e13, e14] (o0 :: o1 :: [.lst [], .lst [.int 2, .int 0, .int 1]])
    = q [sc, some (.ref 1), t, some (.int 3), some (.int 1), some (.ref 2), some (.ref 3), some (.tup [.int 0, .int 1, .int 2]), some (.int 1), some (.ref 4), some (.int 5), e11, e12, e13, e14] (o0 :: o1 :: [.lst [], .lst [.int 2, .int 0, .int 1], .lst [.int 3, .int 1, .int 1, .int 1, .int 1, .int 2]]) := by kernel_rfl
theorem sA_0_3_1_210 (q : FS) (sc t e7 e8 e9 e10 e11 e12 e13 e14 : Option D) (o0 o1 : D) : sSeq s_law_4 (sSeq s_law_5 (sSeq s_law_6 (sSeq s_law_7 (sSeq s_law_8 q)))) [sc, some (.ref 1), t, some (.int 3), some (.int 1), some (.ref 2), some (.ref 3), e7, e8, e9, e10, e11, e12, e13, e14] (o0 :: o1 :: [.lst [], .lst [.int 2, .int 1, .int 0]])
    = q [sc, some (.ref 1), t, some (.int 3), some (.int 1), some (.ref 2), some (.ref 3), some (.tup [.int 0, .int 1, .int 2]), some (.int 1), some (.ref 4), some (.int 5), e11, e12, e13, e14] (o0 :: o1 :: [.lst [], .lst [.int 2, .int 1, .int 0], .lst [.int 3, .int 1, .int 1, .int 1, .int 1, .int 2]]) := by kernel_rfl
theorem sA_0_3_2_012 (q : FS) (sc t e7 e8 e9 e10 e11 e12 e13 e14 : Option D) (o0 o1 : D) : sSeq s_law_4 (sSeq s_law_5 (sSeq s_law_6 (sSeq s_law_7 (sSeq s_law_8 q)))) [sc, some (.ref 1), t, some (.int 3), some (.int 2), some (.ref 2), some (.ref 3), e7, e8, e9, e10, e11, e12, e13, e14] (o0 :: o1 :: [.lst [], .lst [.int 0, .int 1, .int 2]])
    = q [sc, some (.ref 1), t, some (.int 3), some (.int 2), some (.ref 2), some (.ref 3), some (.tup [.int 0, .int 1, .int 2]), some (.int 8), some (.ref 4), some (.int 5), e11, e12, e13, e14] (o0 :: o1 :: [.lst [], .lst [.int 0, .int 1, .int 2], .lst [.int 6, .int 8, .int 8, .int 4, .int 4, .int 4]]) := by kernel_rfl
theorem sA_0_3_2_021 (q : FS) (sc t e7 e8 e9 e10 e11 e12 e13 e14 : Option D) (o0 o1 : D) : sSeq s_law_4 (sSeq s_law_5 (sSeq s_law_6 (sSeq s_law_7 (sSeq s_law_8 q)))) [sc, some (.ref 1), t, some (.int 3), some (.int 2), some (.ref 2), some (.ref 3), e7, e8, e9, e10, e11, e12, e13, e14] (o0 :: o1 :: [.lst [], .lst [.int 0, .int 2, .int 1]])
    = q [sc, some (.ref 1), t, some (.int 3), some (.int 2), some (.ref 2), some (.ref 3), some (.tup [.int 0, .int 1, .int 2]), some (.int 8), some (.ref 4), some (.int 5), e11, e12, e13, e14] (o0 :: o1 :: [.lst [], .lst [.int 0, .int 2, .int 1], .lst [.int 6, .int 8, .int 8, .int 4, .int 4, .int 4]]) := by kernel_rfl
theorem sA_0_3_2_102 (q : FS) (sc t e7 e8 e9 e10 e11 e12 e13 e14 : Option D) (o0 o1 : D) : sSeq s_law_4 (sSeq s_law_5 (sSeq s_law_6 (sSeq s_law_7 (sSeq s_law_8 q)))) [sc, some (.ref 1), t, some (.int 3), some (.int 2), some (.ref 2), some (.ref 3), e7, e8, e9, e10, e11, e12, e13, e14] (o0 :: o1 :: [.lst [], .lst [.int 1, .int 0, .int 2]])
    = q [sc, some (.ref 1), t, some (.int 3), some (.int 2), some (.ref 2), some (.ref 3), some (.tup [.int 0, .int 1, .int 2]), some (.int 8), some (.ref 4), some (.int 5), e11, e12, e13, e14] (o0 :: o1 :: [.lst [], .lst [.int 1, .int 0, .int 2], .lst [.int 6, .int 8, .int 8, .int 4, .int 4, .int 4]]) := by kernel_rfl
theorem sA_0_3_2_120 (q : FS) (sc t e7 e8 e9 e10 e11 e12 e13 e14 : Option D) (o0 o1 : D) : sSeq s_law_4 (sSeq s_law_5 (sSeq s_law_6 (sSeq s_law_7 (sSeq s_law_8 q)))) [sc, some (.ref 1), t, some (.int 3), some (.int 2), some (.ref 2), some (.ref 3), e7, e8, e9, e10, e11, e12, e13, e14] (o0 :: o1 :: [.lst [], .lst [.int 1, .int 2, .int 0]])
    = q [sc, some (.ref 1), t, some (.int 3), some (.int 2), some (.ref 2), some (.ref 3), some (.tup [.int 0, .int 1, .int 2]), some (.int 8), some (.ref 4), some (.int 5), e11, e12, e13, e14] (o0 :: o1 :: [.lst [], .lst [.int 1, .int 2, .int 0], .lst [.int 6, .int 8, .int 8, .int 4, .int 4, .int 4]]) := by kernel_rfl
theorem sA_0_3_2_201 (q : FS) (sc t e7 e8 e9 e10 e11 e12 e13 e14 : Option D) (o0 o1 : D) : sSeq s_law_4 (sSeq s_law_5 (sSeq s_law_6 (sSeq s_law_7 (sSeq s_law_8 q)))) [sc, some (.ref 1), t, some (.int 3), some (.int 2), some (.ref 2), some (.ref 3), e7, e8, e9, e10, e11, e12, e13, e14] (o0 :: o1 :: [.lst [], .lst [.int 2, .int 0, .int 1]])
    = q [sc, some (.ref 1), t, some (.int 3), some (.int 2), some (.ref 2), some (.ref 3), some (.tup [.int 0, .int 1, .int 2]), some (.int 8), some (.ref 4), some (.int 5), e11, e12, e13, e14] (o0 :: o1 :: [.lst [], .lst [.int 2, .int 0, .int 1], .lst [.int 6, .int 8, .int 8, .int 4, .int 4, .int 4]]) := by kernel_rfl
theorem sA_0_3_2_210 (q : FS) (sc t e7 e8 e9 e10 e11 e12 e13 e14 : Option D) (o0 o1 : D) : sSeq s_law_4 (sSeq s_law_5 (sSeq s_law_6 (sSeq s_law_7 (sSeq s_law_8 q)))) [sc, some (.ref 1), t, some (.int 3), some (.int 2), some (.ref 2), some (.ref 3), e7, e8, e9, e10, e11, e12, e13, e14] (o0 :: o1 :: [.lst [], .lst [.int 2, .int 1, .int 0]])
    = q [sc, some (.ref 1), t, some (.int 3), some (.int 2), some (.ref 2), some (.ref 3), some (.tup [.int 0, .int 1, .int 2]), some (.int 8), some (.ref 4), some (.int 5), e11, e12, e13, e14] (o0 :: o1 :: [.lst [], .lst [.int 2, .int 1, .int 0], .lst [.int 6, .int 8, .int 8, .int 4, .int 4, .int 4]]) := by kernel_rfl
theorem sA_1_1_1_0 (q : FS) (sc t e7 e8 e9 e10 e11 e12 e13 e14 : Option D) (o0 o1 x y z : D) : sSeq s_law_4 (sSeq s_law_5 (sSeq s_law_6 (sSeq s_law_7 (sSeq s_law_8 q)))) [sc, some (.ref 1), t, some (.int 1), some (.int 1), some (.ref 5), some (.ref 6), e7, e8, e9, e10, e11, e12, e13, e14] (o0 :: o1 :: [x, y, z, .lst [], .lst [.int 0]])
    = q [sc, some (.ref 1), t, some (.int 1), some (.int 1), some (.ref 5), some (.ref 6), some (.tup [.int 0]), some (.int 1), some (.ref 7), some (.int 5), e11, e12, e13, e14] (o0 :: o1 :: [x, y, z, .lst [], .lst [.int 0], .lst [.int 1, .int 1, .int 1, .int 1, .int 1, .int 1]]) := by kernel_rfl
theorem sA_1_1_2_0 (q : FS) (sc t e7 e8 e9 e10 e11 e12 e13 e14 : Option D) (o0 o1 x y z : D) : sSeq s_law_4 (sSeq s_law_5 (sSeq s_law_6 (sSeq s_law_7 (sSeq s_law_8 q)))) [sc, some (.ref 1), t, some (.int 1), some (.int 2), some (.ref 5), some (.ref 6), e7, e8, e9, e10, e11, e12, e13, e14] (o0 :: o1 :: [x, y, z, .lst [], .lst [.int 0]])
    = q [sc, some (.ref 1), t, some (.int 1), some (.int 2), some (.ref 5), some (.ref 6), some (.tup [.int 0]), some (.int 2), some (.ref 7), some (.int 5), e11, e12, e13, e14] (o0 :: o1 :: [x, y, z, .lst [], .lst [.int 0], .lst [.int 2, .int 2, .int 2, .int 2, .int 2, .int 2]]) := by kernel_rfl
theorem sA_1_2_1_01 (q : FS) (sc t e7 e8 e9 e10 e11 e12 e13 e14 : Option D) (o0 o1 x y z : D) : sSeq s_law_4 (sSeq s_law_5 (sSeq s_law_6 (sSeq s_law_7 (sSeq s_law_8 q)))) [sc, some (.ref 1), t, some (.int 2), some (.int 1), some (.ref 5), some (.ref 6), e7, e8, e9, e10, e11, e12, e13, e14] (o0 :: o1 :: [x, y, z, .lst [], .lst [.int 0, .int 1]])
    = q [sc, some (.ref 1), t, some (.int 2), some (.int 1), some (.ref 5), some (.ref 6), some (.tup [.int 0, .int 1]), some (.int 1), some (.ref 7), some (.int 5), e11, e12, e13, e14] (o0 :: o1 :: [x, y, z, .lst [], .lst [.int 0, .int 1], .lst [.int 2, .int 1, .int 1, .int 1, .int 1, .int 2]]) := by kernel_rfl
theorem sA_1_2_1_10 (q : FS) (sc t e7 e8 e9 e10 e11 e12 e13 e14 : Option D) (o0 o1 x y z : D) : sSeq s_law_4 (sSeq s_law_5 (sSeq s_law_6 (sSeq s_law_7 (sSeq s_law_8 q)))) [sc, some (.ref 1), t, some (.int 2), some (.int 1), some (.ref 5), some (.ref 6), e7, e8, e9, e10, e11, e12, e13, e14] (o0 :: o1 :: [x, y, z, .lst [], .lst [.int 1, .int 0]])
    = q [sc, some (.ref 1), t, some (.int 2), some (.int 1), some (.ref 5), some (.ref 6), some (.tup [.int 0, .int 1]), some (.int 1), some (.ref 7), some (.int 5), e11, e12, e13, e14] (o0 :: o1 :: [x, y, z, .lst [], .lst [.int 1, .int 0], .lst [.int 2, .int 1, .int 1, .int 1, .int 1, .int 2]]) := by kernel_rfl
theorem sA_1_2_2_01 (q : FS) (sc t e7 e8 e9 e10 e11 e12 e13 e14 : Option D) (o0 o1 x y z : D) : sSeq s_law_4 (sSeq s_law_5 (sSeq s_law_6 (sSeq s_law_7 (sSeq s_law_8 q)))) [sc, some (.ref 1), t, some (.int 2), some (.int 2), some (.ref 5), some (.ref 6), e7, e8, e9, e10, e11, e12, e13, e14] (o0 :: o1 :: [x, y, z, .lst [], .lst [.int 0, .int 1]])
    = q [sc, some (.ref 1), t, some (.int 2), some (.int 2), some (.ref 5), some (.ref 6), some (.tup [.int 0, .int 1]), some (.int 4), some (.ref 7), some (.int 5), e11, e12, e13, e14] (o0 :: o1 :: [x, y, z, .lst [], .lst [.int 0, .int 1], .lst [.int 4, .int 4, .int 4, .int 3, .int 3, .int 4]]) := by kernel_rfl
theorem sA_1_2_2_10 (q : FS) (sc t e7 e8 e9 e10 e11 e12 e13 e14 : Option D) (o0 o1 x y z : D) : sSeq s_law_4 (sSeq s_law_5 (sSeq s_law_6 (sSeq s_law_7 (sSeq s_law_8 q)))) [sc, some (.ref 1), t, some (.int 2), some (.int 2), some (.ref 5), some (.ref 6), e7, e8, e9, e10, e11, e12, e13, e14] (o0 :: o1 :: [x, y, z, .lst [], .lst [.int 1, .int 0]])
    = q [sc, some (.ref 1), t, some (.int 2), some (.int 2), some (.ref 5), some (.ref 6), some (.tup [.int 0, .int 1]), some (.int 4), some (.ref 7), some (.int 5), e11, e12, e13, e14] (o0 :: o1 :: [x, y, z, .lst [], .lst [.int 1, .int 0], .lst [.int 4, .int 4, .int 4, .int 3, .int 3, .int 4]]) := by kernel_rfl
theorem sA_1_2_3_01 (q : FS) (sc t e7 e8 e9 e10 e11 e12 e13 e14 : Option D) (o0 o1 x y z : D) : sSeq s_law_4 (sSeq s_law_5 (sSeq s_law_6 (sSeq s_law_7 (sSeq s_law_8 q)))) [sc, some (.ref 1), t, some (.int 2), some (.int 3), some (.ref 5), some (.ref 6), e7, e8, e9, e10, e11, e12, e13, e14] (o0 :: o1 :: [x, y, z, .lst [], .lst [.int 0, .int 1]])
    = q [sc, some (.ref 1), t, some (.int 2), some (.int 3), some (.ref 5), some (.ref 6), some (.tup [.int 0, .int 1]), some (.int 9), some (.ref 7), some (.int 5), e11, e12, e13, e14] (o0 :: o1 :: [x, y, z, .lst [], .lst [.int 0, .int 1], .lst [.int 6, .int 9, .int 9, .int 5, .int 5, .int 6]]) := by kernel_rfl
theorem sA_1_2_3_10 (q : FS) (sc t e7 e8 e9 e10 e11 e12 e13 e14 : Option D) (o0 o1 x y z : D) : sSeq s_law_4 (sSeq s_law_5 (sSeq s_law_6 (sSeq s_law_7 (sSeq s_law_8 q)))) [sc, some (.ref 1), t, some (.int 2), some (.int 3), some (.ref 5), some (.ref 6), e7, e8, e9, e10, e11, e12, e13, e14] (o0 :: o1 :: [x, y, z, .lst [], .lst [.int 1, .int 0]])
    = q [sc, some (.ref 1), t, some (.int 2), some (.int 3), some (.ref 5), some (.ref 6), some (.tup [.int 0, .int 1]), some (.int 9), some (.ref 7), some (.int 5), e11, e12, e13, e14] (o0 :: o1 :: [x, y, z, .lst [], .lst [.int 1, .int 0], .lst [.int 6, .int 9, .int 9, .int 5, .int 5, .int 6]]) := by kernel_rfl
theorem sA_1_2_4_01 (q : FS) (sc t e7 e8 e9 e10 e11 e12 e13 e14 : Option D) (o0 o1 x y z : D) : sSeq s_law_4 (sSeq s_law_5 (sSeq s_law_6 (sSeq s_law_7 (sSeq s_law_8 q)))) [sc, some (.ref 1), t, some (.int 2), some (.int 4), some (.ref 5), some (.ref 6), e7, e8, e9, e10, e11, e12, e13, e14] (o0 :: o1 :: [x, y, z, .lst [], .lst [.int 0, .int 1]])
    = q [sc, some (.ref 1), t, some (.int 2), some (.int 4), some (.ref 5), some (.ref 6), some (.tup [.int 0, .int 1]), some (.int 16), some (.ref 7), some (.int 5), e11, e12, e13, e14] (o0 :: o1 :: [x, y, z, .lst [], .lst [.int 0, .int 1], .lst [.int 8, .int 16, .int 16, .int 7, .int 7, .int 8]]) := by kernel_rfl
theorem sA_1_2_4_10 (q : FS) (sc t e7 e8 e9 e10 e11 e12 e13 e14 : Option D) (o0 o1 x y z : D) : sSeq s_law_4 (sSeq s_law_5 (sSeq s_law_6 (sSeq s_law_7 (sSeq s_law_8 q)))) [sc, some (.ref 1), t, some (.int 2), some (.int 4), some (.ref 5), some (.ref 6), e7, e8, e9, e10, e11, e12, e13, e14] (o0 :: o1 :: [x, y, z, .lst [], .lst [.int 1, .int 0]])
    = q [sc, some (.ref 1), t, some (.int 2), some (.int 4), some (.ref 5), some (.ref 6), some (.tup [.int 0, .int 1]), some (.int 16), some (.ref 7), some (.int 5), e11, e12, e13, e14] (o0 :: o1 :: [x, y, z, .lst [], .lst [.int 1, .int 0], .lst [.int 8, .int 16, .int 16, .int 7, .int 7, .int 8]]) := by kernel_rfl
theorem sA_1_3_1_012 (q : FS) (sc t e7 e8 e9 e10 e11 e12 e13 e14 : Option D) (o0 o1 x y z : D) : sSeq s_law_4 (sSeq s_law_5 (sSeq s_law_6 (sSeq s_law_7 (sSeq s_law_8 q)))) [sc, some (.ref 1), t, some (.int 3), some (.int 1), some (.ref 5), some (.ref 6), e7, e8, e9, e10, e11, e12, e13, e14] (o0 :: o1 :: [x, y, z, .lst [], .lst [.int 0, .int 1, .int 2]])
    = q [sc, some (.ref 1), t, some (.int 3), some (.int 1), some (.ref 5), some (.ref 6), some (.tup [.int 0, .int 1, .int 2]), some (.int 1), some (.ref 7), some (.int 5), e11, e12, e13, e14] (o0 :: o1 :: [x, y, z, .lst [], .lst [.int 0, .int 1, .int 2], .lst [.int 3, .int 1, .int 1, .int 1, .int 1, .int 2]]) := by kernel_rfl
theorem sA_1_3_1_021 (q : FS) (sc t e7 e8 e9 e10 e11 e12 e13 e14 : Option D) (o0 o1 x y z : D) : sSeq s_law_4 (sSeq s_law_5 (sSeq s_law_6 (sSeq s_law_7 (sSeq s_law_8 q)))) [sc, some (.ref 1), t, some (.int 3), some (.int 1), some (.ref 5), some (.ref 6), e7, e8, e9, e10, e11, e12, e13, e14] (o0 :: o1 :: [x, y, z, .lst [], .lst [.int 0, .int 2, .int 1]])
    = q [sc, some (.ref 1), t, some (.int 3), some (.int 1), some (.ref 5), some (.ref 6), some (.tup [.int 0, .int 1, .int 2]), some (.int 1), some (.ref 7), some (.int 5), e11, e12, e13, e14] (o0 :: o1 :: [x, y, z, .lst [], .lst [.int 0, .int 2, .int 1], .lst [.int 3, .int 1, .int 1, .int 1, .int 1, .int 2]]) := by kernel_rfl
theorem sA_1_3_1_102 (q : FS) (sc t e7 e8 e9 e10 e11 e12 e13 e14 : Option D) (o0 o1 x y z : D) : sSeq s_law_4 (sSeq s_law_5 (sSeq s_law_6 (sSeq s_law_7 (sSeq s_law_8 q)))) [sc, some (.ref 1), t, some (.int 3), some (.int 1), some (.ref 5), some (.ref 6), e7, e8, e9, e10, e11, e12, e13, e14] (o0 :: o1 :: [x, y, z, .lst [], .lst [.int 1, .int 0, .int 2]])
    = q [sc, some (.ref 1), t, some (.int 3), some (.int 1), some (.ref 5), some (.ref 6), some (.tup [.int 0, .int 1, .int 2]), some (.int 1), some (.ref 7), some (.int 5), e11, e12, e13, e14] (o0 :: o1 :: [x, y, z, .lst [], .lst [.int 1, .int 0, .int 2], .lst [.int 3, .int 1, .int 1, .int 1, .int 1, .int 2]]) := by kernel_rfl
theorem sA_1_3_1_120 (q : FS) (sc t e7 e8 e9 e10 e11 e12 e13 e14 : Option D) (o0 o1 x y z : D) : sSeq s_law_4 (sSeq s_law_5 (sSeq s_law_6 (sSeq s_law_7 (sSeq s_law_8 q)))) [sc, some (.ref 1), t, some (.int 3), some (.int 1), some (.ref 5), some (.ref 6), e7, e8, e9, e10, e11, e12, e13, e14] (o0 :: o1 :: [x, y, z, .lst [], .lst [.int 1, .int 2, .int 0]])
    = q [sc, some (.ref 1), t, some (.int 3), some (.int 1), some (.ref 5), some (.ref 6), some (.tup [.int 0, .int 1, .int 2]), some (.int 1), some (.ref 7), some (.int 5), e11, e12, e13, e14] (o0 :: o1 :: [x, y, z, .lst [], .lst [.int 1, .int 2, .int 0], .lst [.int 3, .int 1, .int 1, .int 1, .int 1, .int 2]]) := by kernel_rfl
theorem sA_1_3_1_201 (q : FS) (sc t e7 e8 e9 e10 e11 e12 e13 e14 : Option D) (o0 o1 x y z : D) : sSeq s_law_4 (sSeq s_law_5 (sSeq s_law_6 (sSeq s_law_7 (sSeq s_law_8 q)))) [sc, some (.ref 1), t, some (.int 3), some (.int 1), some (.ref 5), some (.ref 6), e7, e8, e9, e10, e11, e12, e13, e14] (o0 :: o1 :: [x, y, z, .lst [], .lst [.int 2, .int 0, .int 1]])
    = q [sc, some (.ref 1), t, some (.int 3), some (.int 1), some (.ref 5), some (.ref 6), some (.tup [.int 0, .int 1, .int 2]), some (.int 1), some (.ref 7), some (.int 5), e11, e12, e13, e14] (o0 :: o1 :: [x, y, z, .lst [], .lst [.int 2, .int 0, .int 1], .lst [.int 3, .int 1, .int 1, .int 1, .int 1, .int 2]]) := by kernel_rfl
theorem sA_1_3_1_210 (q : FS) (sc t e7 e8 e9 e10 e11 e12 e13 e14 : Option D) (o0 o1 x y z : D) : sSeq s_law_4 (sSeq s_law_5 (sSeq s_law_6 (sSeq s_law_7 (sSeq s_law_8 q)))) [sc, some (.ref 1), t, some (.int 3), some (.int 1), some (.ref 5), some (.ref 6), e7, e8, e9, e10, e11, e12, e13, e14] (o0 :: o1 :: [x, y, z, .lst [], .lst [.int 2, .int 1, .int 0]])
    = q [sc, some (.ref 1), t, some (.int 3), some (.int 1), some (.ref 5), some (.ref 6), some (.tup [.int 0, .int 1, .int 2]), some (.int 1), some (.ref 7), some (.int 5), e11, e12, e13, e14] (o0 :: o1 :: [x, y, z, .lst [], .lst [.int 2, .int 1, .int 0], .lst [.int 3, .int 1, .int 1, .int 1, .int 1, .int 2]]) := by kernel_rfl
theorem sA_1_3_2_012 (q : FS) (sc t e7 e8 e9 e10 e11 e12 e13 e14 : Option D) (o0 o1 x y z : D) : sSeq s_law_4 (sSeq s_law_5 (sSeq s_law_6 (sSeq s_law_7 (sSeq s_law_8 q)))) [sc, some (.ref 1), t, some (.int 3), some (.int 2), some (.ref 5), some (.ref 6), e7, e8, e9, e10, e11, e12, e13, e14] (o0 :: o1 :: [x, y, z, .lst [], .lst [.int 0, .int 1, .int 2]])
    = q [sc, some (.ref 1), t, some (.int 3), some (.int 2), some (.ref 5), some (.ref 6), some (.tup [.int 0, .int 1, .int 2]), some (.int 8), some (.ref 7), some (.int 5), e11, e12, e13, e14] (o0 :: o1 :: [x, y, z, .lst [], .lst [.int 0, .int 1, .int 2], .lst [.int 6, .int 8, .int 8, .int 4, .int 4, .int 4]]) := by kernel_rfl
theorem sA_1_3_2_021 (q : FS) (sc t e7 e8 e9 e10 e11 e12 e13 e14 : Option D) (o0 o1 x y z : D) : sSeq s_law_4 (sSeq s_law_5 (sSeq s_law_6 (sSeq s_law_7 (sSeq s_law_8 q)))) [sc, some (.ref 1), t, some (.int 3), some (.int 2), some (.ref 5), some (.ref 6), e7, e8, e9, e10, e11, e12, e13, e14] (o0 :: o1 :: [x, y, z, .lst [], .lst [.int 0, .int 2, .int 1]])
    = q [sc, some (.ref 1), t, some (.int 3), some (.int 2), some (.ref 5), some (.ref 6), some (.tup [.int 0, .int 1, .int 2]), some (.int 8), some (.ref 7), some (.int 5), e11, e12, e13, e14] (o0 :: o1 :: [x, y, z, .lst [], .lst [.int 0, .int 2, .int 1], .lst [.int 6, .int 8, .int 8, .int 4, .int 4, .int 4]]) := by kernel_rfl
theorem sA_1_3_2_102 (q : FS) (sc t e7 e8 e9 e10 e11 e12 e13 e14 : Option D) (o0 o1 x y z : D) : sSeq s_law_4 (sSeq s_law_5 (sSeq s_law_6 (sSeq s_law_7 (sSeq s_law_8 q)))) [sc, some (.ref 1), t, some (.int 3), some (.int 2), some (.ref 5), some (.ref 6), e7, e8, e9, e10, e11, e12, e13, e14] (o0 :: o1 :: [x, y, z, .lst [], .lst [.int 1, .int 0, .int 2]])
    = q [sc, some (.ref 1), t, some (.int 3), some (.int 2), some (.ref 5), some (.ref 6), some (.tup [.int 0, .int 1, .int 2]), some (.int 8), some (.ref 7), some (.int 5), e11, e12, e13, e14] (o0 :: o1 :: [x, y, z, .lst [], .lst [.int 1, .int 0, .int 2], .lst [.int 6, .int 8, .int 8, .int 4, .int 4, .int 4]]) := by kernel_rfl
theorem sA_1_3_2_120 (q : FS) (sc t e7 e8 e9 e10 e11 e12 e13 e14 : Option D) (o0 o1 x y z : D) : sSeq s_law_4 (sSeq s_law_5 (sSeq s_law_6 (sSeq s_law_7 (sSeq s_law_8 q)))) [sc, some (.ref 1), t, some (.int 3), some (.int 2), some (.ref 5), some (.ref 6), e7, e8, e9, e10, e11, e12, e13, e14] (o0 :: o1 :: [x, y, z, .lst [], .lst [.int 1, .int 2, .int 0]])
    = q [sc, some (.ref 1), t, some (.int 3), some (.int 2), some (.ref 5), some (.ref 6), some (.tup [.int 0, .int 1, .int 2]), some (.int 8), some (.ref 7), some (.int 5), e11, e12, e13, e14] (o0 :: o1 :: [x, y, z, .lst [], .lst [.int 1, .int 2, .int 0], .lst [.int 6, .int 8, .int 8, .int 4, .int 4, .int 4]]) := by kernel_rfl
theorem sA_1_3_2_201 (q : FS) (sc t e7 e8 e9 e10 e11 e12 e13 e14 : Option D) (o0 o1 x y z : D) : sSeq s_law_4 (sSeq s_law_5 (sSeq s_law_6 (sSeq s_law_7 (sSeq s_law_8 q)))) [sc, some (.ref 1), t, some (.int 3), some (.int 2), some (.ref 5), some (.ref 6), e7, e8, e9, e10, e11, e12, e13, e14] (o0 :: o1 :: [x, y, z, .lst [], .lst [.int 2, .int 0, .int 1]])
    = q [sc, some (.ref 1), t, some (.int 3), some (.int 2), some (.ref 5), some (.ref 6), some (.tup [.int 0, .int 1, .int 2]), some (.int 8), some (.ref 7), some (.int 5), e11, e12, e13, e14] (o0 :: o1 :: [x, y, z, .lst [], .lst [.int 2, .int 0, .int 1], .lst [.int 6, .int 8, .int 8, .int 4, .int 4, .int 4]]) := by kernel_rfl
theorem sA_1_3_2_210 (q : FS) (sc t e7 e8 e9 e10 e11 e12 e13 e14 : Option D) (o0 o1 x y z : D) : sSeq s_law_4 (sSeq s_law_5 (sSeq s_law_6 (sSeq s_law_7 (sSeq s_law_8 q)))) [sc, some (.ref 1), t, some (.int 3), some (.int 2), some (.ref 5), some (.ref 6), e7, e8, e9, e10, e11, e12, e13, e14] (o0 :: o1 :: [x, y, z, .lst [], .lst [.int 2, .int 1, .int 0]])
    = q [sc, some (.ref 1), t, some (.int 3), some (.int 2), some (.ref 5), some (.ref 6), some (.tup [.int 0, .int 1, .int 2]), some (.int 8), some (.ref 7), some (.int 5), e11, e12, e13, e14] (o0 :: o1 :: [x, y, z, .lst [], .lst [.int 2, .int 1, .int 0], .lst [.int 6, .int 8, .int 8, .int 4, .int 4, .int 4]]) := by kernel_rfl
theorem sC_1_1_1 (sc t e5 e6 e7 e8 e9 e10 e12 e13 e14 : Option D) (G : GH) : sSeq s_law_10 (sSeq s_law_11 s_law_12) [sc, some (.ref 1), t, some (.int 1), some (.int 1), e5, e6, e7, e8, e9, e10, some (.int 1), e12, e13, e14] G
    = .nx [sc, some (.ref 1), t, some (.int 1), some (.int 1), e5, e6, e7, e8, e9, e10, some (.int 1), some (.int 1), some (.int 1), e14] G := by kernel_rfl
theorem sC_1_2_1 (sc t e5 e6 e7 e8 e9 e10 e12 e13 e14 : Option D) (G : GH) : sSeq s_law_10 (sSeq s_law_11 s_law_12) [sc, some (.ref 1), t, some (.int 1), some (.int 2), e5, e6, e7, e8, e9, e10, some (.int 1), e12, e13, e14] G
    = .nx [sc, some (.ref 1), t, some (.int 1), some (.int 2), e5, e6, e7, e8, e9, e10, some (.int 1), some (.int 1), some (.int 1), e14] G := by kernel_rfl
theorem sC_2_1_1 (sc t e5 e6 e7 e8 e9 e10 e12 e13 e14 : Option D) (G : GH) : sSeq s_law_10 (sSeq s_law_11 s_law_12) [sc, some (.ref 1), t, some (.int 2), some (.int 1), e5, e6, e7, e8, e9, e10, some (.int 1), e12, e13, e14] G
    = .nx [sc, some (.ref 1), t, some (.int 2), some (.int 1), e5, e6, e7, e8, e9, e10, some (.int 1), some (.int 2), some (.int 2), e14] G := by kernel_rfl
theorem sC_2_1_2 (sc t e5 e6 e7 e8 e9 e10 e12 e13 e14 : Option D) (G : GH) : sSeq s_law_10 (sSeq s_law_11 s_law_12) [sc, some (.ref 1), t, some (.int 2), some (.int 1), e5, e6, e7, e8, e9, e10, some (.int 2), e12, e13, e14] G
    = .nx [sc, some (.ref 1), t, some (.int 2), some (.int 1), e5, e6, e7, e8, e9, e10, some (.int 2), some (.int 1), some (.int 2), e14] G := by kernel_rfl
theorem sC_2_2_1 (sc t e5 e6 e7 e8 e9 e10 e12 e13 e14 : Option D) (G : GH) : sSeq s_law_10 (sSeq s_law_11 s_law_12) [sc, some (.ref 1), t, some (.int 2), some (.int 2), e5, e6, e7, e8, e9, e10, some (.int 1), e12, e13, e14] G
    = .nx [sc, some (.ref 1), t, some (.int 2), some (.int 2), e5, e6, e7, e8, e9, e10, some (.int 1), some (.int 2), some (.int 2), e14] G := by kernel_rfl
theorem sC_2_2_2 (sc t e5 e6 e7 e8 e9 e10 e12 e13 e14 : Option D) (G : GH) : sSeq s_law_10 (sSeq s_law_11 s_law_12) [sc, some (.ref 1), t, some (.int 2), some (.int 2), e5, e6, e7, e8, e9, e10, some (.int 2), e12, e13, e14] G
    = .nx [sc, some (.ref 1), t, some (.int 2), some (.int 2), e5, e6, e7, e8, e9, e10, some (.int 2), some (.int 1), some (.int 2), e14] G := by kernel_rfl
theorem sC_2_3_1 (sc t e5 e6 e7 e8 e9 e10 e12 e13 e14 : Option D) (G : GH) : sSeq s_law_10 (sSeq s_law_11 s_law_12) [sc, some (.ref 1), t, some (.int 2), some (.int 3), e5, e6, e7, e8, e9, e10, some (.int 1), e12, e13, e14] G
    = .nx [sc, some (.ref 1), t, some (.int 2), some (.int 3), e5, e6, e7, e8, e9, e10, some (.int 1), some (.int 2), some (.int 2), e14] G := by kernel_rfl
theorem sC_2_3_2 (sc t e5 e6 e7 e8 e9 e10 e12 e13 e14 : Option D) (G : GH) : sSeq s_law_10 (sSeq s_law_11 s_law_12) [sc, some (.ref 1), t, some (.int 2), some (.int 3), e5, e6, e7, e8, e9, e10, some (.int 2), e12, e13, e14] G
    = .nx [sc, some (.ref 1), t, some (.int 2), some (.int 3), e5, e6, e7, e8, e9, e10, some (.int 2), some (.int 1), some (.int 2), e14] G := by kernel_rfl
theorem sC_2_4_1 (sc t e5 e6 e7 e8 e9 e10 e12 e13 e14 : Option D) (G : GH) : sSeq s_law_10 (sSeq s_law_11 s_law_12) [sc, some (.ref 1), t, some (.int 2), some (.int 4), e5, e6, e7, e8, e9, e10, some (.int 1), e12, e13, e14] G
    = .nx [sc, some (.ref 1), t, some (.int 2), some (.int 4), e5, e6, e7, e8, e9, e10, some (.int 1), some (.int 2), some (.int 2), e14] G := by kernel_rfl
theorem sC_2_4_2 (sc t e5 e6 e7 e8 e9 e10 e12 e13 e14 : Option D) (G : GH) : sSeq s_law_10 (sSeq s_law_11 s_law_12) [sc, some (.ref 1), t, some (.int 2), some (.int 4), e5, e6, e7, e8, e9, e10, some (.int 2), e12, e13, e14] G
    = .nx [sc, some (.ref 1), t, some (.int 2), some (.int 4), e5, e6, e7, e8, e9, e10, some (.int 2), some (.int 1), some (.int 2), e14] G := by kernel_rfl
theorem sC_3_1_1 (sc t e5 e6 e7 e8 e9 e10 e12 e13 e14 : Option D) (G : GH) : sSeq s_law_10 (sSeq s_law_11 s_law_12) [sc, some (.ref 1), t, some (.int 3), some (.int 1), e5, e6, e7, e8, e9, e10, some (.int 1), e12, e13, e14] G
    = .nx [sc, some (.ref 1), t, some (.int 3), some (.int 1), e5, e6, e7, e8, e9, e10, some (.int 1), some (.int 3), some (.int 3), e14] G := by kernel_rfl
theorem sC_3_1_2 (sc t e5 e6 e7 e8 e9 e10 e12 e13 e14 : Option D) (G : GH) : sSeq s_law_10 (sSeq s_law_11 s_law_12) [sc, some (.ref 1), t, some (.int 3), some (.int 1), e5, e6, e7, e8, e9, e10, some (.int 2), e12, e13, e14] G
    = .nx [sc, some (.ref 1), t, some (.int 3), some (.int 1), e5, e6, e7, e8, e9, e10, some (.int 2), some (.int 2), some (.int 2), e14] G := by kernel_rfl
theorem sC_3_1_3 (sc t e5 e6 e7 e8 e9 e10 e12 e13 e14 : Option D) (G : GH) : sSeq s_law_10 (sSeq s_law_11 s_law_12) [sc, some (.ref 1), t, some (.int 3), some (.int 1), e5, e6, e7, e8, e9, e10, some (.int 3), e12, e13, e14] G
    = .nx [sc, some (.ref 1), t, some (.int 3), some (.int 1), e5, e6, e7, e8, e9, e10, some (.int 3), some (.int 1), some (.int 3), e14] G := by kernel_rfl
theorem sC_3_2_1 (sc t e5 e6 e7 e8 e9 e10 e12 e13 e14 : Option D) (G : GH) : sSeq s_law_10 (sSeq s_law_11 s_law_12) [sc, some (.ref 1), t, some (.int 3), some (.int 2), e5, e6, e7, e8, e9, e10, some (.int 1), e12, e13, e14] G
    = .nx [sc, some (.ref 1), t, some (.int 3), some (.int 2), e5, e6, e7, e8, e9, e10, some (.int 1), some (.int 3), some (.int 3), e14] G := by kernel_rfl
theorem sC_3_2_2 (sc t e5 e6 e7 e8 e9 e10 e12 e13 e14 : Option D) (G : GH) : sSeq s_law_10 (sSeq s_law_11 s_law_12) [sc, some (.ref 1), t, some (.int 3), some (.int 2), e5, e6, e7, e8, e9, e10, some (.int 2), e12, e13, e14] G
    = .nx [sc, some (.ref 1), t, some (.int 3), some (.int 2), e5, e6, e7, e8, e9, e10, some (.int 2), some (.int 2), some (.int 2), e14] G := by kernel_rfl
theorem sC_3_2_3 (sc t e5 e6 e7 e8 e9 e10 e12 e13 e14 : Option D) (G : GH) : sSeq s_law_10 (sSeq s_law_11 s_law_12) [sc, some (.ref 1), t, some (.int 3), some (.int 2), e5, e6, e7, e8, e9, e10, some (.int 3), e12, e13, e14] G
    = .nx [sc, some (.ref 1), t, some (.int 3), some (.int 2), e5, e6, e7, e8, e9, e10, some (.int 3), some (.int 1), some (.int 3), e14] G := by kernel_rfl
end K47

set_option Elab.async false
set_option linter.all false
set_option maxRecDepth 100000
set_option maxHeartbeats 4000000
set_option autoImplicit false
namespace K47
open PySem L2 DL
theorem seq_nx {s q : FS} {ρ ρ1 : DL.Env} {G G1 : GH} (h : s ρ G = .nx ρ1 G1) : sSeq s q ρ G = q ρ1 G1 := by
  unfold sSeq
  rw [h]

theorem tail_1_1 (sc t e5 e6 e7 e8 e9 e10 e11 e12 e13 e14 : Option D) (us : List Int) (b c : Int) (T : GH) (hu : us.length ≤ 100) (c1 : 0 ≤ c) (c2 : c ≤ 900) : ∃ (vs : List Int) (x11 x12 x13 x14 : Option D), vs.length ≤ 100 ∧
    (sSeq s_law_9 (sSeq s_law_10 (sSeq s_law_11 s_law_12))) [sc, some (.ref 1), t, some (.int 1), some (.int 1), e5, e6, e7, e8, e9, e10, e11, e12, e13, e14] (dk us b c T) = .nx [sc, some (.ref 1), t, some (.int 1), some (.int 1), e5, e6, e7, e8, e9, e10, x11, x12, x13, x14] (dk vs b (c + 1) T) := by
  obtain ⟨r, vs, r1, r2, hv, hd⟩ := draw us b c 1 T (by decide) (by decide) c1 (by omega) hu
  have h9 : s_law_9 [sc, some (.ref 1), t, some (.int 1), some (.int 1), e5, e6, e7, e8, e9, e10, e11, e12, e13, e14] (dk us b c T) = .nx [sc, some (.ref 1), t, some (.int 1), some (.int 1), e5, e6, e7, e8, e9, e10, some (.int (1 + r)), e12, e13, e14] (dk vs b (c + 1) T) := drawS rfl rfl hd
  obtain rfl : r = 0 := by omega
  · exact ⟨vs, _, _, _, _, hv, (seq_nx h9).trans (sC_1_1_1 sc t e5 e6 e7 e8 e9 e10 e12 e13 e14 _)⟩
theorem tail_1_2 (sc t e5 e6 e7 e8 e9 e10 e11 e12 e13 e14 : Option D) (us : List Int) (b c : Int) (T : GH) (hu : us.length ≤ 100) (c1 : 0 ≤ c) (c2 : c ≤ 900) : ∃ (vs : List Int) (x11 x12 x13 x14 : Option D), vs.length ≤ 100 ∧
    (sSeq s_law_9 (sSeq s_law_10 (sSeq s_law_11 s_law_12))) [sc, some (.ref 1), t, some (.int 1), some (.int 2), e5, e6, e7, e8, e9, e10, e11, e12, e13, e14] (dk us b c T) = .nx [sc, some (.ref 1), t, some (.int 1), some (.int 2), e5, e6, e7, e8, e9, e10, x11, x12, x13, x14] (dk vs b (c + 1) T) := by
  obtain ⟨r, vs, r1, r2, hv, hd⟩ := draw us b c 1 T (by decide) (by decide) c1 (by omega) hu
  have h9 : s_law_9 [sc, some (.ref 1), t, some (.int 1), some (.int 2), e5, e6, e7, e8, e9, e10, e11, e12, e13, e14] (dk us b c T) = .nx [sc, some (.ref 1), t, some (.int 1), some (.int 2), e5, e6, e7, e8, e9, e10, some (.int (1 + r)), e12, e13, e14] (dk vs b (c + 1) T) := drawS rfl rfl hd
  obtain rfl : r = 0 := by omega
  · exact ⟨vs, _, _, _, _, hv, (seq_nx h9).trans (sC_1_2_1 sc t e5 e6 e7 e8 e9 e10 e12 e13 e14 _)⟩
theorem tail_2_1 (sc t e5 e6 e7 e8 e9 e10 e11 e12 e13 e14 : Option D) (us : List Int) (b c : Int) (T : GH) (hu : us.length ≤ 100) (c1 : 0 ≤ c) (c2 : c ≤ 900) : ∃ (vs : List Int) (x11 x12 x13 x14 : Option D), vs.length ≤ 100 ∧
    (sSeq s_law_9 (sSeq s_law_10 (sSeq s_law_11 s_law_12))) [sc, some (.ref 1), t, some (.int 2), some (.int 1), e5, e6, e7, e8, e9, e10, e11, e12, e13, e14] (dk us b c T) = .nx [sc, some (.ref 1), t, some (.int 2), some (.int 1), e5, e6, e7, e8, e9, e10, x11, x12, x13, x14] (dk vs b (c + 1) T) := by
  obtain ⟨r, vs, r1, r2, hv, hd⟩ := draw us b c 2 T (by decide) (by decide) c1 (by omega) hu
  have h9 : s_law_9 [sc, some (.ref 1), t, some (.int 2), some (.int 1), e5, e6, e7, e8, e9, e10, e11, e12, e13, e14] (dk us b c T) = .nx [sc, some (.ref 1), t, some (.int 2), some (.int 1), e5, e6, e7, e8, e9, e10, some (.int (1 + r)), e12, e13, e14] (dk vs b (c + 1) T) := drawS rfl rfl hd
  obtain rfl | rfl : r = 0 ∨ r = 1 := by omega
  · exact ⟨vs, _, _, _, _, hv, (seq_nx h9).trans (sC_2_1_1 sc t e5 e6 e7 e8 e9 e10 e12 e13 e14 _)⟩
  · exact ⟨vs, _, _, _, _, hv, (seq_nx h9).trans (sC_2_1_2 sc t e5 e6 e7 e8 e9 e10 e12 e13 e14 _)⟩
theorem tail_2_2 (sc t e5 e6 e7 e8 e9 e10 e11 e12 e13 e14 : Option D) (us : List Int) (b c : Int) (T : GH) (hu : us.length ≤ 100) (c1 : 0 ≤ c) (c2 : c ≤ 900) : ∃ (vs : List Int) (x11 x12 x13 x14 : Option D), vs.length ≤ 100 ∧
    (sSeq s_law_9 (sSeq s_law_10 (sSeq s_law_11 s_law_12))) [sc, some (.ref 1), t, some (.int 2), some (.int 2), e5, e6, e7, e8, e9, e10, e11, e12, e13, e14] (dk us b c T) = .nx [sc, some (.ref 1), t, some (.int 2), some (.int 2), e5, e6, e7, e8, e9, e10, x11, x12, x13, x14] (dk vs b (c + 1) T) := by
  obtain ⟨r, vs, r1, r2, hv, hd⟩ := draw us b c 2 T (by decide) (by decide) c1 (by omega) hu
  have h9 : s_law_9 [sc, some (.ref 1), t, some (.int 2), some (.int 2), e5, e6, e7, e8, e9, e10, e11, e12, e13, e14] (dk us b c T) = .nx [sc, some (.ref 1), t, some (.int 2), some (.int 2), e5, e6, e7, e8, e9, e10, some (.int (1 + r)), e12, e13, e14] (dk vs b (c + 1) T) := drawS rfl rfl hd
  obtain rfl | rfl : r = 0 ∨ r = 1 := by omega
  · exact ⟨vs, _, _, _, _, hv, (seq_nx h9).trans (sC_2_2_1 sc t e5 e6 e7 e8 e9 e10 e12 e13 e14 _)⟩
  · exact ⟨vs, _, _, _, _, hv, (seq_nx h9).trans (sC_2_2_2 sc t e5 e6 e7 e8 e9 e10 e12 e13 e14 _)⟩
theorem tail_2_3 (sc t e5 e6 e7 e8 e9 e10 e11 e12 e13 e14 : Option D) (us : List Int) (b c : Int) (T : GH) (hu : us.length ≤ 100) (c1 : 0 ≤ c) (c2 : c ≤ 900) : ∃ (vs : List Int) (x11 x12 x13 x14 : Option D), vs.length ≤ 100 ∧
    (sSeq s_law_9 (sSeq s_law_10 (sSeq s_law_11 s_law_12))) [sc, some (.ref 1), t, some (.int 2), some (.int 3), e5, e6, e7, e8, e9, e10, e11, e12, e13, e14] (dk us b c T) = .nx [sc, some (.ref 1), t, some (.int 2), some (.int 3), e5, e6, e7, e8, e9, e10, x11, x12, x13, x14] (dk vs b (c + 1) T) := by
  obtain ⟨r, vs, r1, r2, hv, hd⟩ := draw us b c 2 T (by decide) (by decide) c1 (by omega) hu
  have h9 : s_law_9 [sc, some (.ref 1), t, some (.int 2), some (.int 3), e5, e6, e7, e8, e9, e10, e11, e12, e13, e14] (dk us b c T) = .nx [sc, some (.ref 1), t, some (.int 2), some (.int 3), e5, e6, e7, e8, e9, e10, some (.int (1 + r)), e12, e13, e14] (dk vs b (c + 1) T) := drawS rfl rfl hd
  obtain rfl | rfl : r = 0 ∨ r = 1 := by omega
  · exact ⟨vs, _, _, _, _, hv, (seq_nx h9).trans (sC_2_3_1 sc t e5 e6 e7 e8 e9 e10 e12 e13 e14 _)⟩
  · exact ⟨vs, _, _, _, _, hv, (seq_nx h9).trans (sC_2_3_2 sc t e5 e6 e7 e8 e9 e10 e12 e13 e14 _)⟩
theorem tail_2_4 (sc t e5 e6 e7 e8 e9 e10 e11 e12 e13 e14 : Option D) (us : List Int) (b c : Int) (T : GH) (hu : us.length ≤ 100) (c1 : 0 ≤ c) (c2 : c ≤ 900) : ∃ (vs : List Int) (x11 x12 x13 x14 : Option D), vs.length ≤ 100 ∧
    (sSeq s_law_9 (sSeq s_law_10 (sSeq s_law_11 s_law_12))) [sc, some (.ref 1), t, some (.int 2), some (.int 4), e5, e6, e7, e8, e9, e10, e11, e12, e13, e14] (dk us b c T) = .nx [sc, some (.ref 1), t, some (.int 2), some (.int 4), e5, e6, e7, e8, e9, e10, x11, x12, x13, x14] (dk vs b (c + 1) T) := by
  obtain ⟨r, vs, r1, r2, hv, hd⟩ := draw us b c 2 T (by decide) (by decide) c1 (by omega) hu
  have h9 : s_law_9 [sc, some (.ref 1), t, some (.int 2), some (.int 4), e5, e6, e7, e8, e9, e10, e11, e12, e13, e14] (dk us b c T) = .nx [sc, some (.ref 1), t, some (.int 2), some (.int 4), e5, e6, e7, e8, e9, e10, some (.int (1 + r)), e12, e13, e14] (dk vs b (c + 1) T) := drawS rfl rfl hd
  obtain rfl | rfl : r = 0 ∨ r = 1 := by omega
  · exact ⟨vs, _, _, _, _, hv, (seq_nx h9).trans (sC_2_4_1 sc t e5 e6 e7 e8 e9 e10 e12 e13 e14 _)⟩
  · exact ⟨vs, _, _, _, _, hv, (seq_nx h9).trans (sC_2_4_2 sc t e5 e6 e7 e8 e9 e10 e12 e13 e14 _)⟩
theorem tail_3_1 (sc t e5 e6 e7 e8 e9 e10 e11 e12 e13 e14 : Option D) (us : List Int) (b c : Int) (T : GH) (hu : us.length ≤ 100) (c1 : 0 ≤ c) (c2 : c ≤ 900) : ∃ (vs : List Int) (x11 x12 x13 x14 : Option D), vs.length ≤ 100 ∧
    (sSeq s_law_9 (sSeq s_law_10 (sSeq s_law_11 s_law_12))) [sc, some (.ref 1), t, some (.int 3), some (.int 1), e5, e6, e7, e8, e9, e10, e11, e12, e13, e14] (dk us b c T) = .nx [sc, some (.ref 1), t, some (.int 3), some (.int 1), e5, e6, e7, e8, e9, e10, x11, x12, x13, x14] (dk vs b (c + 1) T) := by
  obtain ⟨r, vs, r1, r2, hv, hd⟩ := draw us b c 3 T (by decide) (by decide) c1 (by omega) hu
  have h9 : s_law_9 [sc, some (.ref 1), t, some (.int 3), some (.int 1), e5, e6, e7, e8, e9, e10, e11, e12, e13, e14] (dk us b c T) = .nx [sc, some (.ref 1), t, some (.int 3), some (.int 1), e5, e6, e7, e8, e9, e10, some (.int (1 + r)), e12, e13, e14] (dk vs b (c + 1) T) := drawS rfl rfl hd
  obtain rfl | rfl | rfl : r = 0 ∨ r = 1 ∨ r = 2 := by omega
  · exact ⟨vs, _, _, _, _, hv, (seq_nx h9).trans (sC_3_1_1 sc t e5 e6 e7 e8 e9 e10 e12 e13 e14 _)⟩
  · exact ⟨vs, _, _, _, _, hv, (seq_nx h9).trans (sC_3_1_2 sc t e5 e6 e7 e8 e9 e10 e12 e13 e14 _)⟩
  · exact ⟨vs, _, _, _, _, hv, (seq_nx h9).trans (sC_3_1_3 sc t e5 e6 e7 e8 e9 e10 e12 e13 e14 _)⟩
theorem tail_3_2 (sc t e5 e6 e7 e8 e9 e10 e11 e12 e13 e14 : Option D) (us : List Int) (b c : Int) (T : GH) (hu : us.length ≤ 100) (c1 : 0 ≤ c) (c2 : c ≤ 900) : ∃ (vs : List Int) (x11 x12 x13 x14 : Option D), vs.length ≤ 100 ∧
    (sSeq s_law_9 (sSeq s_law_10 (sSeq s_law_11 s_law_12))) [sc, some (.ref 1), t, some (.int 3), some (.int 2), e5, e6, e7, e8, e9, e10, e11, e12, e13, e14] (dk us b c T) = .nx [sc, some (.ref 1), t, some (.int 3), some (.int 2), e5, e6, e7, e8, e9, e10, x11, x12, x13, x14] (dk vs b (c + 1) T) := by
  obtain ⟨r, vs, r1, r2, hv, hd⟩ := draw us b c 3 T (by decide) (by decide) c1 (by omega) hu
  have h9 : s_law_9 [sc, some (.ref 1), t, some (.int 3), some (.int 2), e5, e6, e7, e8, e9, e10, e11, e12, e13, e14] (dk us b c T) = .nx [sc, some (.ref 1), t, some (.int 3), some (.int 2), e5, e6, e7, e8, e9, e10, some (.int (1 + r)), e12, e13, e14] (dk vs b (c + 1) T) := drawS rfl rfl hd
  obtain rfl | rfl | rfl : r = 0 ∨ r = 1 ∨ r = 2 := by omega
  · exact ⟨vs, _, _, _, _, hv, (seq_nx h9).trans (sC_3_2_1 sc t e5 e6 e7 e8 e9 e10 e12 e13 e14 _)⟩
  · exact ⟨vs, _, _, _, _, hv, (seq_nx h9).trans (sC_3_2_2 sc t e5 e6 e7 e8 e9 e10 e12 e13 e14 _)⟩
  · exact ⟨vs, _, _, _, _, hv, (seq_nx h9).trans (sC_3_2_3 sc t e5 e6 e7 e8 e9 e10 e12 e13 e14 _)⟩
theorem restB_0_1_1 (sc t e5 e6 e7 e8 e9 e10 e11 e12 e13 e14 : Option D) (us : List Int) (b c : Int) (hu : us.length ≤ 100) (c1 : 0 ≤ c) (c2 : c ≤ 800) : ∃ (vs : List Int) (d : Int) (xs : List (Option D)) (P1 P2 P3 : D), vs.length ≤ 100 ∧ 0 ≤ d ∧ d ≤ c + 10 ∧ xs.length = 12 ∧
    (sSeq s_law_2 (sSeq s_law_3 (sSeq s_law_4 (sSeq s_law_5 (sSeq s_law_6 (sSeq s_law_7 (sSeq s_law_8 (sSeq s_law_9 (sSeq s_law_10 (sSeq s_law_11 s_law_12)))))))))) [sc, some (.ref 1), t, some (.int 1), some (.int 1), e5, e6, e7, e8, e9, e10, e11, e12, e13, e14] (dk us b c []) = .nx (sc :: some (.ref 1) :: t :: xs) (dk vs b d [P1, P2, P3]) := by
  have a2 : s_law_2 [sc, some (.ref 1), t, some (.int 1), some (.int 1), e5, e6, e7, e8, e9, e10, e11, e12, e13, e14] (dk us b c []) = .nx [sc, some (.ref 1), t, some (.int 1), some (.int 1), some (.ref 2), some (.ref 3), e7, e8, e9, e10, e11, e12, e13, e14] (dk us b c ([] ++ [.lst (([0] : List Int).map D.int), .lst (([] : List Int).map D.int)])) := by kernel_rfl
  obtain ⟨vs, ps, hv, hp, hl⟩ := loop3 (ρ := [sc, some (.ref 1), t, some (.int 1), some (.int 1), some (.ref 2), some (.ref 3), e7, e8, e9, e10, e11, e12, e13, e14]) (pre := []) (b := b) rfl rfl rfl 1 FUEL [0] [] us c rfl (by decide) (by decide) (by decide) hu c1 (by omega)
  have a3 : s_law_3 [sc, some (.ref 1), t, some (.int 1), some (.int 1), some (.ref 2), some (.ref 3), e7, e8, e9, e10, e11, e12, e13, e14] (dk us b c ([] ++ [.lst (([0] : List Int).map D.int), .lst (([] : List Int).map D.int)])) = .nx [sc, some (.ref 1), t, some (.int 1), some (.int 1), some (.ref 2), some (.ref 3), e7, e8, e9, e10, e11, e12, e13, e14] (dk vs b (c + ((1 : Nat) : Int)) ([] ++ [.lst [], .lst ((([] : List Int) ++ ps).map D.int)])) := hl
  have ho : orders 1 [0] = [[0]] := by kernel_rfl
  rw [ho] at hp
  simp only [List.mem_cons, List.not_mem_nil, or_false] at hp
  obtain rfl := hp
  · obtain ⟨ws, x11, x12, x13, x14, hw, ht⟩ := tail_1_1 sc t (some (.ref 2)) (some (.ref 3)) (some (.tup [.int 0])) (some (.int 1)) (some (.ref 4)) (some (.int 5)) e11 e12 e13 e14 vs b (c + ((1 : Nat) : Int)) [.lst [], .lst [.int 0], .lst [.int 1, .int 1, .int 1, .int 1, .int 1, .int 1]] hv (by omega) (by omega)
    exact ⟨ws, _, [some (.int 1), some (.int 1), some (.ref 2), some (.ref 3), some (.tup [.int 0]), some (.int 1), some (.ref 4), some (.int 5), x11, x12, x13, x14], _, _, _, hw, (by omega : (0 : Int) ≤ c + ((1 : Nat) : Int) + 1), by omega, rfl, (seq_nx a2).trans ((seq_nx a3).trans ((sA_0_1_1_0 _ sc t e7 e8 e9 e10 e11 e12 e13 e14 _ _).trans ht))⟩
theorem restB_0_1_2 (sc t e5 e6 e7 e8 e9 e10 e11 e12 e13 e14 : Option D) (us : List Int) (b c : Int) (hu : us.length ≤ 100) (c1 : 0 ≤ c) (c2 : c ≤ 800) : ∃ (vs : List Int) (d : Int) (xs : List (Option D)) (P1 P2 P3 : D), vs.length ≤ 100 ∧ 0 ≤ d ∧ d ≤ c + 10 ∧ xs.length = 12 ∧
    (sSeq s_law_2 (sSeq s_law_3 (sSeq s_law_4 (sSeq s_law_5 (sSeq s_law_6 (sSeq s_law_7 (sSeq s_law_8 (sSeq s_law_9 (sSeq s_law_10 (sSeq s_law_11 s_law_12)))))))))) [sc, some (.ref 1), t, some (.int 1), some (.int 2), e5, e6, e7, e8, e9, e10, e11, e12, e13, e14] (dk us b c []) = .nx (sc :: some (.ref 1) :: t :: xs) (dk vs b d [P1, P2, P3]) := by
  have a2 : s_law_2 [sc, some (.ref 1), t, some (.int 1), some (.int 2), e5, e6, e7, e8, e9, e10, e11, e12, e13, e14] (dk us b c []) = .nx [sc, some (.ref 1), t, some (.int 1), some (.int 2), some (.ref 2), some (.ref 3), e7, e8, e9, e10, e11, e12, e13, e14] (dk us b c ([] ++ [.lst (([0] : List Int).map D.int), .lst (([] : List Int).map D.int)])) := by kernel_rfl
  obtain ⟨vs, ps, hv, hp, hl⟩ := loop3 (ρ := [sc, some (.ref 1), t, some (.int 1), some (.int 2), some (.ref 2), some (.ref 3), e7, e8, e9, e10, e11, e12, e13, e14]) (pre := []) (b := b) rfl rfl rfl 1 FUEL [0] [] us c rfl (by decide) (by decide) (by decide) hu c1 (by omega)
  have a3 : s_law_3 [sc, some (.ref 1), t, some (.int 1), some (.int 2), some (.ref 2), some (.ref 3), e7, e8, e9, e10, e11, e12, e13, e14] (dk us b c ([] ++ [.lst (([0] : List Int).map D.int), .lst (([] : List Int).map D.int)])) = .nx [sc, some (.ref 1), t, some (.int 1), some (.int 2), some (.ref 2), some (.ref 3), e7, e8, e9, e10, e11, e12, e13, e14] (dk vs b (c + ((1 : Nat) : Int)) ([] ++ [.lst [], .lst ((([] : List Int) ++ ps).map D.int)])) := hl
  have ho : orders 1 [0] = [[0]] := by kernel_rfl
  rw [ho] at hp
  simp only [List.mem_cons, List.not_mem_nil, or_false] at hp
  obtain rfl := hp
  · obtain ⟨ws, x11, x12, x13, x14, hw, ht⟩ := tail_1_2 sc t (some (.ref 2)) (some (.ref 3)) (some (.tup [.int 0])) (some (.int 2)) (some (.ref 4)) (some (.int 5)) e11 e12 e13 e14 vs b (c + ((1 : Nat) : Int)) [.lst [], .lst [.int 0], .lst [.int 2, .int 2, .int 2, .int 2, .int 2, .int 2]] hv (by omega) (by omega)
    exact ⟨ws, _, [some (.int 1), some (.int 2), some (.ref 2), some (.ref 3), some (.tup [.int 0]), some (.int 2), some (.ref 4), some (.int 5), x11, x12, x13, x14], _, _, _, hw, (by omega : (0 : Int) ≤ c + ((1 : Nat) : Int) + 1), by omega, rfl, (seq_nx a2).trans ((seq_nx a3).trans ((sA_0_1_2_0 _ sc t e7 e8 e9 e10 e11 e12 e13 e14 _ _).trans ht))⟩
theorem restA_0_1 (sc t e4 e5 e6 e7 e8 e9 e10 e11 e12 e13 e14 : Option D) (us : List Int) (b c : Int) (hu : us.length ≤ 100) (c1 : 0 ≤ c) (c2 : c ≤ 700) : ∃ (vs : List Int) (d : Int) (xs : List (Option D)) (P1 P2 P3 : D), vs.length ≤ 100 ∧ 0 ≤ d ∧ d ≤ c + 20 ∧ xs.length = 12 ∧
    (sSeq s_law_1 (sSeq s_law_2 (sSeq s_law_3 (sSeq s_law_4 (sSeq s_law_5 (sSeq s_law_6 (sSeq s_law_7 (sSeq s_law_8 (sSeq s_law_9 (sSeq s_law_10 (sSeq s_law_11 s_law_12))))))))))) [sc, some (.ref 1), t, some (.int 1), e4, e5, e6, e7, e8, e9, e10, e11, e12, e13, e14] (dk us b c []) = .nx (sc :: some (.ref 1) :: t :: xs) (dk vs b d [P1, P2, P3]) := by
  obtain ⟨r, us1, r1, r2, hu1, hd⟩ := draw us b c 2 [] (by decide) (by decide) c1 (by omega) hu
  have h1 : s_law_1 [sc, some (.ref 1), t, some (.int 1), e4, e5, e6, e7, e8, e9, e10, e11, e12, e13, e14] (dk us b c []) = .nx [sc, some (.ref 1), t, some (.int 1), some (.int (1 + r)), e5, e6, e7, e8, e9, e10, e11, e12, e13, e14] (dk us1 b (c + 1) []) := drawS rfl (by kernel_rfl) hd
  obtain rfl | rfl : r = 0 ∨ r = 1 := by omega
  · obtain ⟨vs, d, xs, P1, P2, P3, g1, g2, g3, g4, g5⟩ := restB_0_1_1 sc t e5 e6 e7 e8 e9 e10 e11 e12 e13 e14 us1 b (c + 1) hu1 (by omega) (by omega)
    exact ⟨vs, d, xs, P1, P2, P3, g1, g2, by omega, g4, (seq_nx h1).trans g5⟩
  · obtain ⟨vs, d, xs, P1, P2, P3, g1, g2, g3, g4, g5⟩ := restB_0_1_2 sc t e5 e6 e7 e8 e9 e10 e11 e12 e13 e14 us1 b (c + 1) hu1 (by omega) (by omega)
    exact ⟨vs, d, xs, P1, P2, P3, g1, g2, by omega, g4, (seq_nx h1).trans g5⟩
theorem restB_0_2_1 (sc t e5 e6 e7 e8 e9 e10 e11 e12 e13 e14 : Option D) (us : List Int) (b c : Int) (hu : us.length ≤ 100) (c1 : 0 ≤ c) (c2 : c ≤ 800) : ∃ (vs : List Int) (d : Int) (xs : List (Option D)) (P1 P2 P3 : D), vs.length ≤ 100 ∧ 0 ≤ d ∧ d ≤ c + 10 ∧ xs.length = 12 ∧
    (sSeq s_law_2 (sSeq s_law_3 (sSeq s_law_4 (sSeq s_law_5 (sSeq s_law_6 (sSeq s_law_7 (sSeq s_law_8 (sSeq s_law_9 (sSeq s_law_10 (sSeq s_law_11 s_law_12)))))))))) [sc, some (.ref 1), t, some (.int 2), some (.int 1), e5, e6, e7, e8, e9, e10, e11, e12, e13, e14] (dk us b c []) = .nx (sc :: some (.ref 1) :: t :: xs) (dk vs b d [P1, P2, P3]) := by
  have a2 : s_law_2 [sc, some (.ref 1), t, some (.int 2), some (.int 1), e5, e6, e7, e8, e9, e10, e11, e12, e13, e14] (dk us b c []) = .nx [sc, some (.ref 1), t, some (.int 2), some (.int 1), some (.ref 2), some (.ref 3), e7, e8, e9, e10, e11, e12, e13, e14] (dk us b c ([] ++ [.lst (([0, 1] : List Int).map D.int), .lst (([] : List Int).map D.int)])) := by kernel_rfl
  obtain ⟨vs, ps, hv, hp, hl⟩ := loop3 (ρ := [sc, some (.ref 1), t, some (.int 2), some (.int 1), some (.ref 2), some (.ref 3), e7, e8, e9, e10, e11, e12, e13, e14]) (pre := []) (b := b) rfl rfl rfl 2 FUEL [0, 1] [] us c rfl (by decide) (by decide) (by decide) hu c1 (by omega)
  have a3 : s_law_3 [sc, some (.ref 1), t, some (.int 2), some (.int 1), some (.ref 2), some (.ref 3), e7, e8, e9, e10, e11, e12, e13, e14] (dk us b c ([] ++ [.lst (([0, 1] : List Int).map D.int), .lst (([] : List Int).map D.int)])) = .nx [sc, some (.ref 1), t, some (.int 2), some (.int 1), some (.ref 2), some (.ref 3), e7, e8, e9, e10, e11, e12, e13, e14] (dk vs b (c + ((2 : Nat) : Int)) ([] ++ [.lst [], .lst ((([] : List Int) ++ ps).map D.int)])) := hl
  have ho : orders 2 [0, 1] = [[0, 1], [1, 0]] := by kernel_rfl
  rw [ho] at hp
  simp only [List.mem_cons, List.not_mem_nil, or_false] at hp
  obtain rfl | rfl := hp
  · obtain ⟨ws, x11, x12, x13, x14, hw, ht⟩ := tail_2_1 sc t (some (.ref 2)) (some (.ref 3)) (some (.tup [.int 0, .int 1])) (some (.int 1)) (some (.ref 4)) (some (.int 5)) e11 e12 e13 e14 vs b (c + ((2 : Nat) : Int)) [.lst [], .lst [.int 0, .int 1], .lst [.int 2, .int 1, .int 1, .int 1, .int 1, .int 2]] hv (by omega) (by omega)
    exact ⟨ws, _, [some (.int 2), some (.int 1), some (.ref 2), some (.ref 3), some (.tup [.int 0, .int 1]), some (.int 1), some (.ref 4), some (.int 5), x11, x12, x13, x14], _, _, _, hw, (by omega : (0 : Int) ≤ c + ((2 : Nat) : Int) + 1), by omega, rfl, (seq_nx a2).trans ((seq_nx a3).trans ((sA_0_2_1_01 _ sc t e7 e8 e9 e10 e11 e12 e13 e14 _ _).trans ht))⟩
  · obtain ⟨ws, x11, x12, x13, x14, hw, ht⟩ := tail_2_1 sc t (some (.ref 2)) (some (.ref 3)) (some (.tup [.int 0, .int 1])) (some (.int 1)) (some (.ref 4)) (some (.int 5)) e11 e12 e13 e14 vs b (c + ((2 : Nat) : Int)) [.lst [], .lst [.int 1, .int 0], .lst [.int 2, .int 1, .int 1, .int 1, .int 1, .int 2]] hv (by omega) (by omega)
    exact ⟨ws, _, [some (.int 2), some (.int 1), some (.ref 2), some (.ref 3), some (.tup [.int 0, .int 1]), some (.int 1), some (.ref 4), some (.int 5), x11, x12, x13, x14], _, _, _, hw, (by omega : (0 : Int) ≤ c + ((2 : Nat) : Int) + 1), by omega, rfl, (seq_nx a2).trans ((seq_nx a3).trans ((sA_0_2_1_10 _ sc t e7 e8 e9 e10 e11 e12 e13 e14 _ _).trans ht))⟩
theorem restB_0_2_2 (sc t e5 e6 e7 e8 e9 e10 e11 e12 e13 e14 : Option D) (us : List Int) (b c : Int) (hu : us.length ≤ 100) (c1 : 0 ≤ c) (c2 : c ≤ 800) : ∃ (vs : List Int) (d : Int) (xs : List (Option D)) (P1 P2 P3 : D), vs.length ≤ 100 ∧ 0 ≤ d ∧ d ≤ c + 10 ∧ xs.length = 12 ∧
    (sSeq s_law_2 (sSeq s_law_3 (sSeq s_law_4 (sSeq s_law_5 (sSeq s_law_6 (sSeq s_law_7 (sSeq s_law_8 (sSeq s_law_9 (sSeq s_law_10 (sSeq s_law_11 s_law_12)))))))))) [sc, some (.ref 1), t, some (.int 2), some (.int 2), e5, e6, e7, e8, e9, e10, e11, e12, e13, e14] (dk us b c []) = .nx (sc :: some (.ref 1) :: t :: xs) (dk vs b d [P1, P2, P3]) := by
  have a2 : s_law_2 [sc, some (.ref 1), t, some (.int 2), some (.int 2), e5, e6, e7, e8, e9, e10, e11, e12, e13, e14] (dk us b c []) = .nx [sc, some (.ref 1), t, some (.int 2), some (.int 2), some (.ref 2), some (.ref 3), e7, e8, e9, e10, e11, e12, e13, e14] (dk us b c ([] ++ [.lst (([0, 1] : List Int).map D.int), .lst (([] : List Int).map D.int)])) := by kernel_rfl
  obtain ⟨vs, ps, hv, hp, hl⟩ := loop3 (ρ := [sc, some (.ref 1), t, some (.int 2), some (.int 2), some (.ref 2), some (.ref 3), e7, e8, e9, e10, e11, e12, e13, e14]) (pre := []) (b := b) rfl rfl rfl 2 FUEL [0, 1] [] us c rfl (by decide) (by decide) (by decide) hu c1 (by omega)
  have a3 : s_law_3 [sc, some (.ref 1), t, some (.int 2), some (.int 2), some (.ref 2), some (.ref 3), e7, e8, e9, e10, e11, e12, e13, e14] (dk us b c ([] ++ [.lst (([0, 1] : List Int).map D.int), .lst (([] : List Int).map D.int)])) = .nx [sc, some (.ref 1), t, some (.int 2), some (.int 2), some (.ref 2), some (.ref 3), e7, e8, e9, e10, e11, e12, e13, e14] (dk vs b (c + ((2 : Nat) : Int)) ([] ++ [.lst [], .lst ((([] : List Int) ++ ps).map D.int)])) := hl
  have ho : orders 2 [0, 1] = [[0, 1], [1, 0]] := by kernel_rfl
  rw [ho] at hp
  simp only [List.mem_cons, List.not_mem_nil, or_false] at hp
  obtain rfl | rfl := hp
  · obtain ⟨ws, x11, x12, x13, x14, hw, ht⟩ := tail_2_2 sc t (some (.ref 2)) (some (.ref 3)) (some (.tup [.int 0, .int 1])) (some (.int 4)) (some (.ref 4)) (some (.int 5)) e11 e12 e13 e14 vs b (c + ((2 : Nat) : Int)) [.lst [], .lst [.int 0, .int 1], .lst [.int 4, .int 4, .int 4, .int 3, .int 3, .int 4]] hv (by omega) (by omega)
    exact ⟨ws, _, [some (.int 2), some (.int 2), some (.ref 2), some (.ref 3), some (.tup [.int 0, .int 1]), some (.int 4), some (.ref 4), some (.int 5), x11, x12, x13, x14], _, _, _, hw, (by omega : (0 : Int) ≤ c + ((2 : Nat) : Int) + 1), by omega, rfl, (seq_nx a2).trans ((seq_nx a3).trans ((sA_0_2_2_01 _ sc t e7 e8 e9 e10 e11 e12 e13 e14 _ _).trans ht))⟩
  · obtain ⟨ws, x11, x12, x13, x14, hw, ht⟩ := tail_2_2 sc t (some (.ref 2)) (some (.ref 3)) (some (.tup [.int 0, .int 1])) (some (.int 4)) (some (.ref 4)) (some (.int 5)) e11 e12 e13 e14 vs b (c + ((2 : Nat) : Int)) [.lst [], .lst [.int 1, .int 0], .lst [.int 4, .int 4, .int 4, .int 3, .int 3, .int 4]] hv (by omega) (by omega)
    exact ⟨ws, _, [some (.int 2), some (.int 2), some (.ref 2), some (.ref 3), some (.tup [.int 0, .int 1]), some (.int 4), some (.ref 4), some (.int 5), x11, x12, x13, x14], _, _, _, hw, (by omega : (0 : Int) ≤ c + ((2 : Nat) : Int) + 1), by omega, rfl, (seq_nx a2).trans ((seq_nx a3).trans ((sA_0_2_2_10 _ sc t e7 e8 e9 e10 e11 e12 e13 e14 _ _).trans ht))⟩
theorem restB_0_2_3 (sc t e5 e6 e7 e8 e9 e10 e11 e12 e13 e14 : Option D) (us : List Int) (b c : Int) (hu : us.length ≤ 100) (c1 : 0 ≤ c) (c2 : c ≤ 800) : ∃ (vs : List Int) (d : Int) (xs : List (Option D)) (P1 P2 P3 : D), vs.length ≤ 100 ∧ 0 ≤ d ∧ d ≤ c + 10 ∧ xs.length = 12 ∧
    (sSeq s_law_2 (sSeq s_law_3 (sSeq s_law_4 (sSeq s_law_5 (sSeq s_law_6 (sSeq s_law_7 (sSeq s_law_8 (sSeq s_law_9 (sSeq s_law_10 (sSeq s_law_11 s_law_12)))))))))) [sc, some (.ref 1), t, some (.int 2), some (.int 3), e5, e6, e7, e8, e9, e10, e11, e12, e13, e14] (dk us b c []) = .nx (sc :: some (.ref 1) :: t :: xs) (dk vs b d [P1, P2, P3]) := by
  have a2 : s_law_2 [sc, some (.ref 1), t, some (.int 2), some (.int 3), e5, e6, e7, e8, e9, e10, e11, e12, e13, e14] (dk us b c []) = .nx [sc, some (.ref 1), t, some (.int 2), some (.int 3), some (.ref 2), some (.ref 3), e7, e8, e9, e10, e11, e12, e13, e14] (dk us b c ([] ++ [.lst (([0, 1] : List Int).map D.int), .lst (([] : List Int).map D.int)])) := by kernel_rfl
  obtain ⟨vs, ps, hv, hp, hl⟩ := loop3 (ρ := [sc, some (.ref 1), t, some (.int 2), some (.int 3), some (.ref 2), some (.ref 3), e7, e8, e9, e10, e11, e12, e13, e14]) (pre := []) (b := b) rfl rfl rfl 2 FUEL [0, 1] [] us c rfl (by decide) (by decide) (by decide) hu c1 (by omega)
  have a3 : s_law_3 [sc, some (.ref 1), t, some (.int 2), some (.int 3), some (.ref 2), some (.ref 3), e7, e8, e9, e10, e11, e12, e13, e14] (dk us b c ([] ++ [.lst (([0, 1] : List Int).map D.int), .lst (([] : List Int).map D.int)])) = .nx [sc, some (.ref 1), t, some (.int 2), some (.int 3), some (.ref 2), some (.ref 3), e7, e8, e9, e10, e11, e12, e13, e14] (dk vs b (c + ((2 : Nat) : Int)) ([] ++ [.lst [], .lst ((([] : List Int) ++ ps).map D.int)])) := hl
  have ho : orders 2 [0, 1] = [[0, 1], [1, 0]] := by kernel_rfl
  rw [ho] at hp
  simp only [List.mem_cons, List.not_mem_nil, or_false] at hp
  obtain rfl | rfl := hp
  · obtain ⟨ws, x11, x12, x13, x14, hw, ht⟩ := tail_2_3 sc t (some (.ref 2)) (some (.ref 3)) (some (.tup [.int 0, .int 1])) (some (.int 9)) (some (.ref 4)) (some (.int 5)) e11 e12 e13 e14 vs b (c + ((2 : Nat) : Int)) [.lst [], .lst [.int 0, .int 1], .lst [.int 6, .int 9, .int 9, .int 5, .int 5, .int 6]] hv (by omega) (by omega)
    exact ⟨ws, _, [some (.int 2), some (.int 3), some (.ref 2), some (.ref 3), some (.tup [.int 0, .int 1]), some (.int 9), some (.ref 4), some (.int 5), x11, x12, x13, x14], _, _, _, hw, (by omega : (0 : Int) ≤ c + ((2 : Nat) : Int) + 1), by omega, rfl, (seq_nx a2).trans ((seq_nx a3).trans ((sA_0_2_3_01 _ sc t e7 e8 e9 e10 e11 e12 e13 e14 _ _).trans ht))⟩
  · obtain ⟨ws, x11, x12, x13, x14, hw, ht⟩ := tail_2_3 sc t (some (.ref 2)) (some (.ref 3)) (some (.tup [.int 0, .int 1])) (some (.int 9)) (some (.ref 4)) (some (.int 5)) e11 e12 e13 e14 vs b (c + ((2 : Nat) : Int)) [.lst [], .lst [.int 1, .int 0], .lst [.int 6, .int 9, .int 9, .int 5, .int 5, .int 6]] hv (by omega) (by omega)
    exact ⟨ws, _, [some (.int 2), some (.int 3), some (.ref 2), some (.ref 3), some (.tup [.int 0, .int 1]), some (.int 9), some (.ref 4), some (.int 5), x11, x12, x13, x14], _, _, _, hw, (by omega : (0 : Int) ≤ c + ((2 : Nat) : Int) + 1), by omega, rfl, (seq_nx a2).trans ((seq_nx a3).trans ((sA_0_2_3_10 _ sc t e7 e8 e9 e10 e11 e12 e13 e14 _ _).trans ht))⟩
theorem restB_0_2_4 (sc t e5 e6 e7 e8 e9 e10 e11 e12 e13 e14 : Option D) (us : List Int) (b c : Int) (hu : us.length ≤ 100) (c1 : 0 ≤ c) (c2 : c ≤ 800) : ∃ (vs : List Int) (d : Int) (xs : List (Option D)) (P1 P2 P3 : D), vs.length ≤ 100 ∧ 0 ≤ d ∧ d ≤ c + 10 ∧ xs.length = 12 ∧
    (sSeq s_law_2 (sSeq s_law_3 (sSeq s_law_4 (sSeq s_law_5 (sSeq s_law_6 (sSeq s_law_7 (sSeq s_law_8 (sSeq s_law_9 (sSeq s_law_10 (sSeq s_law_11 s_law_12)))))))))) [sc, some (.ref 1), t, some (.int 2), some (.int 4), e5, e6, e7, e8, e9, e10, e11, e12, e13, e14] (dk us b c []) = .nx (sc :: some (.ref 1) :: t :: xs) (dk vs b d [P1, P2, P3]) := by
  have a2 : s_law_2 [sc, some (.ref 1), t, some (.int 2), some (.int 4), e5, e6, e7, e8, e9, e10, e11, e12, e13, e14] (dk us b c []) = .nx [sc, some (.ref 1), t, some (.int 2), some (.int 4), some (.ref 2), some (.ref 3), e7, e8, e9, e10, e11, e12, e13, e14] (dk us b c ([] ++ [.lst (([0, 1] : List Int).map D.int), .lst (([] : List Int).map D.int)])) := by kernel_rfl
  obtain ⟨vs, ps, hv, hp, hl⟩ := loop3 (ρ := [sc, some (.ref 1), t, some (.int 2), some (.int 4), some (.ref 2), some (.ref 3), e7, e8, e9, e10, e11, e12, e13, e14]) (pre := []) (b := b) rfl rfl rfl 2 FUEL [0, 1] [] us c rfl (by decide) (by decide) (by decide) hu c1 (by omega)
  have a3 : s_law_3 [sc, some (.ref 1), t, some (.int 2), some (.int 4), some (.ref 2), some (.ref 3), e7, e8, e9, e10, e11, e12, e13, e14] (dk us b c ([] ++ [.lst (([0, 1] : List Int).map D.int), .lst (([] : List Int).map D.int)])) = .nx [sc, some (.ref 1), t, some (.int 2), some (.int 4), some (.ref 2), some (.ref 3), e7, e8, e9, e10, e11, e12, e13, e14] (dk vs b (c + ((2 : Nat) : Int)) ([] ++ [.lst [], .lst ((([] : List Int) ++ ps).map D.int)])) := hl
  have ho : orders 2 [0, 1] = [[0, 1], [1, 0]] := by kernel_rfl
  rw [ho] at hp
  simp only [List.mem_cons, List.not_mem_nil, or_false] at hp
  obtain rfl | rfl := hp
  · obtain ⟨ws, x11, x12, x13, x14, hw, ht⟩ := tail_2_4 sc t (some (.ref 2)) (some (.ref 3)) (some (.tup [.int 0, .int 1])) (some (.int 16)) (some (.ref 4)) (some (.int 5)) e11 e12 e13 e14 vs b (c + ((2 : Nat) : Int)) [.lst [], .lst [.int 0, .int 1], .lst [.int 8, .int 16, .int 16, .int 7, .int 7, .int 8]] hv (by omega) (by omega)
    exact ⟨ws, _, [some (.int 2), some (.int 4), some (.ref 2), some (.ref 3), some (.tup [.int 0, .int 1]), some (.int 16), some (.ref 4), some (.int 5), x11, x12, x13, x14], _, _, _, hw, (by omega : (0 : Int) ≤ c + ((2 : Nat) : Int) + 1), by omega, rfl, (seq_nx a2).trans ((seq_nx a3).trans ((sA_0_2_4_01 _ sc t e7 e8 e9 e10 e11 e12 e13 e14 _ _).trans ht))⟩
  · obtain ⟨ws, x11, x12, x13, x14, hw, ht⟩ := tail_2_4 sc t (some (.ref 2)) (some (.ref 3)) (some (.tup [.int 0, .int 1])) (some (.int 16)) (some (.ref 4)) (some (.int 5)) e11 e12 e13 e14 vs b (c + ((2 : Nat) : Int)) [.lst [], .lst [.int 1, .int 0], .lst [.int 8, .int 16, .int 16, .int 7, .int 7, .int 8]] hv (by omega) (by omega)
    exact ⟨ws, _, [some (.int 2), some (.int 4), some (.ref 2), some (.ref 3), some (.tup [.int 0, .int 1]), some (.int 16), some (.ref 4), some (.int 5), x11, x12, x13, x14], _, _, _, hw, (by omega : (0 : Int) ≤ c + ((2 : Nat) : Int) + 1), by omega, rfl, (seq_nx a2).trans ((seq_nx a3).trans ((sA_0_2_4_10 _ sc t e7 e8 e9 e10 e11 e12 e13 e14 _ _).trans ht))⟩
theorem restA_0_2 (sc t e4 e5 e6 e7 e8 e9 e10 e11 e12 e13 e14 : Option D) (us : List Int) (b c : Int) (hu : us.length ≤ 100) (c1 : 0 ≤ c) (c2 : c ≤ 700) : ∃ (vs : List Int) (d : Int) (xs : List (Option D)) (P1 P2 P3 : D), vs.length ≤ 100 ∧ 0 ≤ d ∧ d ≤ c + 20 ∧ xs.length = 12 ∧
    (sSeq s_law_1 (sSeq s_law_2 (sSeq s_law_3 (sSeq s_law_4 (sSeq s_law_5 (sSeq s_law_6 (sSeq s_law_7 (sSeq s_law_8 (sSeq s_law_9 (sSeq s_law_10 (sSeq s_law_11 s_law_12))))))))))) [sc, some (.ref 1), t, some (.int 2), e4, e5, e6, e7, e8, e9, e10, e11, e12, e13, e14] (dk us b c []) = .nx (sc :: some (.ref 1) :: t :: xs) (dk vs b d [P1, P2, P3]) := by
  obtain ⟨r, us1, r1, r2, hu1, hd⟩ := draw us b c 4 [] (by decide) (by decide) c1 (by omega) hu
  have h1 : s_law_1 [sc, some (.ref 1), t, some (.int 2), e4, e5, e6, e7, e8, e9, e10, e11, e12, e13, e14] (dk us b c []) = .nx [sc, some (.ref 1), t, some (.int 2), some (.int (1 + r)), e5, e6, e7, e8, e9, e10, e11, e12, e13, e14] (dk us1 b (c + 1) []) := drawS rfl (by kernel_rfl) hd
  obtain rfl | rfl | rfl | rfl : r = 0 ∨ r = 1 ∨ r = 2 ∨ r = 3 := by omega
  · obtain ⟨vs, d, xs, P1, P2, P3, g1, g2, g3, g4, g5⟩ := restB_0_2_1 sc t e5 e6 e7 e8 e9 e10 e11 e12 e13 e14 us1 b (c + 1) hu1 (by omega) (by omega)
    exact ⟨vs, d, xs, P1, P2, P3, g1, g2, by omega, g4, (seq_nx h1).trans g5⟩
  · obtain ⟨vs, d, xs, P1, P2, P3, g1, g2, g3, g4, g5⟩ := restB_0_2_2 sc t e5 e6 e7 e8 e9 e10 e11 e12 e13 e14 us1 b (c + 1) hu1 (by omega) (by omega)
    exact ⟨vs, d, xs, P1, P2, P3, g1, g2, by omega, g4, (seq_nx h1).trans g5⟩
  · obtain ⟨vs, d, xs, P1, P2, P3, g1, g2, g3, g4, g5⟩ := restB_0_2_3 sc t e5 e6 e7 e8 e9 e10 e11 e12 e13 e14 us1 b (c + 1) hu1 (by omega) (by omega)
    exact ⟨vs, d, xs, P1, P2, P3, g1, g2, by omega, g4, (seq_nx h1).trans g5⟩
  · obtain ⟨vs, d, xs, P1, P2, P3, g1, g2, g3, g4, g5⟩ := restB_0_2_4 sc t e5 e6 e7 e8 e9 e10 e11 e12 e13 e14 us1 b (c + 1) hu1 (by omega) (by omega)
    exact ⟨vs, d, xs, P1, P2, P3, g1, g2, by omega, g4, (seq_nx h1).trans g5⟩
theorem restB_0_3_1 (sc t e5 e6 e7 e8 e9 e10 e11 e12 e13 e14 : Option D) (us : List Int) (b c : Int) (hu : us.length ≤ 100) (c1 : 0 ≤ c) (c2 : c ≤ 800) : ∃ (vs : List Int) (d : Int) (xs : List (Option D)) (P1 P2 P3 : D), vs.length ≤ 100 ∧ 0 ≤ d ∧ d ≤ c + 10 ∧ xs.length = 12 ∧
    (sSeq s_law_2 (sSeq s_law_3 (sSeq s_law_4 (sSeq s_law_5 (sSeq s_law_6 (sSeq s_law_7 (sSeq s_law_8 (sSeq s_law_9 (sSeq s_law_10 (sSeq s_law_11 s_law_12)))))))))) [sc, some (.ref 1), t, some (.int 3), some (.int 1), e5, e6, e7, e8, e9, e10, e11, e12, e13, e14] (dk us b c []) = .nx (sc :: some (.ref 1) :: t :: xs) (dk vs b d [P1, P2, P3]) := by
  have a2 : s_law_2 [sc, some (.ref 1), t, some (.int 3), some (.int 1), e5, e6, e7, e8, e9, e10, e11, e12, e13, e14] (dk us b c []) = .nx [sc, some (.ref 1), t, some (.int 3), some (.int 1), some (.ref 2), some (.ref 3), e7, e8, e9, e10, e11, e12, e13, e14] (dk us b c ([] ++ [.lst (([0, 1, 2] : List Int).map D.int), .lst (([] : List Int).map D.int)])) := by kernel_rfl
  obtain ⟨vs, ps, hv, hp, hl⟩ := loop3 (ρ := [sc, some (.ref 1), t, some (.int 3), some (.int 1), some (.ref 2), some (.ref 3), e7, e8, e9, e10, e11, e12, e13, e14]) (pre := []) (b := b) rfl rfl rfl 3 FUEL [0, 1, 2] [] us c rfl (by decide) (by decide) (by decide) hu c1 (by omega)
  have a3 : s_law_3 [sc, some (.ref 1), t, some (.int 3), some (.int 1), some (.ref 2), some (.ref 3), e7, e8, e9, e10, e11, e12, e13, e14] (dk us b c ([] ++ [.lst (([0, 1, 2] : List Int).map D.int), .lst (([] : List Int).map D.int)])) = .nx [sc, some (.ref 1), t, some (.int 3), some (.int 1), some (.ref 2), some (.ref 3), e7, e8, e9, e10, e11, e12, e13, e14] (dk vs b (c + ((3 : Nat) : Int)) ([] ++ [.lst [], .lst ((([] : List Int) ++ ps).map D.int)])) := hl
  have ho : orders 3 [0, 1, 2] = [[0, 1, 2], [0, 2, 1], [1, 0, 2], [1, 2, 0], [2, 0, 1], [2, 1, 0]] := by kernel_rfl
  rw [ho] at hp
  simp only [List.mem_cons, List.not_mem_nil, or_false] at hp
  obtain rfl | rfl | rfl | rfl | rfl | rfl := hp
  · obtain ⟨ws, x11, x12, x13, x14, hw, ht⟩ := tail_3_1 sc t (some (.ref 2)) (some (.ref 3)) (some (.tup [.int 0, .int 1, .int 2])) (some (.int 1)) (some (.ref 4)) (some (.int 5)) e11 e12 e13 e14 vs b (c + ((3 : Nat) : Int)) [.lst [], .lst [.int 0, .int 1, .int 2], .lst [.int 3, .int 1, .int 1, .int 1, .int 1, .int 2]] hv (by omega) (by omega)
    exact ⟨ws, _, [some (.int 3), some (.int 1), some (.ref 2), some (.ref 3), some (.tup [.int 0, .int 1, .int 2]), some (.int 1), some (.ref 4), some (.int 5), x11, x12, x13, x14], _, _, _, hw, (by omega : (0 : Int) ≤ c + ((3 : Nat) : Int) + 1), by omega, rfl, (seq_nx a2).trans ((seq_nx a3).trans ((sA_0_3_1_012 _ sc t e7 e8 e9 e10 e11 e12 e13 e14 _ _).trans ht))⟩
  · obtain ⟨ws, x11, x12, x13, x14, hw, ht⟩ := tail_3_1 sc t (some (.ref 2)) (some (.ref 3)) (some (.tup [.int 0, .int 1, .int 2])) (some (.int 1)) (some (.ref 4)) (some (.int 5)) e11 e12 e13 e14 vs b (c + ((3 : Nat) : Int)) [.lst [], .lst [.int 0, .int 2, .int 1], .lst [.int 3, .int 1, .int 1, .int 1, .int 1, .int 2]] hv (by omega) (by omega)
    exact ⟨ws, _, [some (.int 3), some (.int 1), some (.ref 2), some (.ref 3), some (.tup [.int 0, .int 1, .int 2]), some (.int 1), some (.ref 4), some (.int 5), x11, x12, x13, x14], _, _, _, hw, (by omega : (0 : Int) ≤ c + ((3 : Nat) : Int) + 1), by omega, rfl, (seq_nx a2).trans ((seq_nx a3).trans ((sA_0_3_1_021 _ sc t e7 e8 e9 e10 e11 e12 e13 e14 _ _).trans ht))⟩
  · obtain ⟨ws, x11, x12, x13, x14, hw, ht⟩ := tail_3_1 sc t (some (.ref 2)) (some (.ref 3)) (some (.tup [.int 0, .int 1, .int 2])) (some (.int 1)) (some (.ref 4)) (some (.int 5)) e11 e12 e13 e14 vs b (c + ((3 : Nat) : Int)) [.lst [], .lst [.int 1, .int 0, .int 2], .lst [.int 3, .int 1, .int 1, .int 1, .int 1, .int 2]] hv (by omega) (by omega)
    exact ⟨ws, _, [some (.int 3), some (.int 1), some (.ref 2), some (.ref 3), some (.tup [.int 0, .int 1, .int 2]), some (.int 1), some (.ref 4), some (.int 5), x11, x12, x13, x14], _, _, _, hw, (by omega : (0 : Int) ≤ c + ((3 : Nat) : Int) + 1), by omega, rfl, (seq_nx a2).trans ((seq_nx a3).trans ((sA_0_3_1_102 _ sc t e7 e8 e9 e10 e11 e12 e13 e14 _ _).trans ht))⟩
  · obtain ⟨ws, x11, x12, x13, x14, hw, ht⟩ := tail_3_1 sc t (some (.ref 2)) (some (.ref 3)) (some (.tup [.int 0, .int 1, .int 2])) (some (.int 1)) (some (.ref 4)) (some (.int 5)) e11 e12 e13 e14 vs b (c + ((3 : Nat) : Int)) [.lst [], .lst [.int 1, .int 2, .int 0], .lst [.int 3, .int 1, .int 1, .int 1, .int 1, .int 2]] hv (by omega) (by omega)
    exact ⟨ws, _, [some (.int 3), some (.int 1), some (.ref 2), some (.ref 3), some (.tup [.int 0, .int 1, .int 2]), some (.int 1), some (.ref 4), some (.int 5), x11, x12, x13, x14], _, _, _, hw, (by omega : (0 : Int) ≤ c + ((3 : Nat) : Int) + 1), by omega, rfl, (seq_nx a2).trans ((seq_nx a3).trans ((sA_0_3_1_120 _ sc t e7 e8 e9 e10 e11 e12 e13 e14 _ _).trans ht))⟩
  · obtain ⟨ws, x11, x12, x13, x14, hw, ht⟩ := tail_3_1 sc t (some (.ref 2)) (some (.ref 3)) (some (.tup [.int 0, .int 1, .int 2])) (some (.int 1)) (some (.ref 4)) (some (.int 5)) e11 e12 e13 e14 vs b (c + ((3 : Nat) : Int)) [.lst [], .lst [.int 2, .int 0, .int 1], .lst [.int 3, .int 1, .int 1, .int 1, .int 1, .int 2]] hv (by omega) (by omega)
    exact ⟨ws, _, [some (.int 3), some (.int 1), some (.ref 2), some (.ref 3), some (.tup [.int 0, .int 1, .int 2]), some (.int 1), some (.ref 4), some (.int 5), x11, x12, x13, x14], _, _, _, hw, (by omega : (0 : Int) ≤ c + ((3 : Nat) : Int) + 1), by omega, rfl, (seq_nx a2).trans ((seq_nx a3).trans ((sA_0_3_1_201 _ sc t e7 e8 e9 e10 e11 e12 e13 e14 _ _).trans ht))⟩
  · obtain ⟨ws, x11, x12, x13, x14, hw, ht⟩ := tail_3_1 sc t (some (.ref 2)) (some (.ref 3)) (some (.tup [.int 0, .int 1, .int 2])) (some (.int 1)) (some (.ref 4)) (some (.int 5)) e11 e12 e13 e14 vs b (c + ((3 : Nat) : Int)) [.lst [], .lst [.int 2, .int 1, .int 0], .lst [.int 3, .int 1, .int 1, .int 1, .int 1, .int 2]] hv (by omega) (by omega)
    exact ⟨ws, _, [some (.int 3), some (.int 1), some (.ref 2), some (.ref 3), some (.tup [.int 0, .int 1, .int 2]), some (.int 1), some (.ref 4), some (.int 5), x11, x12, x13, x14], _, _, _, hw, (by omega : (0 : Int) ≤ c + ((3 : Nat) : Int) + 1), by omega, rfl, (seq_nx a2).trans ((seq_nx a3).trans ((sA_0_3_1_210 _ sc t e7 e8 e9 e10 e11 e12 e13 e14 _ _).trans ht))⟩
theorem restB_0_3_2 (sc t e5 e6 e7 e8 e9 e10 e11 e12 e13 e14 : Option D) (us : List Int) (b c : Int) (hu : us.length ≤ 100) (c1 : 0 ≤ c) (c2 : c ≤ 800) : ∃ (vs : List Int) (d : Int) (xs : List (Option D)) (P1 P2 P3 : D), vs.length ≤ 100 ∧ 0 ≤ d ∧ d ≤ c + 10 ∧ xs.length = 12 ∧
    (sSeq s_law_2 (sSeq s_law_3 (sSeq s_law_4 (sSeq s_law_5 (sSeq s_law_6 (sSeq s_law_7 (sSeq s_law_8 (sSeq s_law_9 (sSeq s_law_10 (sSeq s_law_11 s_law_12)))))))))) [sc, some (.ref 1), t, some (.int 3), some (.int 2), e5, e6, e7, e8, e9, e10, e11, e12, e13, e14] (dk us b c []) = .nx (sc :: some (.ref 1) :: t :: xs) (dk vs b d [P1, P2, P3]) := by
  have a2 : s_law_2 [sc, some (.ref 1), t, some (.int 3), some (.int 2), e5, e6, e7, e8, e9, e10, e11, e12, e13, e14] (dk us b c []) = .nx [sc, some (.ref 1), t, some (.int 3), some (.int 2), some (.ref 2), some (.ref 3), e7, e8, e9, e10, e11, e12, e13, e14] (dk us b c ([] ++ [.lst (([0, 1, 2] : List Int).map D.int), .lst (([] : List Int).map D.int)])) := by kernel_rfl
  obtain ⟨vs, ps, hv, hp, hl⟩ := loop3 (ρ := [sc, some (.ref 1), t, some (.int 3), some (.int 2), some (.ref 2), some (.ref 3), e7, e8, e9, e10, e11, e12, e13, e14]) (pre := []) (b := b) rfl rfl rfl 3 FUEL [0, 1, 2] [] us c rfl (by decide) (by decide) (by decide) hu c1 (by omega)
  have a3 : s_law_3 [sc, some (.ref 1), t, some (.int 3), some (.int 2), some (.ref 2), some (.ref 3), e7, e8, e9, e10, e11, e12, e13, e14] (dk us b c ([] ++ [.lst (([0, 1, 2] : List Int).map D.int), .lst (([] : List Int).map D.int)])) = .nx [sc, some (.ref 1), t, some (.int 3), some (.int 2), some (.ref 2), some (.ref 3), e7, e8, e9, e10, e11, e12, e13, e14] (dk vs b (c + ((3 : Nat) : Int)) ([] ++ [.lst [], .lst ((([] : List Int) ++ ps).map D.int)])) := hl
  have ho : orders 3 [0, 1, 2] = [[0, 1, 2], [0, 2, 1], [1, 0, 2], [1, 2, 0], [2, 0, 1], [2, 1, 0]] := by kernel_rfl
  rw [ho] at hp
  simp only [List.mem_cons, List.not_mem_nil, or_false] at hp
  obtain rfl | rfl | rfl | rfl | rfl | rfl := hp
  · obtain ⟨ws, x11, x12, x13, x14, hw, ht⟩ := tail_3_2 sc t (some (.ref 2)) (some (.ref 3)) (some (.tup [.int 0, .int 1, .int 2])) (some (.int 8)) (some (.ref 4)) (some (.int 5)) e11 e12 e13 e14 vs b (c + ((3 : Nat) : Int)) [.lst [], .lst [.int 0, .int 1, .int 2], .lst [.int 6, .int 8, .int 8, .int 4, .int 4, .int 4]] hv (by omega) (by omega)
    exact ⟨ws, _, [some (.int 3), some (.int 2), some (.ref 2), some (.ref 3), some (.tup [.int 0, .int 1, .int 2]), some (.int 8), some (.ref 4), some (.int 5), x11, x12, x13, x14], _, _, _, hw, (by omega : (0 : Int) ≤ c + ((3 : Nat) : Int) + 1), by omega, rfl, (seq_nx a2).trans ((seq_nx a3).trans ((sA_0_3_2_012 _ sc t e7 e8 e9 e10 e11 e12 e13 e14 _ _).trans ht))⟩
  · obtain ⟨ws, x11, x12, x13, x14, hw, ht⟩ := tail_3_2 sc t (some (.ref 2)) (some (.ref 3)) (some (.tup [.int 0, .int 1, .int 2])) (some (.int 8)) (some (.ref 4)) (some (.int 5)) e11 e12 e13 e14 vs b (c + ((3 : Nat) : Int)) [.lst [], .lst [.int 0, .int 2, .int 1], .lst [.int 6, .int 8, .int 8, .int 4, .int 4, .int 4]] hv (by omega) (by omega)
    exact ⟨ws, _, [some (.int 3), some (.int 2), some (.ref 2), some (.ref 3), some (.tup [.int 0, .int 1, .int 2]), some (.int 8), some (.ref 4), some (.int 5), x11, x12, x13, x14], _, _, _, hw, (by omega : (0 : Int) ≤ c + ((3 : Nat) : Int) + 1), by omega, rfl, (seq_nx a2).trans ((seq_nx a3).trans ((sA_0_3_2_021 _ sc t e7 e8 e9 e10 e11 e12 e13 e14 _ _).trans ht))⟩
  · obtain ⟨ws, x11, x12, x13, x14, hw, ht⟩ := tail_3_2 sc t (some (.ref 2)) (some (.ref 3)) (some (.tup [.int 0, .int 1, .int 2])) (some (.int 8)) (some (.ref 4)) (some (.int 5)) e11 e12 e13 e14 vs b (c + ((3 : Nat) : Int)) [.lst [], .lst [.int 1, .int 0, .int 2], .lst [.int 6, .int 8, .int 8, .int 4, .int 4, .int 4]] hv (by omega) (by omega)
    exact ⟨ws, _, [some (.int 3), some (.int 2), some (.ref 2), some (.ref 3), some (.tup [.int 0, .int 1, .int 2]), some (.int 8), some (.ref 4), some (.int 5), x11, x12, x13, x14], _, _, _, hw, (by omega : (0 : Int) ≤ c + ((3 : Nat) : Int) + 1), by omega, rfl, (seq_nx a2).trans ((seq_nx a3).trans ((sA_0_3_2_102 _ sc t e7 e8 e9 e10 e11 e12 e13 e14 _ _).trans ht))⟩
  · obtain ⟨ws, x11, x12, x13, x14, hw, ht⟩ := tail_3_2 sc t (some (.ref 2)) (some (.ref 3)) (some (.tup [.int 0, .int 1, .int 2])) (some (.int 8)) (some (.ref 4)) (some (.int 5)) e11 e12 e13 e14 vs b (c + ((3 : Nat) : Int)) [.lst [], .lst [.int 1, .int 2, .int 0], .lst [.int 6, .int 8, .int 8, .int 4, .int 4, .int 4]] hv (by omega) (by omega)
    exact ⟨ws, _, [some (.int 3), some (.int 2), some (.ref 2), some (.ref 3), some (.tup [.int 0, .int 1, .int 2]), some (.int 8), some (.ref 4), some (.int 5), x11, x12, x13, x14], _, _, _, hw, (by omega : (0 : Int) ≤ c + ((3 : Nat) : Int) + 1), by omega, rfl, (seq_nx a2).trans ((seq_nx a3).trans ((sA_0_3_2_120 _ sc t e7 e8 e9 e10 e11 e12 e13 e14 _ _).trans ht))⟩
  · obtain ⟨ws, x11, x12, x13, x14, hw, ht⟩ := tail_3_2 sc t (some (.ref 2)) (some (.ref 3)) (some (.tup [.int 0, .int 1, .int 2])) (some (.int 8)) (some (.ref 4)) (some (.int 5)) e11 e12 e13 e14 vs b (c + ((3 : Nat) : Int)) [.lst [], .lst [.int 2, .int 0, .int 1], .lst [.int 6, .int 8, .int 8, .int 4, .int 4, .int 4]] hv (by omega) (by omega)
    exact ⟨ws, _, [some (.int 3), some (.int 2), some (.ref 2), some (.ref 3), some (.tup [.int 0, .int 1, .int 2]), some (.int 8), some (.ref 4), some (.int 5), x11, x12, x13, x14], _, _, _, hw, (by omega : (0 : Int) ≤ c + ((3 : Nat) : Int) + 1), by omega, rfl, (seq_nx a2).trans ((seq_nx a3).trans ((sA_0_3_2_201 _ sc t e7 e8 e9 e10 e11 e12 e13 e14 _ _).trans ht))⟩
  · obtain ⟨ws, x11, x12, x13, x14, hw, ht⟩ := tail_3_2 sc t (some (.ref 2)) (some (.ref 3)) (some (.tup [.int 0, .int 1, .int 2])) (some (.int 8)) (some (.ref 4)) (some (.int 5)) e11 e12 e13 e14 vs b (c + ((3 : Nat) : Int)) [.lst [], .lst [.int 2, .int 1, .int 0], .lst [.int 6, .int 8, .int 8, .int 4, .int 4, .int 4]] hv (by omega) (by omega)
    exact ⟨ws, _, [some (.int 3), some (.int 2), some (.ref 2), some (.ref 3), some (.tup [.int 0, .int 1, .int 2]), some (.int 8), some (.ref 4), some (.int 5), x11, x12, x13, x14], _, _, _, hw, (by omega : (0 : Int) ≤ c + ((3 : Nat) : Int) + 1), by omega, rfl, (seq_nx a2).trans ((seq_nx a3).trans ((sA_0_3_2_210 _ sc t e7 e8 e9 e10 e11 e12 e13 e14 _ _).trans ht))⟩
theorem restA_0_3 (sc t e4 e5 e6 e7 e8 e9 e10 e11 e12 e13 e14 : Option D) (us : List Int) (b c : Int) (hu : us.length ≤ 100) (c1 : 0 ≤ c) (c2 : c ≤ 700) : ∃ (vs : List Int) (d : Int) (xs : List (Option D)) (P1 P2 P3 : D), vs.length ≤ 100 ∧ 0 ≤ d ∧ d ≤ c + 20 ∧ xs.length = 12 ∧
    (sSeq s_law_1 (sSeq s_law_2 (sSeq s_law_3 (sSeq s_law_4 (sSeq s_law_5 (sSeq s_law_6 (sSeq s_law_7 (sSeq s_law_8 (sSeq s_law_9 (sSeq s_law_10 (sSeq s_law_11 s_law_12))))))))))) [sc, some (.ref 1), t, some (.int 3), e4, e5, e6, e7, e8, e9, e10, e11, e12, e13, e14] (dk us b c []) = .nx (sc :: some (.ref 1) :: t :: xs) (dk vs b d [P1, P2, P3]) := by
  obtain ⟨r, us1, r1, r2, hu1, hd⟩ := draw us b c 2 [] (by decide) (by decide) c1 (by omega) hu
  have h1 : s_law_1 [sc, some (.ref 1), t, some (.int 3), e4, e5, e6, e7, e8, e9, e10, e11, e12, e13, e14] (dk us b c []) = .nx [sc, some (.ref 1), t, some (.int 3), some (.int (1 + r)), e5, e6, e7, e8, e9, e10, e11, e12, e13, e14] (dk us1 b (c + 1) []) := drawS rfl (by kernel_rfl) hd
  obtain rfl | rfl : r = 0 ∨ r = 1 := by omega
  · obtain ⟨vs, d, xs, P1, P2, P3, g1, g2, g3, g4, g5⟩ := restB_0_3_1 sc t e5 e6 e7 e8 e9 e10 e11 e12 e13 e14 us1 b (c + 1) hu1 (by omega) (by omega)
    exact ⟨vs, d, xs, P1, P2, P3, g1, g2, by omega, g4, (seq_nx h1).trans g5⟩
  · obtain ⟨vs, d, xs, P1, P2, P3, g1, g2, g3, g4, g5⟩ := restB_0_3_2 sc t e5 e6 e7 e8 e9 e10 e11 e12 e13 e14 us1 b (c + 1) hu1 (by omega) (by omega)
    exact ⟨vs, d, xs, P1, P2, P3, g1, g2, by omega, g4, (seq_nx h1).trans g5⟩
theorem turn_0 (sc t e3 e4 e5 e6 e7 e8 e9 e10 e11 e12 e13 e14 : Option D) (us : List Int) (b c : Int) (hu : us.length ≤ 100) (c1 : 0 ≤ c) (c2 : c ≤ 600) : ∃ (vs : List Int) (d : Int) (xs : List (Option D)) (P1 P2 P3 : D), vs.length ≤ 100 ∧ 0 ≤ d ∧ d ≤ c + 30 ∧ xs.length = 12 ∧
    (sSeq s_law_0 (sSeq s_law_1 (sSeq s_law_2 (sSeq s_law_3 (sSeq s_law_4 (sSeq s_law_5 (sSeq s_law_6 (sSeq s_law_7 (sSeq s_law_8 (sSeq s_law_9 (sSeq s_law_10 (sSeq s_law_11 s_law_12)))))))))))) [sc, some (.ref 1), t, e3, e4, e5, e6, e7, e8, e9, e10, e11, e12, e13, e14] (dk us b c []) = .nx (sc :: some (.ref 1) :: t :: xs) (dk vs b d [P1, P2, P3]) := by
  obtain ⟨r, us1, r1, r2, hu1, hd⟩ := draw us b c 3 [] (by decide) (by decide) c1 (by omega) hu
  have h1 : s_law_0 [sc, some (.ref 1), t, e3, e4, e5, e6, e7, e8, e9, e10, e11, e12, e13, e14] (dk us b c []) = .nx [sc, some (.ref 1), t, some (.int (1 + r)), e4, e5, e6, e7, e8, e9, e10, e11, e12, e13, e14] (dk us1 b (c + 1) []) := drawS rfl rfl hd
  obtain rfl | rfl | rfl : r = 0 ∨ r = 1 ∨ r = 2 := by omega
  · obtain ⟨vs, d, xs, P1, P2, P3, g1, g2, g3, g4, g5⟩ := restA_0_1 sc t e4 e5 e6 e7 e8 e9 e10 e11 e12 e13 e14 us1 b (c + 1) hu1 (by omega) (by omega)
    exact ⟨vs, d, xs, P1, P2, P3, g1, g2, by omega, g4, (seq_nx h1).trans g5⟩
  · obtain ⟨vs, d, xs, P1, P2, P3, g1, g2, g3, g4, g5⟩ := restA_0_2 sc t e4 e5 e6 e7 e8 e9 e10 e11 e12 e13 e14 us1 b (c + 1) hu1 (by omega) (by omega)
    exact ⟨vs, d, xs, P1, P2, P3, g1, g2, by omega, g4, (seq_nx h1).trans g5⟩
  · obtain ⟨vs, d, xs, P1, P2, P3, g1, g2, g3, g4, g5⟩ := restA_0_3 sc t e4 e5 e6 e7 e8 e9 e10 e11 e12 e13 e14 us1 b (c + 1) hu1 (by omega) (by omega)
    exact ⟨vs, d, xs, P1, P2, P3, g1, g2, by omega, g4, (seq_nx h1).trans g5⟩
theorem restB_1_1_1 (sc t e5 e6 e7 e8 e9 e10 e11 e12 e13 e14 : Option D) (us : List Int) (b c : Int) (x y z : D) (hu : us.length ≤ 100) (c1 : 0 ≤ c) (c2 : c ≤ 800) : ∃ (vs : List Int) (d : Int) (xs : List (Option D)) (P1 P2 P3 : D), vs.length ≤ 100 ∧ 0 ≤ d ∧ d ≤ c + 10 ∧ xs.length = 12 ∧
    (sSeq s_law_2 (sSeq s_law_3 (sSeq s_law_4 (sSeq s_law_5 (sSeq s_law_6 (sSeq s_law_7 (sSeq s_law_8 (sSeq s_law_9 (sSeq s_law_10 (sSeq s_law_11 s_law_12)))))))))) [sc, some (.ref 1), t, some (.int 1), some (.int 1), e5, e6, e7, e8, e9, e10, e11, e12, e13, e14] (dk us b c [x, y, z]) = .nx (sc :: some (.ref 1) :: t :: xs) (dk vs b d [x, y, z, P1, P2, P3]) := by
  have a2 : s_law_2 [sc, some (.ref 1), t, some (.int 1), some (.int 1), e5, e6, e7, e8, e9, e10, e11, e12, e13, e14] (dk us b c [x, y, z]) = .nx [sc, some (.ref 1), t, some (.int 1), some (.int 1), some (.ref 5), some (.ref 6), e7, e8, e9, e10, e11, e12, e13, e14] (dk us b c ([x, y, z] ++ [.lst (([0] : List Int).map D.int), .lst (([] : List Int).map D.int)])) := by kernel_rfl
  obtain ⟨vs, ps, hv, hp, hl⟩ := loop3 (ρ := [sc, some (.ref 1), t, some (.int 1), some (.int 1), some (.ref 5), some (.ref 6), e7, e8, e9, e10, e11, e12, e13, e14]) (pre := [x, y, z]) (b := b) rfl rfl rfl 1 FUEL [0] [] us c rfl (by decide) (by decide) (by decide) hu c1 (by omega)
  have a3 : s_law_3 [sc, some (.ref 1), t, some (.int 1), some (.int 1), some (.ref 5), some (.ref 6), e7, e8, e9, e10, e11, e12, e13, e14] (dk us b c ([x, y, z] ++ [.lst (([0] : List Int).map D.int), .lst (([] : List Int).map D.int)])) = .nx [sc, some (.ref 1), t, some (.int 1), some (.int 1), some (.ref 5), some (.ref 6), e7, e8, e9, e10, e11, e12, e13, e14] (dk vs b (c + ((1 : Nat) : Int)) ([x, y, z] ++ [.lst [], .lst ((([] : List Int) ++ ps).map D.int)])) := hl
  have ho : orders 1 [0] = [[0]] := by kernel_rfl
  rw [ho] at hp
  simp only [List.mem_cons, List.not_mem_nil, or_false] at hp
  obtain rfl := hp
  · obtain ⟨ws, x11, x12, x13, x14, hw, ht⟩ := tail_1_1 sc t (some (.ref 5)) (some (.ref 6)) (some (.tup [.int 0])) (some (.int 1)) (some (.ref 7)) (some (.int 5)) e11 e12 e13 e14 vs b (c + ((1 : Nat) : Int)) [x, y, z, .lst [], .lst [.int 0], .lst [.int 1, .int 1, .int 1, .int 1, .int 1, .int 1]] hv (by omega) (by omega)
    exact ⟨ws, _, [some (.int 1), some (.int 1), some (.ref 5), some (.ref 6), some (.tup [.int 0]), some (.int 1), some (.ref 7), some (.int 5), x11, x12, x13, x14], _, _, _, hw, (by omega : (0 : Int) ≤ c + ((1 : Nat) : Int) + 1), by omega, rfl, (seq_nx a2).trans ((seq_nx a3).trans ((sA_1_1_1_0 _ sc t e7 e8 e9 e10 e11 e12 e13 e14 _ _ x y z).trans ht))⟩
theorem restB_1_1_2 (sc t e5 e6 e7 e8 e9 e10 e11 e12 e13 e14 : Option D) (us : List Int) (b c : Int) (x y z : D) (hu : us.length ≤ 100) (c1 : 0 ≤ c) (c2 : c ≤ 800) : ∃ (vs : List Int) (d : Int) (xs : List (Option D)) (P1 P2 P3 : D), vs.length ≤ 100 ∧ 0 ≤ d ∧ d ≤ c + 10 ∧ xs.length = 12 ∧
    (sSeq s_law_2 (sSeq s_law_3 (sSeq s_law_4 (sSeq s_law_5 (sSeq s_law_6 (sSeq s_law_7 (sSeq s_law_8 (sSeq s_law_9 (sSeq s_law_10 (sSeq s_law_11 s_law_12)))))))))) [sc, some (.ref 1), t, some (.int 1), some (.int 2), e5, e6, e7, e8, e9, e10, e11, e12, e13, e14] (dk us b c [x, y, z]) = .nx (sc :: some (.ref 1) :: t :: xs) (dk vs b d [x, y, z, P1, P2, P3]) := by
  have a2 : s_law_2 [sc, some (.ref 1), t, some (.int 1), some (.int 2), e5, e6, e7, e8, e9, e10, e11, e12, e13, e14] (dk us b c [x, y, z]) = .nx [sc, some (.ref 1), t, some (.int 1), some (.int 2), some (.ref 5), some (.ref 6), e7, e8, e9, e10, e11, e12, e13, e14] (dk us b c ([x, y, z] ++ [.lst (([0] : List Int).map D.int), .lst (([] : List Int).map D.int)])) := by kernel_rfl
  obtain ⟨vs, ps, hv, hp, hl⟩ := loop3 (ρ := [sc, some (.ref 1), t, some (.int 1), some (.int 2), some (.ref 5), some (.ref 6), e7, e8, e9, e10, e11, e12, e13, e14]) (pre := [x, y, z]) (b := b) rfl rfl rfl 1 FUEL [0] [] us c rfl (by decide) (by decide) (by decide) hu c1 (by omega)
  have a3 : s_law_3 [sc, some (.ref 1), t, some (.int 1), some (.int 2), some (.ref 5), some (.ref 6), e7, e8, e9, e10, e11, e12, e13, e14] (dk us b c ([x, y, z] ++ [.lst (([0] : List Int).map D.int), .lst (([] : List Int).map D.int)])) = .nx [sc, some (.ref 1), t, some (.int 1), some (.int 2), some (.ref 5), some (.ref 6), e7, e8, e9, e10, e11, e12, e13, e14] (dk vs b (c + ((1 : Nat) : Int)) ([x, y, z] ++ [.lst [], .lst ((([] : List Int) ++ ps).map D.int)])) := hl
  have ho : orders 1 [0] = [[0]] := by kernel_rfl
  rw [ho] at hp
  simp only [List.mem_cons, List.not_mem_nil, or_false] at hp
  obtain rfl := hp
  · obtain ⟨ws, x11, x12, x13, x14, hw, ht⟩ := tail_1_2 sc t (some (.ref 5)) (some (.ref 6)) (some (.tup [.int 0])) (some (.int 2)) (some (.ref 7)) (some (.int 5)) e11 e12 e13 e14 vs b (c + ((1 : Nat) : Int)) [x, y, z, .lst [], .lst [.int 0], .lst [.int 2, .int 2, .int 2, .int 2, .int 2, .int 2]] hv (by omega) (by omega)
    exact ⟨ws, _, [some (.int 1), some (.int 2), some (.ref 5), some (.ref 6), some (.tup [.int 0]), some (.int 2), some (.ref 7), some (.int 5), x11, x12, x13, x14], _, _, _, hw, (by omega : (0 : Int) ≤ c + ((1 : Nat) : Int) + 1), by omega, rfl, (seq_nx a2).trans ((seq_nx a3).trans ((sA_1_1_2_0 _ sc t e7 e8 e9 e10 e11 e12 e13 e14 _ _ x y z).trans ht))⟩
theorem restA_1_1 (sc t e4 e5 e6 e7 e8 e9 e10 e11 e12 e13 e14 : Option D) (us : List Int) (b c : Int) (x y z : D) (hu : us.length ≤ 100) (c1 : 0 ≤ c) (c2 : c ≤ 700) : ∃ (vs : List Int) (d : Int) (xs : List (Option D)) (P1 P2 P3 : D), vs.length ≤ 100 ∧ 0 ≤ d ∧ d ≤ c + 20 ∧ xs.length = 12 ∧
    (sSeq s_law_1 (sSeq s_law_2 (sSeq s_law_3 (sSeq s_law_4 (sSeq s_law_5 (sSeq s_law_6 (sSeq s_law_7 (sSeq s_law_8 (sSeq s_law_9 (sSeq s_law_10 (sSeq s_law_11 s_law_12))))))))))) [sc, some (.ref 1), t, some (.int 1), e4, e5, e6, e7, e8, e9, e10, e11, e12, e13, e14] (dk us b c [x, y, z]) = .nx (sc :: some (.ref 1) :: t :: xs) (dk vs b d [x, y, z, P1, P2, P3]) := by
  obtain ⟨r, us1, r1, r2, hu1, hd⟩ := draw us b c 2 [x, y, z] (by decide) (by decide) c1 (by omega) hu
  have h1 : s_law_1 [sc, some (.ref 1), t, some (.int 1), e4, e5, e6, e7, e8, e9, e10, e11, e12, e13, e14] (dk us b c [x, y, z]) = .nx [sc, some (.ref 1), t, some (.int 1), some (.int (1 + r)), e5, e6, e7, e8, e9, e10, e11, e12, e13, e14] (dk us1 b (c + 1) [x, y, z]) := drawS rfl (by kernel_rfl) hd
  obtain rfl | rfl : r = 0 ∨ r = 1 := by omega
  · obtain ⟨vs, d, xs, P1, P2, P3, g1, g2, g3, g4, g5⟩ := restB_1_1_1 sc t e5 e6 e7 e8 e9 e10 e11 e12 e13 e14 us1 b (c + 1) x y z hu1 (by omega) (by omega)
    exact ⟨vs, d, xs, P1, P2, P3, g1, g2, by omega, g4, (seq_nx h1).trans g5⟩
  · obtain ⟨vs, d, xs, P1, P2, P3, g1, g2, g3, g4, g5⟩ := restB_1_1_2 sc t e5 e6 e7 e8 e9 e10 e11 e12 e13 e14 us1 b (c + 1) x y z hu1 (by omega) (by omega)
    exact ⟨vs, d, xs, P1, P2, P3, g1, g2, by omega, g4, (seq_nx h1).trans g5⟩
theorem restB_1_2_1 (sc t e5 e6 e7 e8 e9 e10 e11 e12 e13 e14 : Option D) (us : List Int) (b c : Int) (x y z : D) (hu : us.length ≤ 100) (c1 : 0 ≤ c) (c2 : c ≤ 800) : ∃ (vs : List Int) (d : Int) (xs : List (Option D)) (P1 P2 P3 : D), vs.length ≤ 100 ∧ 0 ≤ d ∧ d ≤ c + 10 ∧ xs.length = 12 ∧
    (sSeq s_law_2 (sSeq s_law_3 (sSeq s_law_4 (sSeq s_law_5 (sSeq s_law_6 (sSeq s_law_7 (sSeq s_law_8 (sSeq s_law_9 (sSeq s_law_10 (sSeq s_law_11 s_law_12)))))))))) [sc, some (.ref 1), t, some (.int 2), some (.int 1), e5, e6, e7, e8, e9, e10, e11, e12, e13, e14] (dk us b c [x, y, z]) = .nx (sc :: some (.ref 1) :: t :: xs) (dk vs b d [x, y, z, P1, P2, P3]) := by
  have a2 : s_law_2 [sc, some (.ref 1), t, some (.int 2), some (.int 1), e5, e6, e7, e8, e9, e10, e11, e12, e13, e14] (dk us b c [x, y, z]) = .nx [sc, some (.ref 1), t, some (.int 2), some (.int 1), some (.ref 5), some (.ref 6), e7, e8, e9, e10, e11, e12, e13, e14] (dk us b c ([x, y, z] ++ [.lst (([0, 1] : List Int).map D.int), .lst (([] : List Int).map D.int)])) := by kernel_rfl
  obtain ⟨vs, ps, hv, hp, hl⟩ := loop3 (ρ := [sc, some (.ref 1), t, some (.int 2), some (.int 1), some (.ref 5), some (.ref 6), e7, e8, e9, e10, e11, e12, e13, e14]) (pre := [x, y, z]) (b := b) rfl rfl rfl 2 FUEL [0, 1] [] us c rfl (by decide) (by decide) (by decide) hu c1 (by omega)
  have a3 : s_law_3 [sc, some (.ref 1), t, some (.int 2), some (.int 1), some (.ref 5), some (.ref 6), e7, e8, e9, e10, e11, e12, e13, e14] (dk us b c ([x, y, z] ++ [.lst (([0, 1] : List Int).map D.int), .lst (([] : List Int).map D.int)])) = .nx [sc, some (.ref 1), t, some (.int 2), some (.int 1), some (.ref 5), some (.ref 6), e7, e8, e9, e10, e11, e12, e13, e14] (dk vs b (c + ((2 : Nat) : Int)) ([x, y, z] ++ [.lst [], .lst ((([] : List Int) ++ ps).map D.int)])) := hl
  have ho : orders 2 [0, 1] = [[0, 1], [1, 0]] := by kernel_rfl
  rw [ho] at hp
  simp only [List.mem_cons, List.not_mem_nil, or_false] at hp
  obtain rfl | rfl := hp
  · obtain ⟨ws, x11, x12, x13, x14, hw, ht⟩ := tail_2_1 sc t (some (.ref 5)) (some (.ref 6)) (some (.tup [.int 0, .int 1])) (some (.int 1)) (some (.ref 7)) (some (.int 5)) e11 e12 e13 e14 vs b (c + ((2 : Nat) : Int)) [x, y, z, .lst [], .lst [.int 0, .int 1], .lst [.int 2, .int 1, .int 1, .int 1, .int 1, .int 2]] hv (by omega) (by omega)
    exact ⟨ws, _, [some (.int 2), some (.int 1), some (.ref 5), some (.ref 6), some (.tup [.int 0, .int 1]), some (.int 1), some (.ref 7), some (.int 5), x11, x12, x13, x14], _, _, _, hw, (by omega : (0 : Int) ≤ c + ((2 : Nat) : Int) + 1), by omega, rfl, (seq_nx a2).trans ((seq_nx a3).trans ((sA_1_2_1_01 _ sc t e7 e8 e9 e10 e11 e12 e13 e14 _ _ x y z).trans ht))⟩
  · obtain ⟨ws, x11, x12, x13, x14, hw, ht⟩ := tail_2_1 sc t (some (.ref 5)) (some (.ref 6)) (some (.tup [.int 0, .int 1])) (some (.int 1)) (some (.ref 7)) (some (.int 5)) e11 e12 e13 e14 vs b (c + ((2 : Nat) : Int)) [x, y, z, .lst [], .lst [.int 1, .int 0], .lst [.int 2, .int 1, .int 1, .int 1, .int 1, .int 2]] hv (by omega) (by omega)
    exact ⟨ws, _, [some (.int 2), some (.int 1), some (.ref 5), some (.ref 6), some (.tup [.int 0, .int 1]), some (.int 1), some (.ref 7), some (.int 5), x11, x12, x13, x14], _, _, _, hw, (by omega : (0 : Int) ≤ c + ((2 : Nat) : Int) + 1), by omega, rfl, (seq_nx a2).trans ((seq_nx a3).trans ((sA_1_2_1_10 _ sc t e7 e8 e9 e10 e11 e12 e13 e14 _ _ x y z).trans ht))⟩
theorem restB_1_2_2 (sc t e5 e6 e7 e8 e9 e10 e11 e12 e13 e14 : Option D) (us : List Int) (b c : Int) (x y z : D) (hu : us.length ≤ 100) (c1 : 0 ≤ c) (c2 : c ≤ 800) : ∃ (vs : List Int) (d : Int) (xs : List (Option D)) (P1 P2 P3 : D), vs.length ≤ 100 ∧ 0 ≤ d ∧ d ≤ c + 10 ∧ xs.length = 12 ∧
    (sSeq s_law_2 (sSeq s_law_3 (sSeq s_law_4 (sSeq s_law_5 (sSeq s_law_6 (sSeq s_law_7 (sSeq s_law_8 (sSeq s_law_9 (sSeq s_law_10 (sSeq s_law_11 s_law_12)))))))))) [sc, some (.ref 1), t, some (.int 2), some (.int 2), e5, e6, e7, e8, e9, e10, e11, e12, e13, e14] (dk us b c [x, y, z]) = .nx (sc :: some (.ref 1) :: t :: xs) (dk vs b d [x, y, z, P1, P2, P3]) := by
  have a2 : s_law_2 [sc, some (.ref 1), t, some (.int 2), some (.int 2), e5, e6, e7, e8, e9, e10, e11, e12, e13, e14] (dk us b c [x, y, z]) = .nx [sc, some (.ref 1), t, some (.int 2), some (.int 2), some (.ref 5), some (.ref 6), e7, e8, e9, e10, e11, e12, e13, e14] (dk us b c ([x, y, z] ++ [.lst (([0, 1] : List Int).map D.int), .lst (([] : List Int).map D.int)])) := by kernel_rfl
  obtain ⟨vs, ps, hv, hp, hl⟩ := loop3 (ρ := [sc, some (.ref 1), t, some (.int 2), some (.int 2), some (.ref 5), some (.ref 6), e7, e8, e9, e10, e11, e12, e13, e14]) (pre := [x, y, z]) (b := b) rfl rfl rfl 2 FUEL [0, 1] [] us c rfl (by decide) (by decide) (by decide) hu c1 (by omega)
  have a3 : s_law_3 [sc, some (.ref 1), t, some (.int 2), some (.int 2), some (.ref 5), some (.ref 6), e7, e8, e9, e10, e11, e12, e13, e14] (dk us b c ([x, y, z] ++ [.lst (([0, 1] : List Int).map D.int), .lst (([] : List Int).map D.int)])) = .nx [sc, some (.ref 1), t, some (.int 2), some (.int 2), some (.ref 5), some (.ref 6), e7, e8, e9, e10, e11, e12, e13, e14] (dk vs b (c + ((2 : Nat) : Int)) ([x, y, z] ++ [.lst [], .lst ((([] : List Int) ++ ps).map D.int)])) := hl
  have ho : orders 2 [0, 1] = [[0, 1], [1, 0]] := by kernel_rfl
  rw [ho] at hp
  simp only [List.mem_cons, List.not_mem_nil, or_false] at hp
  obtain rfl | rfl := hp
  · obtain ⟨ws, x11, x12, x13, x14, hw, ht⟩ := tail_2_2 sc t (some (.ref 5)) (some (.ref 6)) (some (.tup [.int 0, .int 1])) (some (.int 4)) (some (.ref 7)) (some (.int 5)) e11 e12 e13 e14 vs b (c + ((2 : Nat) : Int)) [x, y, z, .lst [], .lst [.int 0, .int 1], .lst [.int 4, .int 4, .int 4, .int 3, .int 3, .int 4]] hv (by omega) (by omega)
    exact ⟨ws, _, [some (.int 2), some (.int 2), some (.ref 5), some (.ref 6), some (.tup [.int 0, .int 1]), some (.int 4), some (.ref 7), some (.int 5), x11, x12, x13, x14], _, _, _, hw, (by omega : (0 : Int) ≤ c + ((2 : Nat) : Int) + 1), by omega, rfl, (seq_nx a2).trans ((seq_nx a3).trans ((sA_1_2_2_01 _ sc t e7 e8 e9 e10 e11 e12 e13 e14 _ _ x y z).trans ht))⟩
  · obtain ⟨ws, x11, x12, x13, x14, hw, ht⟩ := tail_2_2 sc t (some (.ref 5)) (some (.ref 6)) (some (.tup [.int 0, .int 1])) (some (.int 4)) (some (.ref 7)) (some (.int 5)) e11 e12 e13 e14 vs b (c + ((2 : Nat) : Int)) [x, y, z, .lst [], .lst [.int 1, .int 0], .lst [.int 4, .int 4, .int 4, .int 3, .int 3, .int 4]] hv (by omega) (by omega)
    exact ⟨ws, _, [some (.int 2), some (.int 2), some (.ref 5), some (.ref 6), some (.tup [.int 0, .int 1]), some (.int 4), some (.ref 7), some (.int 5), x11, x12, x13, x14], _, _, _, hw, (by omega : (0 : Int) ≤ c + ((2 : Nat) : Int) + 1), by omega, rfl, (seq_nx a2).trans ((seq_nx a3).trans ((sA_1_2_2_10 _ sc t e7 e8 e9 e10 e11 e12 e13 e14 _ _ x y z).trans ht))⟩
theorem restB_1_2_3 (sc t e5 e6 e7 e8 e9 e10 e11 e12 e13 e14 : Option D) (us : List Int) (b c : Int) (x y z : D) (hu : us.length ≤ 100) (c1 : 0 ≤ c) (c2 : c ≤ 800) : ∃ (vs : List Int) (d : Int) (xs : List (Option D)) (P1 P2 P3 : D), vs.length ≤ 100 ∧ 0 ≤ d ∧ d ≤ c + 10 ∧ xs.length = 12 ∧
    (sSeq s_law_2 (sSeq s_law_3 (sSeq s_law_4 (sSeq s_law_5 (sSeq s_law_6 (sSeq s_law_7 (sSeq s_law_8 (sSeq s_law_9 (sSeq s_law_10 (sSeq s_law_11 s_law_12)))))))))) [sc, some (.ref 1), t, some (.int 2), some (.int 3), e5, e6, e7, e8, e9, e10, e11, e12, e13, e14] (dk us b c [x, y, z]) = .nx (sc :: some (.ref 1) :: t :: xs) (dk vs b d [x, y, z, P1, P2, P3]) := by
  have a2 : s_law_2 [sc, some (.ref 1), t, some (.int 2), some (.int 3), e5, e6, e7, e8, e9, e10, e11, e12, e13, e14] (dk us b c [x, y, z]) = .nx [sc, some (.ref 1), t, some (.int 2), some (.int 3), some (.ref 5), some (.ref 6), e7, e8, e9, e10, e11, e12, e13, e14] (dk us b c ([x, y, z] ++ [.lst (([0, 1] : List Int).map D.int), .lst (([] : List Int).map D.int)])) := by kernel_rfl
  obtain ⟨vs, ps, hv, hp, hl⟩ := loop3 (ρ := [sc, some (.ref 1), t, some (.int 2), some (.int 3), some (.ref 5), some (.ref 6), e7, e8, e9, e10, e11, e12, e13, e14]) (pre := [x, y, z]) (b := b) rfl rfl rfl 2 FUEL [0, 1] [] us c rfl (by decide) (by decide) (by decide) hu c1 (by omega)
  have a3 : s_law_3 [sc, some (.ref 1), t, some (.int 2), some (.int 3), some (.ref 5), some (.ref 6), e7, e8, e9, e10, e11, e12, e13, e14] (dk us b c ([x, y, z] ++ [.lst (([0, 1] : List Int).map D.int), .lst (([] : List Int).map D.int)])) = .nx [sc, some (.ref 1), t, some (.int 2), some (.int 3), some (.ref 5), some (.ref 6), e7, e8, e9, e10, e11, e12, e13, e14] (dk vs b (c + ((2 : Nat) : Int)) ([x, y, z] ++ [.lst [], .lst ((([] : List Int) ++ ps).map D.int)])) := hl
  have ho : orders 2 [0, 1] = [[0, 1], [1, 0]] := by kernel_rfl
  rw [ho] at hp
  simp only [List.mem_cons, List.not_mem_nil, or_false] at hp
  obtain rfl | rfl := hp
  · obtain ⟨ws, x11, x12, x13, x14, hw, ht⟩ := tail_2_3 sc t (some (.ref 5)) (some (.ref 6)) (some (.tup [.int 0, .int 1])) (some (.int 9)) (some (.ref 7)) (some (.int 5)) e11 e12 e13 e14 vs b (c + ((2 : Nat) : Int)) [x, y, z, .lst [], .lst [.int 0, .int 1], .lst [.int 6, .int 9, .int 9, .int 5, .int 5, .int 6]] hv (by omega) (by omega)
    exact ⟨ws, _, [some (.int 2), some (.int 3), some (.ref 5), some (.ref 6), some (.tup [.int 0, .int 1]), some (.int 9), some (.ref 7), some (.int 5), x11, x12, x13, x14], _, _, _, hw, (by omega : (0 : Int) ≤ c + ((2 : Nat) : Int) + 1), by omega, rfl, (seq_nx a2).trans ((seq_nx a3).trans ((sA_1_2_3_01 _ sc t e7 e8 e9 e10 e11 e12 e13 e14 _ _ x y z).trans ht))⟩
  · obtain ⟨ws, x11, x12, x13, x14, hw, ht⟩ := tail_2_3 sc t (some (.ref 5)) (some (.ref 6)) (some (.tup [.int 0, .int 1])) (some (.int 9)) (some (.ref 7)) (some (.int 5)) e11 e12 e13 e14 vs b (c + ((2 : Nat) : Int)) [x, y, z, .lst [], .lst [.int 1, .int 0], .lst [.int 6, .int 9, .int 9, .int 5, .int 5, .int 6]] hv (by omega) (by omega)
    exact ⟨ws, _, [some (.int 2), some (.int 3), some (.ref 5), some (.ref 6), some (.tup [.int 0, .int 1]), some (.int 9), some (.ref 7), some (.int 5), x11, x12, x13, x14], _, _, _, hw, (by omega : (0 : Int) ≤ c + ((2 : Nat) : Int) + 1), by omega, rfl, (seq_nx a2).trans ((seq_nx a3).trans ((sA_1_2_3_10 _ sc t e7 e8 e9 e10 e11 e12 e13 e14 _ _ x y z).trans ht))⟩
theorem restB_1_2_4 (sc t e5 e6 e7 e8 e9 e10 e11 e12 e13 e14 : Option D) (us : List Int) (b c : Int) (x y z : D) (hu : us.length ≤ 100) (c1 : 0 ≤ c) (c2 : c ≤ 800) : ∃ (vs : List Int) (d : Int) (xs : List (Option D)) (P1 P2 P3 : D), vs.length ≤ 100 ∧ 0 ≤ d ∧ d ≤ c + 10 ∧ xs.length = 12 ∧
    (sSeq s_law_2 (sSeq s_law_3 (sSeq s_law_4 (sSeq s_law_5 (sSeq s_law_6 (sSeq s_law_7 (sSeq s_law_8 (sSeq s_law_9 (sSeq s_law_10 (sSeq s_law_11 s_law_12)))))))))) [sc, some (.ref 1), t, some (.int 2), some (.int 4), e5, e6, e7, e8, e9, e10, e11, e12, e13, e14] (dk us b c [x, y, z]) = .nx (sc :: some (.ref 1) :: t :: xs) (dk vs b d [x, y, z, P1, P2, P3]) := by
  have a2 : s_law_2 [sc, some (.ref 1), t, some (.int 2), some (.int 4), e5, e6, e7, e8, e9, e10, e11, e12, e13, e14] (dk us b c [x, y, z]) = .nx [sc, some (.ref 1), t, some (.int 2), some (.int 4), some (.ref 5), some (.ref 6), e7, e8, e9, e10, e11, e12, e13, e14] (dk us b c ([x, y, z] ++ [.lst (([0, 1] : List Int).map D.int), .lst (([] : List Int).map D.int)])) := by kernel_rfl
  obtain ⟨vs, ps, hv, hp, hl⟩ := loop3 (ρ := [sc, some (.ref 1), t, some (.int 2), some (.int 4), some (.ref 5), some (.ref 6), e7, e8, e9, e10, e11, e12, e13, e14]) (pre := [x, y, z]) (b := b) rfl rfl rfl 2 FUEL [0, 1] [] us c rfl (by decide) (by decide) (by decide) hu c1 (by omega)
  have a3 : s_law_3 [sc, some (.ref 1), t, some (.int 2), some (.int 4), some (.ref 5), some (.ref 6), e7, e8, e9, e10, e11, e12, e13, e14] (dk us b c ([x, y, z] ++ [.lst (([0, 1] : List Int).map D.int), .lst (([] : List Int).map D.int)])) = .nx [sc, some (.ref 1), t, some (.int 2), some (.int 4), some (.ref 5), some (.ref 6), e7, e8, e9, e10, e11, e12, e13, e14] (dk vs b (c + ((2 : Nat) : Int)) ([x, y, z] ++ [.lst [], .lst ((([] : List Int) ++ ps).map D.int)])) := hl
  have ho : orders 2 [0, 1] = [[0, 1], [1, 0]] := by kernel_rfl
  rw [ho] at hp
  simp only [List.mem_cons, List.not_mem_nil, or_false] at hp
  obtain rfl | rfl := hp
  · obtain ⟨ws, x11, x12, x13, x14, hw, ht⟩ := tail_2_4 sc t (some (.ref 5)) (some (.ref 6)) (some (.tup [.int 0, .int 1])) (some (.int 16)) (some (.ref 7)) (some (.int 5)) e11 e12 e13 e14 vs b (c + ((2 : Nat) : Int)) [x, y, z, .lst [], .lst [.int 0, .int 1], .lst [.int 8, .int 16, .int 16, .int 7, .int 7, .int 8]] hv (by omega) (by omega)
    exact ⟨ws, _, [some (.int 2), some (.int 4), some (.ref 5), some (.ref 6), some (.tup [.int 0, .int 1]), some (.int 16), some (.ref 7), some (.int 5), x11, x12, x13, x14], _, _, _, hw, (by omega : (0 : Int) ≤ c + ((2 : Nat) : Int) + 1), by omega, rfl, (seq_nx a2).trans ((seq_nx a3).trans ((sA_1_2_4_01 _ sc t e7 e8 e9 e10 e11 e12 e13 e14 _ _ x y z).trans ht))⟩
  · obtain ⟨ws, x11, x12, x13, x14, hw, ht⟩ := tail_2_4 sc t (some (.ref 5)) (some (.ref 6)) (some (.tup [.int 0, .int 1])) (some (.int 16)) (some (.ref 7)) (some (.int 5)) e11 e12 e13 e14 vs b (c + ((2 : Nat) : Int)) [x, y, z, .lst [], .lst [.int 1, .int 0], .lst [.int 8, .int 16, .int 16, .int 7, .int 7, .int 8]] hv (by omega) (by omega)
    exact ⟨ws, _, [some (.int 2), some (.int 4), some (.ref 5), some (.ref 6), some (.tup [.int 0, .int 1]), some (.int 16), some (.ref 7), some (.int 5), x11, x12, x13, x14], _, _, _, hw, (by omega : (0 : Int) ≤ c + ((2 : Nat) : Int) + 1), by omega, rfl, (seq_nx a2).trans ((seq_nx a3).trans ((sA_1_2_4_10 _ sc t e7 e8 e9 e10 e11 e12 e13 e14 _ _ x y z).trans ht))⟩
theorem restA_1_2 (sc t e4 e5 e6 e7 e8 e9 e10 e11 e12 e13 e14 : Option D) (us : List Int) (b c : Int) (x y z : D) (hu : us.length ≤ 100) (c1 : 0 ≤ c) (c2 : c ≤ 700) : ∃ (vs : List Int) (d : Int) (xs : List (Option D)) (P1 P2 P3 : D), vs.length ≤ 100 ∧ 0 ≤ d ∧ d ≤ c + 20 ∧ xs.length = 12 ∧
    (sSeq s_law_1 (sSeq s_law_2 (sSeq s_law_3 (sSeq s_law_4 (sSeq s_law_5 (sSeq s_law_6 (sSeq s_law_7 (sSeq s_law_8 (sSeq s_law_9 (sSeq s_law_10 (sSeq s_law_11 s_law_12))))))))))) [sc, some (.ref 1), t, some (.int 2), e4, e5, e6, e7, e8, e9, e10, e11, e12, e13, e14] (dk us b c [x, y, z]) = .nx (sc :: some (.ref 1) :: t :: xs) (dk vs b d [x, y, z, P1, P2, P3]) := by
  obtain ⟨r, us1, r1, r2, hu1, hd⟩ := draw us b c 4 [x, y, z] (by decide) (by decide) c1 (by omega) hu
  have h1 : s_law_1 [sc, some (.ref 1), t, some (.int 2), e4, e5, e6, e7, e8, e9, e10, e11, e12, e13, e14] (dk us b c [x, y, z]) = .nx [sc, some (.ref 1), t, some (.int 2), some (.int (1 + r)), e5, e6, e7, e8, e9, e10, e11, e12, e13, e14] (dk us1 b (c + 1) [x, y, z]) := drawS rfl (by kernel_rfl) hd
  obtain rfl | rfl | rfl | rfl : r = 0 ∨ r = 1 ∨ r = 2 ∨ r = 3 := by omega
  · obtain ⟨vs, d, xs, P1, P2, P3, g1, g2, g3, g4, g5⟩ := restB_1_2_1 sc t e5 e6 e7 e8 e9 e10 e11 e12 e13 e14 us1 b (c + 1) x y z hu1 (by omega) (by omega)
    exact ⟨vs, d, xs, P1, P2, P3, g1, g2, by omega, g4, (seq_nx h1).trans g5⟩
  · obtain ⟨vs, d, xs, P1, P2, P3, g1, g2, g3, g4, g5⟩ := restB_1_2_2 sc t e5 e6 e7 e8 e9 e10 e11 e12 e13 e14 us1 b (c + 1) x y z hu1 (by omega) (by omega)
    exact ⟨vs, d, xs, P1, P2, P3, g1, g2, by omega, g4, (seq_nx h1).trans g5⟩
  · obtain ⟨vs, d, xs, P1, P2, P3, g1, g2, g3, g4, g5⟩ := restB_1_2_3 sc t e5 e6 e7 e8 e9 e10 e11 e12 e13 e14 us1 b (c + 1) x y z hu1 (by omega) (by omega)
    exact ⟨vs, d, xs, P1, P2, P3, g1, g2, by omega, g4, (seq_nx h1).trans g5⟩
  · obtain ⟨vs, d, xs, P1, P2, P3, g1, g2, g3, g4, g5⟩ := restB_1_2_4 sc t e5 e6 e7 e8 e9 e10 e11 e12 e13 e14 us1 b (c + 1) x y z hu1 (by omega) (by omega)
    exact ⟨vs, d, xs, P1, P2, P3, g1, g2, by omega, g4, (seq_nx h1).trans g5⟩
theorem restB_1_3_1 (sc t e5 e6 e7 e8 e9 e10 e11 e12 e13 e14 : Option D) (us : List Int) (b c : Int) (x y z : D) (hu : us.length ≤ 100) (c1 : 0 ≤ c) (c2 : c ≤ 800) : ∃ (vs : List Int) (d : Int) (xs : List (Option D)) (P1 P2 P3 : D), vs.length ≤ 100 ∧ 0 ≤ d ∧ d ≤ c + 10 ∧ xs.length = 12 ∧
    (sSeq s_law_2 (sSeq s_law_3 (sSeq s_law_4 (sSeq s_law_5 (sSeq s_law_6 (sSeq s_law_7 (sSeq s_law_8 (sSeq s_law_9 (sSeq s_law_10 (sSeq s_law_11 s_law_12)))))))))) [sc, some (.ref 1), t, some (.int 3), some (.int 1), e5, e6, e7, e8, e9, e10, e11, e12, e13, e14] (dk us b c [x, y, z]) = .nx (sc :: some (.ref 1) :: t :: xs) (dk vs b d [x, y, z, P1, P2, P3]) := by
  have a2 : s_law_2 [sc, some (.ref 1), t, some (.int 3), some (.int 1), e5, e6, e7, e8, e9, e10, e11, e12, e13, e14] (dk us b c [x, y, z]) = .nx [sc, some (.ref 1), t, some (.int 3), some (.int 1), some (.ref 5), some (.ref 6), e7, e8, e9, e10, e11, e12, e13, e14] (dk us b c ([x, y, z] ++ [.lst (([0, 1, 2] : List Int).map D.int), .lst (([] : List Int).map D.int)])) := by kernel_rfl
  obtain ⟨vs, ps, hv, hp, hl⟩ := loop3 (ρ := [sc, some (.ref 1), t, some (.int 3), some (.int 1), some (.ref 5), some (.ref 6), e7, e8, e9, e10, e11, e12, e13, e14]) (pre := [x, y, z]) (b := b) rfl rfl rfl 3 FUEL [0, 1, 2] [] us c rfl (by decide) (by decide) (by decide) hu c1 (by omega)
  have a3 : s_law_3 [sc, some (.ref 1), t, some (.int 3), some (.int 1), some (.ref 5), some (.ref 6), e7, e8, e9, e10, e11, e12, e13, e14] (dk us b c ([x, y, z] ++ [.lst (([0, 1, 2] : List Int).map D.int), .lst (([] : List Int).map D.int)])) = .nx [sc, some (.ref 1), t, some (.int 3), some (.int 1), some (.ref 5), some (.ref 6), e7, e8, e9, e10, e11, e12, e13, e14] (dk vs b (c + ((3 : Nat) : Int)) ([x, y, z] ++ [.lst [], .lst ((([] : List Int) ++ ps).map D.int)])) := hl
  have ho : orders 3 [0, 1, 2] = [[0, 1, 2], [0, 2, 1], [1, 0, 2], [1, 2, 0], [2, 0, 1], [2, 1, 0]] := by kernel_rfl
  rw [ho] at hp
  simp only [List.mem_cons, List.not_mem_nil, or_false] at hp
  obtain rfl | rfl | rfl | rfl | rfl | rfl := hp
  · obtain ⟨ws, x11, x12, x13, x14, hw, ht⟩ := tail_3_1 sc t (some (.ref 5)) (some (.ref 6)) (some (.tup [.int 0, .int 1, .int 2])) (some (.int 1)) (some (.ref 7)) (some (.int 5)) e11 e12 e13 e14 vs b (c + ((3 : Nat) : Int)) [x, y, z, .lst [], .lst [.int 0, .int 1, .int 2], .lst [.int 3, .int 1, .int 1, .int 1, .int 1, .int 2]] hv (by omega) (by omega)
    exact ⟨ws, _, [some (.int 3), some (.int 1), some (.ref 5), some (.ref 6), some (.tup [.int 0, .int 1, .int 2]), some (.int 1), some (.ref 7), some (.int 5), x11, x12, x13, x14], _, _, _, hw, (by omega : (0 : Int) ≤ c + ((3 : Nat) : Int) + 1), by omega, rfl, (seq_nx a2).trans ((seq_nx a3).trans ((sA_1_3_1_012 _ sc t e7 e8 e9 e10 e11 e12 e13 e14 _ _ x y z).trans ht))⟩
  · obtain ⟨ws, x11, x12, x13, x14, hw, ht⟩ := tail_3_1 sc t (some (.ref 5)) (some (.ref 6)) (some (.tup [.int 0, .int 1, .int 2])) (some (.int 1)) (some (.ref 7)) (some (.int 5)) e11 e12 e13 e14 vs b (c + ((3 : Nat) : Int)) [x, y, z, .lst [], .lst [.int 0, .int 2, .int 1], .lst [.int 3, .int 1, .int 1, .int 1, .int 1, .int 2]] hv (by omega) (by omega)
    exact ⟨ws, _, [some (.int 3), some (.int 1), some (.ref 5), some (.ref 6), some (.tup [.int 0, .int 1, .int 2]), some (.int 1), some (.ref 7), some (.int 5), x11, x12, x13, x14], _, _, _, hw, (by omega : (0 : Int) ≤ c + ((3 : Nat) : Int) + 1), by omega, rfl, (seq_nx a2).trans ((seq_nx a3).trans ((sA_1_3_1_021 _ sc t e7 e8 e9 e10 e11 e12 e13 e14 _ _ x y z).trans ht))⟩
  · obtain ⟨ws, x11, x12, x13, x14, hw, ht⟩ := tail_3_1 sc t (some (.ref 5)) (some (.ref 6)) (some (.tup [.int 0, .int 1, .int 2])) (some (.int 1)) (some (.ref 7)) (some (.int 5)) e11 e12 e13 e14 vs b (c + ((3 : Nat) : Int)) [x, y, z, .lst [], .lst [.int 1, .int 0, .int 2], .lst [.int 3, .int 1, .int 1, .int 1, .int 1, .int 2]] hv (by omega) (by omega)
    exact ⟨ws, _, [some (.int 3), some (.int 1), some (.ref 5), some (.ref 6), some (.tup [.int 0, .int 1, .int 2]), some (.int 1), some (.ref 7), some (.int 5), x11, x12, x13, x14], _, _, _, hw, (by omega : (0 : Int) ≤ c + ((3 : Nat) : Int) + 1), by omega, rfl, (seq_nx a2).trans ((seq_nx a3).trans ((sA_1_3_1_102 _ sc t e7 e8 e9 e10 e11 e12 e13 e14 _ _ x y z).trans ht))⟩
  · obtain ⟨ws, x11, x12, x13, x14, hw, ht⟩ := tail_3_1 sc t (some (.ref 5)) (some (.ref 6)) (some (.tup [.int 0, .int 1, .int 2])) (some (.int 1)) (some (.ref 7)) (some (.int 5)) e11 e12 e13 e14 vs b (c + ((3 : Nat) : Int)) [x, y, z, .lst [], .lst [.int 1, .int 2, .int 0], .lst [.int 3, .int 1, .int 1, .int 1, .int 1, .int 2]] hv (by omega) (by omega)
    exact ⟨ws, _, [some (.int 3), some (.int 1), some (.ref 5), some (.ref 6), some (.tup [.int 0, .int 1, .int 2]), some (.int 1), some (.ref 7), some (.int 5), x11, x12, x13, x14], _, _, _, hw, (by omega : (0 : Int) ≤ c + ((3 : Nat) : Int) + 1), by omega, rfl, (seq_nx a2).trans ((seq_nx a3).trans ((sA_1_3_1_120 _ sc t e7 e8 e9 e10 e11 e12 e13 e14 _ _ x y z).trans ht))⟩
  · obtain ⟨ws, x11, x12, x13, x14, hw, ht⟩ := tail_3_1 sc t (some (.ref 5)) (some (.ref 6)) (some (.tup [.int 0, .int 1, .int 2])) (some (.int 1)) (some (.ref 7)) (some (.int 5)) e11 e12 e13 e14 vs b (c + ((3 : Nat) : Int)) [x, y, z, .lst [], .lst [.int 2, .int 0, .int 1], .lst [.int 3, .int 1, .int 1, .int 1, .int 1, .int 2]] hv (by omega) (by omega)
    exact ⟨ws, _, [some (.int 3), some (.int 1), some (.ref 5), some (.ref 6), some (.tup [.int 0, .int 1, .int 2]), some (.int 1), some (.ref 7), some (.int 5), x11, x12, x13, x14], _, _, _, hw, (by omega : (0 : Int) ≤ c + ((3 : Nat) : Int) + 1), by omega, rfl, (seq_nx a2).trans ((seq_nx a3).trans ((sA_1_3_1_201 _ sc t e7 e8 e9 e10 e11 e12 e13 e14 _ _ x y z).trans ht))⟩
  · obtain ⟨ws, x11, x12, x13, x14, hw, ht⟩ := tail_3_1 sc t (some (.ref 5)) (some (.ref 6)) (some (.tup [.int 0, .int 1, .int 2])) (some (.int 1)) (some (.ref 7)) (some (.int 5)) e11 e12 e13 e14 vs b (c + ((3 : Nat) : Int)) [x, y, z, .lst [], .lst [.int 2, .int 1, .int 0], .lst [.int 3, .int 1, .int 1, .int 1, .int 1, .int 2]] hv (by omega) (by omega)
    exact ⟨ws, _, [some (.int 3), some (.int 1), some (.ref 5), some (.ref 6), some (.tup [.int 0, .int 1, .int 2]), some (.int 1), some (.ref 7), some (.int 5), x11, x12, x13, x14], _, _, _, hw, (by omega : (0 : Int) ≤ c + ((3 : Nat) : Int) + 1), by omega, rfl, (seq_nx a2).trans ((seq_nx a3).trans ((sA_1_3_1_210 _ sc t e7 e8 e9 e10 e11 e12 e13 e14 _ _ x y z).trans ht))⟩
theorem restB_1_3_2 (sc t e5 e6 e7 e8 e9 e10 e11 e12 e13 e14 : Option D) (us : List Int) (b c : Int) (x y z : D) (hu : us.length ≤ 100) (c1 : 0 ≤ c) (c2 : c ≤ 800) : ∃ (vs : List Int) (d : Int) (xs : List (Option D)) (P1 P2 P3 : D), vs.length ≤ 100 ∧ 0 ≤ d ∧ d ≤ c + 10 ∧ xs.length = 12 ∧
    (sSeq s_law_2 (sSeq s_law_3 (sSeq s_law_4 (sSeq s_law_5 (sSeq s_law_6 (sSeq s_law_7 (sSeq s_law_8 (sSeq s_law_9 (sSeq s_law_10 (sSeq s_law_11 s_law_12)))))))))) [sc, some (.ref 1), t, some (.int 3), some (.int 2), e5, e6, e7, e8, e9, e10, e11, e12, e13, e14] (dk us b c [x, y, z]) = .nx (sc :: some (.ref 1) :: t :: xs) (dk vs b d [x, y, z, P1, P2, P3]) := by
  have a2 : s_law_2 [sc, some (.ref 1), t, some (.int 3), some (.int 2), e5, e6, e7, e8, e9, e10, e11, e12, e13, e14] (dk us b c [x, y, z]) = .nx [sc, some (.ref 1), t, some (.int 3), some (.int 2), some (.ref 5), some (.ref 6), e7, e8, e9, e10, e11, e12, e13, e14] (dk us b c ([x, y, z] ++ [.lst (([0, 1, 2] : List Int).map D.int), .lst (([] : List Int).map D.int)])) := by kernel_rfl
  obtain ⟨vs, ps, hv, hp, hl⟩ := loop3 (ρ := [sc, some (.ref 1), t, some (.int 3), some (.int 2), some (.ref 5), some (.ref 6), e7, e8, e9, e10, e11, e12, e13, e14]) (pre := [x, y, z]) (b := b) rfl rfl rfl 3 FUEL [0, 1, 2] [] us c rfl (by decide) (by decide) (by decide) hu c1 (by omega)
  have a3 : s_law_3 [sc, some (.ref 1), t, some (.int 3), some (.int 2), some (.ref 5), some (.ref 6), e7, e8, e9, e10, e11, e12, e13, e14] (dk us b c ([x, y, z] ++ [.lst (([0, 1, 2] : List Int).map D.int), .lst (([] : List Int).map D.int)])) = .nx [sc, some (.ref 1), t, some (.int 3), some (.int 2), some (.ref 5), some (.ref 6), e7, e8, e9, e10, e11, e12, e13, e14] (dk vs b (c + ((3 : Nat) : Int)) ([x, y, z] ++ [.lst [], .lst ((([] : List Int) ++ ps).map D.int)])) := hl
  have ho : orders 3 [0, 1, 2] = [[0, 1, 2], [0, 2, 1], [1, 0, 2], [1, 2, 0], [2, 0, 1], [2, 1, 0]] := by kernel_rfl
  rw [ho] at hp
  simp only [List.mem_cons, List.not_mem_nil, or_false] at hp
  obtain rfl | rfl | rfl | rfl | rfl | rfl := hp
  · obtain ⟨ws, x11, x12, x13, x14, hw, ht⟩ := tail_3_2 sc t (some (.ref 5)) (some (.ref 6)) (some (.tup [.int 0, .int 1, .int 2])) (some (.int 8)) (some (.ref 7)) (some (.int 5)) e11 e12 e13 e14 vs b (c + ((3 : Nat) : Int)) [x, y, z, .lst [], .lst [.int 0, .int 1, .int 2], .lst [.int 6, .int 8, .int 8, .int 4, .int 4, .int 4]] hv (by omega) (by omega)
    exact ⟨ws, _, [some (.int 3), some (.int 2), some (.ref 5), some (.ref 6), some (.tup [.int 0, .int 1, .int 2]), some (.int 8), some (.ref 7), some (.int 5), x11, x12, x13, x14], _, _, _, hw, (by omega : (0 : Int) ≤ c + ((3 : Nat) : Int) + 1), by omega, rfl, (seq_nx a2).trans ((seq_nx a3).trans ((sA_1_3_2_012 _ sc t e7 e8 e9 e10 e11 e12 e13 e14 _ _ x y z).trans ht))⟩
  · obtain ⟨ws, x11, x12, x13, x14, hw, ht⟩ := tail_3_2 sc t (some (.ref 5)) (some (.ref 6)) (some (.tup [.int 0, .int 1, .int 2])) (some (.int 8)) (some (.ref 7)) (some (.int 5)) e11 e12 e13 e14 vs b (c + ((3 : Nat) : Int)) [x, y, z, .lst [], .lst [.int 0, .int 2, .int 1], .lst [.int 6, .int 8, .int 8, .int 4, .int 4, .int 4]] hv (by omega) (by omega)
    exact ⟨ws, _, [some (.int 3), some (.int 2), some (.ref 5), some (.ref 6), some (.tup [.int 0, .int 1, .int 2]), some (.int 8), some (.ref 7), some (.int 5), x11, x12, x13, x14], _, _, _, hw, (by omega : (0 : Int) ≤ c + ((3 : Nat) : Int) + 1), by omega, rfl, (seq_nx a2).trans ((seq_nx a3).trans ((sA_1_3_2_021 _ sc t e7 e8 e9 e10 e11 e12 e13 e14 _ _ x y z).trans ht))⟩
  · obtain ⟨ws, x11, x12, x13, x14, hw, ht⟩ := tail_3_2 sc t (some (.ref 5)) (some (.ref 6)) (some (.tup [.int 0, .int 1, .int 2])) (some (.int 8)) (some (.ref 7)) (some (.int 5)) e11 e12 e13 e14 vs b (c + ((3 : Nat) : Int)) [x, y, z, .lst [], .lst [.int 1, .int 0, .int 2], .lst [.int 6, .int 8, .int 8, .int 4, .int 4, .int 4]] hv (by omega) (by omega)
    exact ⟨ws, _, [some (.int 3), some (.int 2), some (.ref 5), some (.ref 6), some (.tup [.int 0, .int 1, .int 2]), some (.int 8), some (.ref 7), some (.int 5), x11, x12, x13, x14], _, _, _, hw, (by omega : (0 : Int) ≤ c + ((3 : Nat) : Int) + 1), by omega, rfl, (seq_nx a2).trans ((seq_nx a3).trans ((sA_1_3_2_102 _ sc t e7 e8 e9 e10 e11 e12 e13 e14 _ _ x y z).trans ht))⟩
  · obtain ⟨ws, x11, x12, x13, x14, hw, ht⟩ := tail_3_2 sc t (some (.ref 5)) (some (.ref 6)) (some (.tup [.int 0, .int 1, .int 2])) (some (.int 8)) (some (.ref 7)) (some (.int 5)) e11 e12 e13 e14 vs b (c + ((3 : Nat) : Int)) [x, y, z, .lst [], .lst [.int 1, .int 2, .int 0], .lst [.int 6, .int 8, .int 8, .int 4, .int 4, .int 4]] hv (by omega) (by omega)
    exact ⟨ws, _, [some (.int 3), some (.int 2), some (.ref 5), some (.ref 6), some (.tup [.int 0, .int 1, .int 2]), some (.int 8), some (.ref 7), some (.int 5), x11, x12, x13, x14], _, _, _, hw, (by omega : (0 : Int) ≤ c + ((3 : Nat) : Int) + 1), by omega, rfl, (seq_nx a2).trans ((seq_nx a3).trans ((sA_1_3_2_120 _ sc t e7 e8 e9 e10 e11 e12 e13 e14 _ _ x y z).trans ht))⟩
  · obtain ⟨ws, x11, x12, x13, x14, hw, ht⟩ := tail_3_2 sc t (some (.ref 5)) (some (.ref 6)) (some (.tup [.int 0, .int 1, .int 2])) (some (.int 8)) (some (.ref 7)) (some (.int 5)) e11 e12 e13 e14 vs b (c + ((3 : Nat) : Int)) [x, y, z, .lst [], .lst [.int 2, .int 0, .int 1], .lst [.int 6, .int 8, .int 8, .int 4, .int 4, .int 4]] hv (by omega) (by omega)
    exact ⟨ws, _, [some (.int 3), some (.int 2), some (.ref 5), some (.ref 6), some (.tup [.int 0, .int 1, .int 2]), some (.int 8), some (.ref 7), some (.int 5), x11, x12, x13, x14], _, _, _, hw, (by omega : (0 : Int) ≤ c + ((3 : Nat) : Int) + 1), by omega, rfl, (seq_nx a2).trans ((seq_nx a3).trans ((sA_1_3_2_201 _ sc t e7 e8 e9 e10 e11 e12 e13 e14 _ _ x y z).trans ht))⟩
  · obtain ⟨ws, x11, x12, x13, x14, hw, ht⟩ := tail_3_2 sc t (some (.ref 5)) (some (.ref 6)) (some (.tup [.int 0, .int 1, .int 2])) (some (.int 8)) (some (.ref 7)) (some (.int 5)) e11 e12 e13 e14 vs b (c + ((3 : Nat) : Int)) [x, y, z, .lst [], .lst [.int 2, .int 1, .int 0], .lst [.int 6, .int 8, .int 8, .int 4, .int 4, .int 4]] hv (by omega) (by omega)
    exact ⟨ws, _, [some (.int 3), some (.int 2), some (.ref 5), some (.ref 6), some (.tup [.int 0, .int 1, .int 2]), some (.int 8), some (.ref 7), some (.int 5), x11, x12, x13, x14], _, _, _, hw, (by omega : (0 : Int) ≤ c + ((3 : Nat) : Int) + 1), by omega, rfl, (seq_nx a2).trans ((seq_nx a3).trans ((sA_1_3_2_210 _ sc t e7 e8 e9 e10 e11 e12 e13 e14 _ _ x y z).trans ht))⟩
theorem restA_1_3 (sc t e4 e5 e6 e7 e8 e9 e10 e11 e12 e13 e14 : Option D) (us : List Int) (b c : Int) (x y z : D) (hu : us.length ≤ 100) (c1 : 0 ≤ c) (c2 : c ≤ 700) : ∃ (vs : List Int) (d : Int) (xs : List (Option D)) (P1 P2 P3 : D), vs.length ≤ 100 ∧ 0 ≤ d ∧ d ≤ c + 20 ∧ xs.length = 12 ∧
    (sSeq s_law_1 (sSeq s_law_2 (sSeq s_law_3 (sSeq s_law_4 (sSeq s_law_5 (sSeq s_law_6 (sSeq s_law_7 (sSeq s_law_8 (sSeq s_law_9 (sSeq s_law_10 (sSeq s_law_11 s_law_12))))))))))) [sc, some (.ref 1), t, some (.int 3), e4, e5, e6, e7, e8, e9, e10, e11, e12, e13, e14] (dk us b c [x, y, z]) = .nx (sc :: some (.ref 1) :: t :: xs) (dk vs b d [x, y, z, P1, P2, P3]) := by
  obtain ⟨r, us1, r1, r2, hu1, hd⟩ := draw us b c 2 [x, y, z] (by decide) (by decide) c1 (by omega) hu
  have h1 : s_law_1 [sc, some (.ref 1), t, some (.int 3), e4, e5, e6, e7, e8, e9, e10, e11, e12, e13, e14] (dk us b c [x, y, z]) = .nx [sc, some (.ref 1), t, some (.int 3), some (.int (1 + r)), e5, e6, e7, e8, e9, e10, e11, e12, e13, e14] (dk us1 b (c + 1) [x, y, z]) := drawS rfl (by kernel_rfl) hd
  obtain rfl | rfl : r = 0 ∨ r = 1 := by omega
  · obtain ⟨vs, d, xs, P1, P2, P3, g1, g2, g3, g4, g5⟩ := restB_1_3_1 sc t e5 e6 e7 e8 e9 e10 e11 e12 e13 e14 us1 b (c + 1) x y z hu1 (by omega) (by omega)
    exact ⟨vs, d, xs, P1, P2, P3, g1, g2, by omega, g4, (seq_nx h1).trans g5⟩
  · obtain ⟨vs, d, xs, P1, P2, P3, g1, g2, g3, g4, g5⟩ := restB_1_3_2 sc t e5 e6 e7 e8 e9 e10 e11 e12 e13 e14 us1 b (c + 1) x y z hu1 (by omega) (by omega)
    exact ⟨vs, d, xs, P1, P2, P3, g1, g2, by omega, g4, (seq_nx h1).trans g5⟩
theorem turn_1 (sc t e3 e4 e5 e6 e7 e8 e9 e10 e11 e12 e13 e14 : Option D) (us : List Int) (b c : Int) (x y z : D) (hu : us.length ≤ 100) (c1 : 0 ≤ c) (c2 : c ≤ 600) : ∃ (vs : List Int) (d : Int) (xs : List (Option D)) (P1 P2 P3 : D), vs.length ≤ 100 ∧ 0 ≤ d ∧ d ≤ c + 30 ∧ xs.length = 12 ∧
    (sSeq s_law_0 (sSeq s_law_1 (sSeq s_law_2 (sSeq s_law_3 (sSeq s_law_4 (sSeq s_law_5 (sSeq s_law_6 (sSeq s_law_7 (sSeq s_law_8 (sSeq s_law_9 (sSeq s_law_10 (sSeq s_law_11 s_law_12)))))))))))) [sc, some (.ref 1), t, e3, e4, e5, e6, e7, e8, e9, e10, e11, e12, e13, e14] (dk us b c [x, y, z]) = .nx (sc :: some (.ref 1) :: t :: xs) (dk vs b d [x, y, z, P1, P2, P3]) := by
  obtain ⟨r, us1, r1, r2, hu1, hd⟩ := draw us b c 3 [x, y, z] (by decide) (by decide) c1 (by omega) hu
  have h1 : s_law_0 [sc, some (.ref 1), t, e3, e4, e5, e6, e7, e8, e9, e10, e11, e12, e13, e14] (dk us b c [x, y, z]) = .nx [sc, some (.ref 1), t, some (.int (1 + r)), e4, e5, e6, e7, e8, e9, e10, e11, e12, e13, e14] (dk us1 b (c + 1) [x, y, z]) := drawS rfl rfl hd
  obtain rfl | rfl | rfl : r = 0 ∨ r = 1 ∨ r = 2 := by omega
  · obtain ⟨vs, d, xs, P1, P2, P3, g1, g2, g3, g4, g5⟩ := restA_1_1 sc t e4 e5 e6 e7 e8 e9 e10 e11 e12 e13 e14 us1 b (c + 1) x y z hu1 (by omega) (by omega)
    exact ⟨vs, d, xs, P1, P2, P3, g1, g2, by omega, g4, (seq_nx h1).trans g5⟩
  · obtain ⟨vs, d, xs, P1, P2, P3, g1, g2, g3, g4, g5⟩ := restA_1_2 sc t e4 e5 e6 e7 e8 e9 e10 e11 e12 e13 e14 us1 b (c + 1) x y z hu1 (by omega) (by omega)
    exact ⟨vs, d, xs, P1, P2, P3, g1, g2, by omega, g4, (seq_nx h1).trans g5⟩
  · obtain ⟨vs, d, xs, P1, P2, P3, g1, g2, g3, g4, g5⟩ := restA_1_3 sc t e4 e5 e6 e7 e8 e9 e10 e11 e12 e13 e14 us1 b (c + 1) x y z hu1 (by omega) (by omega)
    exact ⟨vs, d, xs, P1, P2, P3, g1, g2, by omega, g4, (seq_nx h1).trans g5⟩
theorem law_holds : ∀ ns : List Int, ns.length ≤ 63 → ∃ G, f_law [.scr ns] [] = .ok (.bl true) G := by
  intro ns _
  obtain ⟨us, b, hu, hd⟩ := deck_r ns
  have h0 : sSet 1 (fCall [0] f__law_deck (fLen 1 (fCons (fVar 0) fNil))) (startE 15 [.scr ns]) [] = .nx [some (.scr ns), some (.ref 1), none, none, none, none, none, none, none, none, none, none, none, none, none] (dk us b 0 []) := by
    show ((if (sel [0] [D.scr ns]).length = 1 then f__law_deck [.scr ns] [] else R.st).go _ _) = _
    rw [hd]
    rfl
  obtain ⟨vs, d, xs, P1, P2, P3, g1, g2, g3, g4, g5⟩ := turn_0 (some (.scr ns)) (some (.int 0)) none none none none none none none none none none none none us b 0 hu (by decide) (by decide)
  obtain ⟨x3, x4, x5, x6, x7, x8, x9, x10, x11, x12, x13, x14, rfl⟩ : ∃ x3 x4 x5 x6 x7 x8 x9 x10 x11 x12 x13 x14 : Option D, xs = [x3, x4, x5, x6, x7, x8, x9, x10, x11, x12, x13, x14] := by
    match xs, g4 with
    | [x3, x4, x5, x6, x7, x8, x9, x10, x11, x12, x13, x14], _ => exact ⟨x3, x4, x5, x6, x7, x8, x9, x10, x11, x12, x13, x14, rfl⟩
  obtain ⟨vs2, d2, xs2, P4, P5, P6, g6, g7, g8, g9, g10⟩ := turn_1 (some (.scr ns)) (some (.int 1)) x3 x4 x5 x6 x7 x8 x9 x10 x11 x12 x13 x14 vs b d P1 P2 P3 g1 g2 (by omega)
  refine ⟨dk vs2 b d2 [P1, P2, P3, P4, P5, P6], ?_⟩
  have hf : s_law (startE 15 [.scr ns]) [] = .rt (.bl true) (dk vs2 b d2 [P1, P2, P3, P4, P5, P6]) := by
    unfold s_law
    rw [seq_nx h0]
    have hl : sFor (rng1 (fC (.int 2))) (gSlot 2) (sSeq s_law_0 (sSeq s_law_1 (sSeq s_law_2 (sSeq s_law_3 (sSeq s_law_4 (sSeq s_law_5 (sSeq s_law_6 (sSeq s_law_7 (sSeq s_law_8 (sSeq s_law_9 (sSeq s_law_10 (sSeq s_law_11 s_law_12)))))))))))) [some (.scr ns), some (.ref 1), none, none, none, none, none, none, none, none, none, none, none, none, none] (dk us b 0 [])
        = .nx (some (.scr ns) :: some (.ref 1) :: some (.int 1) :: xs2) (dk vs2 b d2 [P1, P2, P3, P4, P5, P6]) := by
      show loopF (gSlot 2) _ [.int 0, .int 1] _ _ = _
      rw [loopF]
      show (match (sSeq s_law_0 _) [some (.scr ns), some (.ref 1), some (.int 0), none, none, none, none, none, none, none, none, none, none, none, none] (dk us b 0 []) with | .nx ρ2 G2 => loopF (gSlot 2) _ [.int 1] ρ2 G2 | .ct ρ2 G2 => _ | .bk ρ2 G2 => _ | o => o) = _
      rw [g5]
      show loopF (gSlot 2) _ [.int 1] _ _ = _
      rw [loopF]
      show (match (sSeq s_law_0 _) [some (.scr ns), some (.ref 1), some (.int 1), x3, x4, x5, x6, x7, x8, x9, x10, x11, x12, x13, x14] (dk vs b d [P1, P2, P3]) with | .nx ρ2 G2 => loopF (gSlot 2) _ [] ρ2 G2 | .ct ρ2 G2 => _ | .bk ρ2 G2 => _ | o => o) = _
      rw [g10]
      rfl
    rw [seq_nx hl]
    rfl
  show (match s_law (startE 15 [.scr ns]) [] with | .nx _ G1 => R.ok D.non G1 | .rt d G1 => R.ok d G1 | .ex e _ G1 => R.ex e G1 | _ => R.st) = _
  rw [hf]

end K47

open PySem PySem.W PyProof.Rows
set_option maxRecDepth 100000 in
set_option maxHeartbeats 0 in
theorem PySem.Challenge.cw_flatforest_k47_sure_lengths_by_formula_holds : PySem.Challenge.rw_flatforest_k47_sure_lengths_by_formula.Holds := by
  w_on; o_law; k_head; (case hw => w_witness2)
  k_fill
  refine DL.walk_d (l := PySem.Challenge.rw_flatforest_k47_sure_lengths_by_formula) (m := K47.f_law) (x := "_law_script") (k := 9) rfl (by decide) rfl ⟨rfl, by decide, by decide⟩ (fun w h Y => PySem.W.km_in_of Y) ?F K47.law_holds
  case F =>
    intro w mg fa h KX G hmg tabs
    refine' K47.all_mk KX G hmg ?aC0 ?aC1 ?a0 ?l0 ?c0 ?k0 ?a1 ?l1 ?c1 ?k1 ?a2 ?l2 ?c2 ?k2 ?a3 ?l3 ?c3 ?k3 ?a4 ?i4 ?l4 ?c4 ?k4 ?a5 ?i5 ?l5 ?c5 ?k5 ?a6 ?i6 ?l6 ?c6 ?k6 ?a7 ?l7 ?c7 ?k7 ?a8 ?i8 ?l8 ?c8 ?k8 ?a9 ?i9 ?l9 ?c9 ?k9 ?a10 ?i10 ?l10 ?c10 ?k10 ?a11 ?l11 ?c11 ?k11 ?lc11 ?vp11 ?tb11 ?np11 ?a12 ?l12 ?c12 ?k12 ?a13 ?l13 ?c13 ?k13 ?a14 ?l14 ?c14 ?k14 ?a15 ?l15 ?c15 ?k15 ?a16 ?l16 ?c16 ?k16 ?a17 ?l17 ?c17 ?k17 ?a18 ?l18 ?c18 ?k18 ?a19 ?l19 ?c19 ?k19 ?a20 ?l20 ?c20 ?k20 ?pg0 ?hd0 ?po0 ?sa0 ?mk0 ?kc0 ?pg1 ?hd1 ?po1 ?sa1 ?mk1 ?kc1 ?b_all ?b_bool ?b_enumerate ?b_int ?b_isinstance ?b_len ?b_list ?b_max ?b_min ?b_range ?b_repr ?b_sorted ?b_tuple ?b_zip ?g_NOTHING ?n_0_rows ?n_1_most ?n_1_start ?n_1_steady_values ?n_1_table
    (case aC0 => k_is)
    (case aC1 => k_is)
    (case a0 => k_is)
    (case l0 => k_is)
    (case c0 => k_is)
    (case k0 => k_is)
    (case a1 => k_is)
    (case l1 => k_is)
    (case c1 => k_is)
    (case k1 => k_is)
    (case a2 => k_is)
    (case l2 => k_is)
    (case c2 => k_is)
    (case k2 => k_is)
    (case a3 => k_is)
    (case l3 => k_is)
    (case c3 => k_is)
    (case k3 => k_is)
    (case a4 => k_is)
    (case i4 => k_is)
    (case l4 => k_is)
    (case c4 => k_is)
    (case k4 => k_is)
    (case a5 => k_is)
    (case i5 => k_is)
    (case l5 => k_is)
    (case c5 => k_is)
    (case k5 => k_is)
    (case a6 => k_is)
    (case i6 => k_is)
    (case l6 => k_is)
    (case c6 => k_is)
    (case k6 => k_is)
    (case a7 => k_is)
    (case l7 => k_is)
    (case c7 => k_is)
    (case k7 => k_is)
    (case a8 => k_is)
    (case i8 => k_is)
    (case l8 => k_is)
    (case c8 => k_is)
    (case k8 => k_is)
    (case a9 => k_is)
    (case i9 => k_is)
    (case l9 => k_is)
    (case c9 => k_is)
    (case k9 => k_is)
    (case a10 => k_is)
    (case i10 => k_is)
    (case l10 => k_is)
    (case c10 => k_is)
    (case k10 => k_is)
    (case a11 => k_is)
    (case l11 => k_is)
    (case c11 => k_is)
    (case k11 => k_is)
    (case lc11 => k_is)
    (case vp11 => rfl)
    (case tb11 => exact tabs "longest_without" _ _ _ rfl (by kernel_rfl))
    (case np11 => kernel_rfl)
    (case a12 => k_is)
    (case l12 => k_is)
    (case c12 => k_is)
    (case k12 => k_is)
    (case a13 => k_is)
    (case l13 => k_is)
    (case c13 => k_is)
    (case k13 => k_is)
    (case a14 => k_is)
    (case l14 => k_is)
    (case c14 => k_is)
    (case k14 => k_is)
    (case a15 => k_is)
    (case l15 => k_is)
    (case c15 => k_is)
    (case k15 => k_is)
    (case a16 => k_is)
    (case l16 => k_is)
    (case c16 => k_is)
    (case k16 => k_is)
    (case a17 => k_is)
    (case l17 => k_is)
    (case c17 => k_is)
    (case k17 => k_is)
    (case a18 => k_is)
    (case l18 => k_is)
    (case c18 => k_is)
    (case k18 => k_is)
    (case a19 => k_is)
    (case l19 => k_is)
    (case c19 => k_is)
    (case k19 => k_is)
    (case a20 => k_is)
    (case l20 => k_is)
    (case c20 => k_is)
    (case k20 => k_is)
    (case pg0 => k_is)
    (case hd0 => k_is)
    (case po0 => k_is)
    (case sa0 => k_is)
    (case mk0 => k_is)
    (case kc0 => k_is)
    (case pg1 => k_is)
    (case hd1 => k_is)
    (case po1 => k_is)
    (case sa1 => k_is)
    (case mk1 => k_is)
    (case kc1 => k_is)
    (case b_all => k_is)
    (case b_bool => k_is)
    (case b_enumerate => k_is)
    (case b_int => k_is)
    (case b_isinstance => k_is)
    (case b_len => k_is)
    (case b_list => k_is)
    (case b_max => k_is)
    (case b_min => k_is)
    (case b_range => k_is)
    (case b_repr => k_is)
    (case b_sorted => k_is)
    (case b_tuple => k_is)
    (case b_zip => k_is)
    (case g_NOTHING => k_is)
    (case n_0_rows => k_is)
    (case n_1_most => k_is)
    (case n_1_start => k_is)
    (case n_1_steady_values => k_is)
    (case n_1_table => k_is)
