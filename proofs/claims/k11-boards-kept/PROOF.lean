import PyProof.Rows.All
import HandS.ForMost
import HandS.Wide
import HandS.IsInst
import HandS.TupSets
import HandS.Deep
import HandS.Evl
import HandS.Lambda
import HandS.TupAny
import PyProof.SetRoads
import PyProof.Rows.FactsN_isinstance
import PyProof.Rows.FactsN_abs
import PyProof.Rows.FactsT3
import PyProof.Rows.EnumRows
import PyProof.Rows.SeqGen
import PyProof.ReprRoads
import HandS.DictEq
import PyProof.FactsAll.dict
import PyProof.ReprLen
import HandS.ExcField
import HandS.TryMany
import HandS.WordsExc
import HandS.ExcIs
import KE.KTypeName
import KE.KExcSuper
import HandS.FStr
import HandS.ExcInit
import HandS.Nested
import KE.KNest
import HandS.EndTab
import HandS.SortRule
import HandS.Style
import HandS.DictComp
import HandS.TupLe
import HandS.WideBits
import HandS.Star
import HandS.Conv
import HandS.More
import HandS.NoneIn
import PyProof.InstNe
import HandS.ClsMeth
import HandS.Zip
import HandS.Text
import HandS.RaiseMore
import HandS.Codes
import HandS.SetFor
import HandS.Defaults
import HandS.Sort
import KE.DatumOrd
import KE.KEqNest
import HandS.DeepEq
import PyProof.Rows.Range3
import KE.GoesMore
import KE.GoesEnum
import PySem.Challenge.RW_nevercaught_k11_boards_kept_and_refused
set_option Elab.async false
set_option linter.all false
set_option maxRecDepth 100000
namespace NC
open PySem PySem.Spec PyProof.Rows L2
open Evl (Ex)
inductive D where
  | non | bl (b : Bool) | int (i : Int) | str (x : Str)
  | lst (xs : List D) | tup (xs : List D) | ro (xs : List D)
  | dic (kvs : List (Key × D))
  | dit (kvs : List (List Key × D))
  /-- a tuple of the module's constants -/
  | kt (xs : List D)
  /-- an instance of the class at C that changes no more -/
  | obj (C : Addr) (fs : List (Str × D))
  /-- a def, handed about by its name -/
  | fnc (f : Addr)
  | ref (n : Nat)
inductive SO where
  | lst (xs : List D)
  /-- an exception that was caught: its class, its fields -/
  | exc (C : Addr) (fs : List (Str × D))
  /-- a function made by a lambda -/
  | fn (f : Addr) (o : Obj)
  /-- dicts that change: keys ints and texts, keys tuples of them -/
  | dct (kvs : List (Key × D))
  | dtt (kvs : List (List Key × D))
  /-- while it is walked -/
  | dcl (kvs : List (Key × D)) (od : Obj) (us : List (Key × V))
  | dtl (kvs : List (List Key × D)) (od : Obj) (us : List (List Key × V))
  /-- an instance that changes -/
  | ins (C : Addr) (fs : List (Str × D))
  /-- a range -/
  | rng (lo hi : Int)
abbrev Store := List (Option SO)
def KTup (K : PySem.W.Frag) (a : Addr) (vs : List V) : Prop := ∃ (o : Obj) (its : Array Value) (n : Nat), K.lookup a = some o ∧ o.cls = .type "tuple" ∧ o.data = .seq its n ∧ its.size ≤ sizeLine ∧ Vals vs its.toList
def tyNames : List String := ["NoneType", "bool", "int", "str", "list", "tuple", "dict"]
structure IsaC (K : PySem.W.Frag) (C : Addr) : Prop where
  cl : Cls K C
  ha : PySem.W.findIn K (.ref C) "__class__" = some (some (.builtin "object.__class__"))
  hn : PySem.W.specialIn K (.builtin "object.__class__") "__get__" = some (some (.builtin "getset_descriptor.__get__"))
  ht : PySem.W.takesIn K (.builtin "object.__class__") = some true
  hm : PySem.W.mroIn K C (.type "object") = some true
structure KOk (K : PySem.W.Frag) (C : Addr) : Prop where
  isa : IsaC K C
  no : ∀ T ∈ tyNames, PySem.W.kitOne K (.ref C) (.type T) = some false
mutual
inductive Rep (K : PySem.W.Frag) (B : Hp) (β : List Addr) : V → D → Prop
  | non : Rep K B β .non .non
  | bl (b : Bool) : Rep K B β (.bl b) (.bl b)
  | int (i : Int) : Rep K B β (.int i) (.int i)
  | str (x : Str) : Rep K B β (.str x) (.str x)
  | lst {a : Addr} {vs : List V} {ds : List D} : B a = some (.lst vs) → Reps K B β vs ds → Rep K B β (.ref a) (.lst ds)
  | ro {a : Addr} {vs : List V} {ds : List D} : SqL K B a vs → Reps K B β vs ds → Rep K B β (.ref a) (.ro ds)
  | tup {a : Addr} {vs : List V} {ds : List D} : B a = some (.tup vs) → Reps K B β vs ds → Rep K B β (.ref a) (.tup ds)
  | dic {a : Addr} {kvs : List (Key × V)} {ds : List (Key × D)} : B a = some (.dK kvs) → RepK K B β kvs ds → Rep K B β (.ref a) (.dic ds)
  | dit {a : Addr} {kvs : List (List Key × V)} {ds : List (List Key × D)} : B a = some (.dT kvs) → RepT K B β kvs ds → Rep K B β (.ref a) (.dit ds)
  | kt {a : Addr} {vs : List V} {ds : List D} : KTup K a vs → Reps K B β vs ds → Rep K B β (.ref a) (.kt ds)
  | obj {a C dx : Addr} {fs : List (Str × V)} {ds : List (Str × D)} : B a = some (.ins C dx fs) → RepF K B β fs ds → KOk K C → Rep K B β (.ref a) (.obj C ds)
  | fnc {f : Addr} : Rep K B β (.ref f) (.fnc f)
  | ref {a : Addr} {n : Nat} : β[n]? = some a → Rep K B β (.ref a) (.ref n)
/-- fields -/
inductive RepF (K : PySem.W.Frag) (B : Hp) (β : List Addr) : List (Str × V) → List (Str × D) → Prop
  | nil : RepF K B β [] []
  | cons {f : Str} {v : V} {d : D} {vs : List (Str × V)} {ds : List (Str × D)} : Rep K B β v d → RepF K B β vs ds → RepF K B β ((f, v) :: vs) ((f, d) :: ds)
inductive Reps (K : PySem.W.Frag) (B : Hp) (β : List Addr) : List V → List D → Prop
  | nil : Reps K B β [] []
  | cons {v : V} {d : D} {vs : List V} {ds : List D} : Rep K B β v d → Reps K B β vs ds → Reps K B β (v :: vs) (d :: ds)
inductive RepK (K : PySem.W.Frag) (B : Hp) (β : List Addr) : List (Key × V) → List (Key × D) → Prop
  | nil : RepK K B β [] []
  | cons {k : Key} {v : V} {d : D} {vs : List (Key × V)} {ds : List (Key × D)} : Rep K B β v d → RepK K B β vs ds → RepK K B β ((k, v) :: vs) ((k, d) :: ds)
inductive RepT (K : PySem.W.Frag) (B : Hp) (β : List Addr) : List (List Key × V) → List (List Key × D) → Prop
  | nil : RepT K B β [] []
  | cons {k : List Key} {v : V} {d : D} {vs : List (List Key × V)} {ds : List (List Key × D)} : Rep K B β v d → RepT K B β vs ds → RepT K B β ((k, v) :: vs) ((k, d) :: ds)
end
section
variable {K : PySem.W.Frag} {B B' : Hp} {β β' : List Addr}
def Pre (β β' : List Addr) : Prop := ∃ γ, β' = β ++ γ
theorem Pre.refl (β : List Addr) : Pre β β := ⟨[], by simp⟩
theorem Pre.trans {a b c : List Addr} (x : Pre a b) (y : Pre b c) : Pre a c := by
  obtain ⟨g, rfl⟩ := x
  obtain ⟨g', rfl⟩ := y
  exact ⟨g ++ g', by simp⟩
theorem Pre.get (h : Pre β β') {n : Nat} {a : Addr} (e : β[n]? = some a) : β'[n]? = some a := by
  obtain ⟨g, rfl⟩ := h
  rw [List.getElem?_append_left (List.getElem?_eq_some_iff.mp e).1]
  exact e
mutual
theorem Rep.mono (e : Ex B B') (p : Pre β β') : ∀ {d : D} {v : V}, Rep K B β v d → Rep K B' β' v d
  | .non, _, h => by cases h; exact .non
  | .bl b, _, h => by cases h; exact .bl b
  | .int i, _, h => by cases h; exact .int i
  | .str x, _, h => by cases h; exact .str x
  | .lst ds, _, h => by
    cases h with
    | lst h1 h2 => exact .lst (e _ _ h1) (Reps.mono e p h2)
  | .ro ds, _, h => by
    cases h with
    | ro h1 h2 => exact .ro (Evl.ex_l e h1) (Reps.mono e p h2)
  | .tup ds, _, h => by
    cases h with
    | tup h1 h2 => exact .tup (e _ _ h1) (Reps.mono e p h2)
  | .dic ds, _, h => by
    cases h with
    | dic h1 h2 => exact .dic (e _ _ h1) (RepK.mono e p h2)
  | .dit ds, _, h => by
    cases h with
    | dit h1 h2 => exact .dit (e _ _ h1) (RepT.mono e p h2)
  | .kt ds, _, h => by
    cases h with
    | kt h1 h2 => exact .kt h1 (Reps.mono e p h2)
  | .obj C ds, _, h => by
    cases h with
    | obj h1 h2 h3 => exact .obj (e _ _ h1) (RepF.mono e p h2) h3
  | .fnc f, _, h => by
    cases h
    exact .fnc
  | .ref n, _, h => by
    cases h with
    | ref h => exact .ref (p.get h)
theorem RepF.mono (e : Ex B B') (p : Pre β β') : ∀ {ds : List (Str × D)} {vs : List (Str × V)}, RepF K B β vs ds → RepF K B' β' vs ds
  | [], _, h => by cases h; exact .nil
  | (k, d) :: ds, _, h => by
    cases h with
    | cons h1 h2 => exact .cons (Rep.mono e p h1) (RepF.mono e p h2)
theorem Reps.mono (e : Ex B B') (p : Pre β β') : ∀ {ds : List D} {vs : List V}, Reps K B β vs ds → Reps K B' β' vs ds
  | [], _, h => by cases h; exact .nil
  | d :: ds, _, h => by
    cases h with
    | cons h1 h2 => exact .cons (Rep.mono e p h1) (Reps.mono e p h2)
theorem RepK.mono (e : Ex B B') (p : Pre β β') : ∀ {ds : List (Key × D)} {vs : List (Key × V)}, RepK K B β vs ds → RepK K B' β' vs ds
  | [], _, h => by cases h; exact .nil
  | (k, d) :: ds, _, h => by
    cases h with
    | cons h1 h2 => exact .cons (Rep.mono e p h1) (RepK.mono e p h2)
theorem RepT.mono (e : Ex B B') (p : Pre β β') : ∀ {ds : List (List Key × D)} {vs : List (List Key × V)}, RepT K B β vs ds → RepT K B' β' vs ds
  | [], _, h => by cases h; exact .nil
  | (k, d) :: ds, _, h => by
    cases h with
    | cons h1 h2 => exact .cons (Rep.mono e p h1) (RepT.mono e p h2)
end
theorem Reps.len : ∀ {ds : List D} {vs : List V}, Reps K B β vs ds → vs.length = ds.length
  | [], _, h => by cases h; rfl
  | d :: ds, _, h => by
    cases h with
    | cons h1 h2 => simp [Reps.len h2]
theorem Reps.get : ∀ {ds : List D} {vs : List V} {i : Nat} {d : D}, Reps K B β vs ds → ds[i]? = some d → ∃ v, vs[i]? = some v ∧ Rep K B β v d
  | [], _, _, _, _, e => by simp at e
  | d :: ds, _, 0, x, h, e => by
    cases h with
    | cons h1 h2 =>
      have e' : d = x := by simpa using e
      subst e'
      exact ⟨_, rfl, h1⟩
  | d :: ds, _, i + 1, x, h, e => by
    cases h with
    | cons h1 h2 =>
      obtain ⟨v, q, r⟩ := Reps.get (i := i) h2 (by simpa using e)
      exact ⟨v, by simpa using q, r⟩
theorem Reps.getV : ∀ {vs : List V} {ds : List D} {i : Nat} {v : V}, Reps K B β vs ds → vs[i]? = some v → ∃ d, ds[i]? = some d ∧ Rep K B β v d := fun {vs ds i v} h e => by
  have hi := (List.getElem?_eq_some_iff.mp e).1
  have hd : i < ds.length := by rw [← h.len]; exact hi
  obtain ⟨v', e', r⟩ := h.get (List.getElem?_eq_getElem hd)
  rw [e] at e'
  cases e'
  exact ⟨_, List.getElem?_eq_getElem hd, r⟩
theorem Reps.append : ∀ {ds es : List D} {vs us : List V}, Reps K B β vs ds → Reps K B β us es → Reps K B β (vs ++ us) (ds ++ es)
  | [], _, _, _, h, k => by cases h; exact k
  | d :: ds, _, _, _, h, k => by
    cases h with
    | cons h1 h2 => exact .cons h1 (Reps.append h2 k)
theorem Reps.take : ∀ {ds : List D} {vs : List V} (n : Nat), Reps K B β vs ds → Reps K B β (vs.take n) (ds.take n)
  | [], _, n, h => by cases h; simp; exact .nil
  | d :: ds, _, 0, h => by simp; exact .nil
  | d :: ds, _, n + 1, h => by
    cases h with
    | cons h1 h2 => exact .cons h1 (Reps.take n h2)
theorem Reps.drop : ∀ {ds : List D} {vs : List V} (n : Nat), Reps K B β vs ds → Reps K B β (vs.drop n) (ds.drop n)
  | [], _, n, h => by cases h; simp; exact .nil
  | d :: ds, _, 0, h => h
  | d :: ds, _, n + 1, h => by
    cases h with
    | cons h1 h2 => exact Reps.drop n h2
theorem Reps.set {v : V} {d : D} (r : Rep K B β v d) : ∀ {ds : List D} {vs : List V} (n : Nat), Reps K B β vs ds → Reps K B β (vs.set n v) (ds.set n d)
  | [], _, n, h => by cases h; exact .nil
  | _ :: ds, _, 0, h => by
    cases h with
    | cons h1 h2 => exact .cons r h2
  | _ :: ds, _, n + 1, h => by
    cases h with
    | cons h1 h2 => exact .cons h1 (Reps.set r n h2)
theorem Reps.ints : ∀ {ns : List Int}, Reps K B β (ns.map V.int) (ns.map D.int)
  | [] => .nil
  | n :: ns => .cons (.int n) Reps.ints
end
open Classical in
noncomputable def hid (X : List Addr) (β : List Addr) (S : Store) (H : Hp) : Hp := fun a => if a ∈ X ∨ ∃ (n : Nat) (o : SO), β[n]? = some a ∧ S[n]? = some (some o) then none else H a
def excH (a C dd : Addr) : HO := .ext fun h => ∃ (o : Obj) (vs : Array Value), h.get? a = some o ∧ o.cls = .ref C ∧ o.dict = some dd ∧ o.data = .fields vs
def fnH (a : Addr) (o : Obj) : HO := .ext fun h => h.get? a = some o
theorem RepF.look {K : PySem.W.Frag} {B : Hp} {β : List Addr} {f : Str} : ∀ {vs : List (Str × V)} {ds : List (Str × D)}, RepF K B β vs ds → ∀ {d : D}, ds.lookup f = some d → ∃ v, vs.lookup f = some v ∧ Rep K B β v d
  | _, [], h, _, l => by cases l
  | _, (g, e) :: ds, h, d, l => by
    cases h with
    | cons r h2 =>
      simp only [List.lookup] at l ⊢
      split at l
      · cases l
        exact ⟨_, rfl, r⟩
      · exact RepF.look h2 l
def SRep (K : PySem.W.Frag) (B : Hp) (β : List Addr) (H : Hp) (a : Addr) : SO → Prop
  | .lst ds => ∃ vs, H a = some (.lst vs) ∧ Reps K B β vs ds
  | .exc C es => ∃ dd fs, H a = some (excH a C dd) ∧ B dd = some (.xd fs) ∧ RepF K B β fs es
  | .fn f o => a = f ∧ H a = some (fnH a o)
  | .dct ds => ∃ vs, H a = some (.dK vs) ∧ RepK K B β vs ds
  | .dtt ds => ∃ vs, H a = some (.dT vs) ∧ RepT K B β vs ds
  | .dcl ds od vs => H a = some (.frz od (.dK vs)) ∧ RepK K B β vs ds
  | .dtl ds od vs => H a = some (.frz od (.dT vs)) ∧ RepT K B β vs ds
  | .ins C ds => ∃ dx vs, H a = some (.ins C dx vs) ∧ RepF K B β vs ds ∧ KOk K C
  | .rng lo hi => H a = some (.rng lo hi)
structure W0 where
  Y : List Addr
  β : List Addr
  S : Store
  H : Hp
structure Gh where
  w : List W0
  T : List (Addr × Str)
def Kept (H H' : Hp) (a : Addr) : Prop := H' a = H a ∨ (∃ ps, H a = some (.tbl ps)) ∧ ∃ ps, H' a = some (.tbl ps)
theorem Kept.trans {H H' H'' : Hp} {a : Addr} (x : Kept H H' a) (y : Kept H' H'' a) : Kept H H'' a := by
  rcases x with x | ⟨⟨p, x1⟩, q, x2⟩
  · rcases y with y | ⟨⟨p, y1⟩, q, y2⟩
    · exact .inl (y.trans x)
    · exact .inr ⟨⟨p, x.symm.trans y1⟩, q, y2⟩
  · rcases y with y | ⟨_, r, y2⟩
    · exact .inr ⟨⟨p, x1⟩, q, y.trans x2⟩
    · exact .inr ⟨⟨p, x1⟩, r, y2⟩
theorem Kept.at {H H' : Hp} {a : Addr} {o : HO} (x : Kept H H' a) (h : H a = some o) (n : ∀ ps, o ≠ .tbl ps) : H' a = some o := by
  rcases x with x | ⟨⟨p, x1⟩, _⟩
  · exact x.trans h
  · rw [h] at x1
    exact (n p (Option.some.inj x1)).elim
structure TabsOk (T : List (Addr × Str)) (X : List Addr) (H : Hp) : Prop where
  tabs : LamX.Tabs T H
  hid : ∀ p ∈ T, p.1 ∈ X
  nt : ∀ a ∈ X, ∀ us, H a ≠ some (.tup us)
theorem TabsOk.upd {T : List (Addr × Str)} {X : List Addr} {H : Hp} {a : Addr} {o u : HO} (t : TabsOk T X H) (h : H a = none ∨ H a = some o ∧ (∀ ps, o ≠ .tbl ps) ∧ ∀ c q, o ≠ LamX.CodeO c q) (hx : a ∉ X ∨ ∀ us, u ≠ .tup us) : TabsOk T X (upd H a u) := by
  have ne : ∀ {b : Addr} {z : HO}, H b = some z → ((∃ ps, z = .tbl ps) ∨ ∃ c q, z = LamX.CodeO c q) → b ≠ a := fun {b z} hb hz e => by
    subst e
    rcases h with h | ⟨h, n1, n2⟩
    · rw [h] at hb
      cases hb
    · rw [h] at hb
      cases hb
      rcases hz with ⟨ps, e⟩ | ⟨c, q, e⟩
      · exact n1 ps e
      · exact n2 c q e
  refine ⟨fun p hp => ?_, t.hid, fun b hb us e => ?_⟩
  rotate_left
  · by_cases z : b = a
    · subst z
      rw [upd_same] at e
      rcases hx with hx | hx
      · exact hx hb
      · exact hx us (Option.some.inj e)
    · rw [upd_ne z] at e
      exact t.nt b hb us e
  obtain ⟨ps, h1, h2, h3⟩ := t.tabs p hp
  refine ⟨ps, by rw [upd_ne (ne h1 (.inl ⟨_, rfl⟩))]; exact h1, h2, fun pos cv hc => ?_⟩
  obtain ⟨c, e1, e2⟩ := h3 pos cv hc
  exact ⟨c, e1, by rw [upd_ne (ne e2 (.inr ⟨_, _, rfl⟩))]; exact e2⟩
theorem code_lst {c : Addr} {q : Str} {us : List V} : HO.lst us ≠ LamX.CodeO c q := fun z => by
  unfold LamX.CodeO at z
  cases z
structure Since (w : W0) (X : List Addr) (β : List Addr) (S : Store) (H : Hp) : Prop where
  pre : Pre w.β β
  ex : Ex (hid w.Y w.β w.S w.H) (hid X β S H)
  ext : ∀ a ∈ w.Y, a ∈ X ∧ Kept w.H H a
  trk : ∀ a, w.H a ≠ none → H a ≠ none
theorem Since.on {w : W0} {X : List Addr} {β β' : List Addr} {S S' : Store} {H H' : Hp} (s : Since w X β S H) (pre : Pre β β') (ex : Ex (hid X β S H) (hid X β' S' H')) (ext : ∀ a ∈ X, Kept H H' a) (trk : ∀ a, H a ≠ none → H' a ≠ none) : Since w X β' S' H' :=
  ⟨s.pre.trans pre, s.ex.trans ex, fun a ha => ⟨(s.ext a ha).1, (s.ext a ha).2.trans (ext a (s.ext a ha).1)⟩, fun a h => trk a (s.trk a h)⟩
structure Ok (K : PySem.W.Frag) (G : Gh) (X : List Addr) (β : List Addr) (S : Store) (H : Hp) : Prop where
  len : β.length = S.length
  nd : β.Nodup
  out : ∀ a ∈ β, a ∉ X
  trk : ∀ a ∈ β, H a ≠ none
  xtrk : ∀ a ∈ X, H a ≠ none
  obj : ∀ (n : Nat) (o : SO), S[n]? = some (some o) → ∃ a, β[n]? = some a ∧ SRep K (hid X β S H) β H a o
  gh : ∀ w, w ∈ G.w → Since w X β S H
  tb : TabsOk G.T X H
structure Step (K : PySem.W.Frag) (G : Gh) (X : List Addr) (β : List Addr) (S : Store) (H : Hp) (β' : List Addr) (S' : Store) (H' : Hp) : Prop where
  pre : Pre β β'
  ex : Ex (hid X β S H) (hid X β' S' H')
  ext : ∀ a ∈ X, Kept H H' a
  trk : ∀ a, H a ≠ none → H' a ≠ none
  ok : Ok K G X β' S' H'
section
variable {K : PySem.W.Frag} {X : List Addr} {β β' β'' : List Addr} {S S' S'' : Store} {H H' H'' : Hp}
theorem Step.refl (o : Ok K G X β S H) : Step K G X β S H β S H := ⟨.refl _, Ex.refl _, fun _ _ => .inl rfl, fun _ h => h, o⟩
theorem Step.trans (a : Step K G X β S H β' S' H') (b : Step K G X β' S' H' β'' S'' H'') : Step K G X β S H β'' S'' H'' :=
  ⟨a.pre.trans b.pre, a.ex.trans b.ex, fun c hc => (a.ext c hc).trans (b.ext c hc), fun c h => b.trk c (a.trk c h), b.ok⟩
theorem Step.rep (a : Step K G X β S H β' S' H') {v : V} {d : D} (r : Rep K (hid X β S H) β v d) : Rep K (hid X β' S' H') β' v d := r.mono a.ex a.pre
theorem Step.reps (a : Step K G X β S H β' S' H') {v : List V} {d : List D} (r : Reps K (hid X β S H) β v d) : Reps K (hid X β' S' H') β' v d := r.mono a.ex a.pre
theorem hid_ex : Ex (hid X β S H) H := fun a o h => by
  unfold hid at h
  split at h
  · cases h
  · exact h
theorem hid_of {a : Addr} (h1 : a ∉ X) (h2 : ∀ (n : Nat) (o : SO), β[n]? = some a → S[n]? = some (some o) → False) : hid X β S H a = H a := by
  unfold hid
  rw [if_neg]
  rintro (h | ⟨n, o, e1, e2⟩)
  · exact h1 h
  · exact h2 n o e1 e2
theorem hid_live {a : Addr} {n : Nat} {o : SO} (h1 : β[n]? = some a) (h2 : S[n]? = some (some o)) : hid X β S H a = none := by
  unfold hid
  rw [if_pos (.inr ⟨n, o, h1, h2⟩)]
theorem SRep.keep {B B' : Hp} {a : Addr} {o : SO} (e : Ex B B') (p : Pre β β') (h : H a ≠ none → H' a = H a) (r : SRep K B β H a o) : SRep K B' β' H' a o := by
  cases o with
  | lst ds =>
    obtain ⟨vs, h1, h2⟩ := r
    exact ⟨vs, (h (by rw [h1]; simp)).trans h1, h2.mono e p⟩
  | exc C es =>
    obtain ⟨dd, fs, h1, h2, h3⟩ := r
    exact ⟨dd, fs, (h (by rw [h1]; simp)).trans h1, e _ _ h2, h3.mono e p⟩
  | fn f o => exact ⟨r.1, (h (by rw [r.2]; simp)).trans r.2⟩
  | dct ds =>
    obtain ⟨vs, h1, h2⟩ := r
    exact ⟨vs, (h (by rw [h1]; simp)).trans h1, h2.mono e p⟩
  | dtt ds =>
    obtain ⟨vs, h1, h2⟩ := r
    exact ⟨vs, (h (by rw [h1]; simp)).trans h1, h2.mono e p⟩
  | dcl ds od vs =>
    obtain ⟨h1, h2⟩ := r
    exact ⟨(h (by rw [h1]; simp)).trans h1, h2.mono e p⟩
  | dtl ds od vs =>
    obtain ⟨h1, h2⟩ := r
    exact ⟨(h (by rw [h1]; simp)).trans h1, h2.mono e p⟩
  | ins C ds =>
    obtain ⟨dx, vs, h1, h2, h3⟩ := r
    exact ⟨dx, vs, (h (by rw [h1]; simp)).trans h1, h2.mono e p, h3⟩
  | rng lo hi =>
    have r : H a = some (.rng lo hi) := r
    exact (h (by rw [r]; simp)).trans r
theorem Ok.new (o : Ok K G X β S H) {p : Addr} (ob : HO) (hp : H p = none) : Step K G X β S H β S (upd H p ob) := by
  have hx : ∀ a, H a ≠ none → a ≠ p := fun a h e => h (e ▸ hp)
  have he : ∀ a, H a ≠ none → upd H p ob a = H a := fun a h => upd_ne (hx a h)
  have ex : Ex (hid X β S H) (hid X β S (upd H p ob)) := fun a u h => by
    unfold hid at h ⊢
    split at h
    · cases h
    · rename_i hn
      rw [if_neg hn, he a (by rw [h]; simp)]
      exact h
  have tr : ∀ a, H a ≠ none → upd H p ob a ≠ none := fun a h => by rw [he a h]; exact h
  refine ⟨.refl _, ex, fun a ha => .inl (he a (o.xtrk a ha)), tr, ⟨o.len, o.nd, o.out, fun a ha => tr a (o.trk a ha), fun a ha => tr a (o.xtrk a ha), fun n so e => ?_, fun w hw => (o.gh w hw).on (.refl _) ex (fun a ha => .inl (he a (o.xtrk a ha))) tr, o.tb.upd (o := .tup []) (.inl hp) (.inl fun z => o.xtrk p z hp)⟩⟩
  obtain ⟨a, e1, r⟩ := o.obj n so e
  exact ⟨a, e1, r.keep ex (.refl _) (he a)⟩
theorem Ok.new_at (o : Ok K G X β S H) {p : Addr} (ob : HO) (hp : H p = none) : hid X β S (upd H p ob) p = some ob := by
  rw [hid_of, upd_same]
  · exact fun h => o.xtrk p h hp
  · exact fun n so h _ => o.trk p (List.mem_of_getElem? h) hp
def drf (S : Store) : D → D
  | .ref n => match S[n]? with
    | some (some (.lst ds)) => .lst ds
    | some (some (.dct ds)) => .dic ds
    | some (some (.dtt ds)) => .dit ds
    | some (some (.ins C ds)) => .obj C ds
    | _ => .ref n
  | d => d
theorem Ok.drf (o : Ok K G X β S H) {v : V} {d : D} (r : Rep K (hid X β S H) β v d) : Rep K H β v (drf S d) := by
  have r' := r.mono hid_ex (.refl _)
  cases d with
  | ref n =>
    show Rep K H β v (match S[n]? with | some (some (.lst ds)) => .lst ds | some (some (.dct ds)) => .dic ds | some (some (.dtt ds)) => .dit ds | some (some (.ins C ds)) => .obj C ds | _ => .ref n)
    split
    · rename_i ds e
      obtain ⟨a, e1, vs, h1, h2⟩ := o.obj n _ e
      cases r with
      | ref h =>
        rw [e1] at h
        cases h
        exact .lst h1 (h2.mono hid_ex (.refl _))
    · rename_i ds e
      obtain ⟨a, e1, vs, h1, h2⟩ := o.obj n _ e
      cases r with
      | ref h =>
        rw [e1] at h
        cases h
        exact .dic h1 (h2.mono hid_ex (.refl _))
    · rename_i ds e
      obtain ⟨a, e1, vs, h1, h2⟩ := o.obj n _ e
      cases r with
      | ref h =>
        rw [e1] at h
        cases h
        exact .dit h1 (h2.mono hid_ex (.refl _))
    · rename_i C ds e
      obtain ⟨a, e1, dx, vs, h1, h2, h3⟩ := o.obj n _ e
      cases r with
      | ref h =>
        rw [e1] at h
        cases h
        exact .obj h1 (h2.mono hid_ex (.refl _)) h3
    · exact r'
  | _ => exact r'
theorem Ok.put (o : Ok K G X β S H) {n : Nat} {os : List D} {a : Addr} {vs : List V} {ds : List D} (hs : S[n]? = some (some (.lst os))) (ha : β[n]? = some a) (hv : Reps K (hid X β S H) β vs ds) :
    Step K G X β S H β (S.set n (some (.lst ds))) (upd H a (.lst vs)) := by
  have hn : n < S.length := (List.getElem?_eq_some_iff.mp hs).1
  have hlive : ∀ (m : Nat), (∃ o', (S.set n (some (SO.lst ds)))[m]? = some (some o')) ↔ ∃ o', S[m]? = some (some o') := fun m => by
    by_cases e : m = n
    · subst e
      rw [List.getElem?_set_self hn]
      exact ⟨fun _ => ⟨_, hs⟩, fun _ => ⟨_, rfl⟩⟩
    · rw [List.getElem?_set_ne (Ne.symm e)]
  have heq : ∀ b, b ≠ a → upd H a (.lst vs) b = H b := fun b h => upd_ne h
  have ex : Ex (hid X β S H) (hid X β (S.set n (some (.lst ds))) (upd H a (.lst vs))) := fun b u h => by
    have hb : b ≠ a := by
      rintro rfl
      rw [hid_live ha hs] at h
      cases h
    unfold hid at h ⊢
    split at h
    · cases h
    · rename_i hn'
      rw [if_neg, heq b hb]
      · exact h
      · rintro (hx | ⟨m, o', e1, e2⟩)
        · exact hn' (.inl hx)
        · obtain ⟨o'', e3⟩ := (hlive m).mp ⟨o', e2⟩
          exact hn' (.inr ⟨m, o'', e1, e3⟩)
  have tr : ∀ b, H b ≠ none → upd H a (.lst vs) b ≠ none := fun b h => by
    by_cases e : b = a
    · subst e
      rw [upd_same]
      simp
    · rw [heq b e]
      exact h
  have ham := List.mem_of_getElem? ha
  have hext : ∀ b ∈ X, Kept H (upd H a (.lst vs)) b := fun b hb => .inl (heq b fun e => o.out a ham (e ▸ hb))
  have hlst : ∃ us, H a = some (.lst us) := by
    obtain ⟨b, e1, us, h1, _⟩ := o.obj n _ hs
    rw [ha] at e1
    cases e1
    exact ⟨us, h1⟩
  obtain ⟨us, hus⟩ := hlst
  refine ⟨.refl _, ex, hext, tr, ⟨by rw [List.length_set]; exact o.len, o.nd, o.out, fun b hb => tr b (o.trk b hb), fun b hb => tr b (o.xtrk b hb), fun m o' e => ?_, fun w hw => (o.gh w hw).on (.refl _) ex hext tr, o.tb.upd (.inr ⟨hus, fun _ z => (by cases z), fun _ _ => code_lst⟩) (.inl (o.out a ham))⟩⟩
  by_cases e0 : m = n
  · subst e0
    rw [List.getElem?_set_self hn] at e
    cases e
    exact ⟨a, ha, vs, upd_same, hv.mono ex (.refl _)⟩
  · rw [List.getElem?_set_ne (Ne.symm e0)] at e
    obtain ⟨b, e1, r⟩ := o.obj m o' e
    have hb : b ≠ a := by
      rintro rfl
      have h1 := (List.getElem?_eq_some_iff.mp e1)
      have h2 := (List.getElem?_eq_some_iff.mp ha)
      obtain ⟨i1, q1⟩ := h1
      obtain ⟨i2, q2⟩ := h2
      exact e0 ((List.getElem_inj o.nd).mp (q1.trans q2.symm))
    exact ⟨b, e1, r.keep ex (.refl _) fun _ => heq b hb⟩
theorem Ok.frz (o : Ok K G X β S H) {n : Nat} {ds : List D} (hs : S[n]? = some (some (.lst ds))) : Step K G X β S H β (S.set n none) H ∧ ∀ a, β[n]? = some a → Rep K (hid X β (S.set n none) H) β (.ref a) (.lst ds) := by
  have hn : n < S.length := (List.getElem?_eq_some_iff.mp hs).1
  have back : ∀ (m : Nat) (o' : SO), (S.set n none)[m]? = some (some o') → S[m]? = some (some o') ∧ m ≠ n := fun m o' e => by
    by_cases h : m = n
    · subst h
      rw [List.getElem?_set_self hn] at e
      cases e
    · rw [List.getElem?_set_ne (Ne.symm h)] at e
      exact ⟨e, h⟩
  have ex : Ex (hid X β S H) (hid X β (S.set n none) H) := fun b u h => by
    unfold hid at h ⊢
    split at h
    · cases h
    · rename_i hn'
      rw [if_neg]
      · exact h
      · rintro (hx | ⟨m, o', e1, e2⟩)
        · exact hn' (.inl hx)
        · exact hn' (.inr ⟨m, o', e1, (back m o' e2).1⟩)
  refine ⟨⟨.refl _, ex, fun _ _ => .inl rfl, fun _ h => h, ⟨by rw [List.length_set]; exact o.len, o.nd, o.out, o.trk, o.xtrk, fun m o' e => ?_, fun w hw => (o.gh w hw).on (.refl _) ex (fun _ _ => .inl rfl) (fun _ h => h), o.tb⟩⟩, fun a ha => ?_⟩
  · obtain ⟨b, e1, r⟩ := o.obj m o' (back m o' e).1
    exact ⟨b, e1, r.keep ex (.refl _) fun _ => rfl⟩
  · obtain ⟨b, e1, vs, h1, h2⟩ := o.obj n _ hs
    rw [ha] at e1
    cases e1
    refine .lst ?_ (h2.mono ex (.refl _))
    rw [hid_of]
    · exact h1
    · exact o.out a (List.mem_of_getElem? ha)
    · intro m o' e2 e3
      obtain ⟨e4, hne⟩ := back m o' e3
      obtain ⟨i1, q1⟩ := List.getElem?_eq_some_iff.mp e2
      obtain ⟨i2, q2⟩ := List.getElem?_eq_some_iff.mp ha
      exact hne ((List.getElem_inj o.nd).mp (q1.trans q2.symm))
theorem Ok.putG (o : Ok K G X β S H) {n : Nat} {os so : SO} {a : Addr} {u0 ob : HO} (hs : S[n]? = some (some os)) (ha : β[n]? = some a) (hu : H a = some u0 ∧ (∀ ps, u0 ≠ .tbl ps) ∧ ∀ c q, u0 ≠ LamX.CodeO c q) (hv : ∀ B β', Ex (hid X β S H) B → Pre β β' → SRep K B β' (upd H a ob) a so) :
    Step K G X β S H β (S.set n (some so)) (upd H a ob) := by
  have hn : n < S.length := (List.getElem?_eq_some_iff.mp hs).1
  have hlive : ∀ (m : Nat), (∃ o', (S.set n (some so))[m]? = some (some o')) ↔ ∃ o', S[m]? = some (some o') := fun m => by
    by_cases e : m = n
    · subst e
      rw [List.getElem?_set_self hn]
      exact ⟨fun _ => ⟨_, hs⟩, fun _ => ⟨_, rfl⟩⟩
    · rw [List.getElem?_set_ne (Ne.symm e)]
  have heq : ∀ b, b ≠ a → upd H a ob b = H b := fun b h => upd_ne h
  have ex : Ex (hid X β S H) (hid X β (S.set n (some so)) (upd H a ob)) := fun b u h => by
    have hb : b ≠ a := by
      rintro rfl
      rw [hid_live ha hs] at h
      cases h
    unfold hid at h ⊢
    split at h
    · cases h
    · rename_i hn'
      rw [if_neg, heq b hb]
      · exact h
      · rintro (hx | ⟨m, o', e1, e2⟩)
        · exact hn' (.inl hx)
        · obtain ⟨o'', e3⟩ := (hlive m).mp ⟨o', e2⟩
          exact hn' (.inr ⟨m, o'', e1, e3⟩)
  have tr : ∀ b, H b ≠ none → upd H a ob b ≠ none := fun b h => by
    by_cases e : b = a
    · subst e
      rw [upd_same]
      simp
    · rw [heq b e]
      exact h
  have ham := List.mem_of_getElem? ha
  have hext : ∀ b ∈ X, Kept H (upd H a ob) b := fun b hb => .inl (heq b fun e => o.out a ham (e ▸ hb))
  refine ⟨.refl _, ex, hext, tr, ⟨by rw [List.length_set]; exact o.len, o.nd, o.out, fun b hb => tr b (o.trk b hb), fun b hb => tr b (o.xtrk b hb), fun m o' e => ?_, fun w hw => (o.gh w hw).on (.refl _) ex hext tr, o.tb.upd (.inr hu) (.inl (o.out a ham))⟩⟩
  by_cases e0 : m = n
  · subst e0
    rw [List.getElem?_set_self hn] at e
    cases e
    exact ⟨a, ha, hv _ _ ex (.refl _)⟩
  · rw [List.getElem?_set_ne (Ne.symm e0)] at e
    obtain ⟨b, e1, r⟩ := o.obj m o' e
    have hb : b ≠ a := by
      rintro rfl
      have h1 := (List.getElem?_eq_some_iff.mp e1)
      have h2 := (List.getElem?_eq_some_iff.mp ha)
      obtain ⟨i1, q1⟩ := h1
      obtain ⟨i2, q2⟩ := h2
      exact e0 ((List.getElem_inj o.nd).mp (q1.trans q2.symm))
    exact ⟨b, e1, r.keep ex (.refl _) fun _ => heq b hb⟩
theorem Ok.frzG (o : Ok K G X β S H) {n : Nat} {so : SO} (hs : S[n]? = some (some so)) : Step K G X β S H β (S.set n none) H ∧ ∀ a, β[n]? = some a → SRep K (hid X β (S.set n none) H) β H a so ∧ hid X β (S.set n none) H a = H a := by
  have hn : n < S.length := (List.getElem?_eq_some_iff.mp hs).1
  have back : ∀ (m : Nat) (o' : SO), (S.set n none)[m]? = some (some o') → S[m]? = some (some o') ∧ m ≠ n := fun m o' e => by
    by_cases h : m = n
    · subst h
      rw [List.getElem?_set_self hn] at e
      cases e
    · rw [List.getElem?_set_ne (Ne.symm h)] at e
      exact ⟨e, h⟩
  have ex : Ex (hid X β S H) (hid X β (S.set n none) H) := fun b u h => by
    unfold hid at h ⊢
    split at h
    · cases h
    · rename_i hn'
      rw [if_neg]
      · exact h
      · rintro (hx | ⟨m, o', e1, e2⟩)
        · exact hn' (.inl hx)
        · exact hn' (.inr ⟨m, o', e1, (back m o' e2).1⟩)
  refine ⟨⟨.refl _, ex, fun _ _ => .inl rfl, fun _ h => h, ⟨by rw [List.length_set]; exact o.len, o.nd, o.out, o.trk, o.xtrk, fun m o' e => ?_, fun w hw => (o.gh w hw).on (.refl _) ex (fun _ _ => .inl rfl) (fun _ h => h), o.tb⟩⟩, fun a ha => ?_⟩
  · obtain ⟨b, e1, r⟩ := o.obj m o' (back m o' e).1
    exact ⟨b, e1, r.keep ex (.refl _) fun _ => rfl⟩
  · obtain ⟨b, e1, r⟩ := o.obj n _ hs
    rw [ha] at e1
    cases e1
    refine ⟨r.keep ex (.refl _) fun _ => rfl, ?_⟩
    rw [hid_of]
    · exact o.out a (List.mem_of_getElem? ha)
    · intro m o' e2 e3
      obtain ⟨e4, hne⟩ := back m o' e3
      obtain ⟨i1, q1⟩ := List.getElem?_eq_some_iff.mp e2
      obtain ⟨i2, q2⟩ := List.getElem?_eq_some_iff.mp ha
      exact hne ((List.getElem_inj o.nd).mp (q1.trans q2.symm))
theorem Ok.alloc' (o : Ok K G X β S H) {p : Addr} {ob : HO} {so : SO} (hp : H p = none) (hv : ∀ B β', Ex (hid X β S H) B → Pre β β' → SRep K B β' (upd H p ob) p so) :
    Step K G X β S H (β ++ [p]) (S ++ [some so]) (upd H p ob) := by
  have hx : ∀ a, H a ≠ none → a ≠ p := fun a h e => h (e ▸ hp)
  have he : ∀ a, H a ≠ none → upd H p ob a = H a := fun a h => upd_ne (hx a h)
  have pre : Pre β (β ++ [p]) := ⟨[p], rfl⟩
  have ex : Ex (hid X β S H) (hid X (β ++ [p]) (S ++ [some so]) (upd H p ob)) := fun b u h => by
    have hb : H b ≠ none := by
      rw [hid_ex b u h]
      simp
    unfold hid at h ⊢
    split at h
    · cases h
    · rename_i hn
      rw [if_neg, he b hb]
      · exact h
      · rintro (h' | ⟨m, o', e1, e2⟩)
        · exact hn (.inl h')
        · by_cases hm : m < β.length
          · rw [List.getElem?_append_left hm] at e1
            rw [List.getElem?_append_left (by rw [← o.len]; exact hm)] at e2
            exact hn (.inr ⟨m, o', e1, e2⟩)
          · rw [List.getElem?_append_right (by omega)] at e1
            have e3 : b = p := by
              have := List.mem_of_getElem? e1
              simpa using this
            exact hx b hb e3
  have tr : ∀ a, H a ≠ none → upd H p ob a ≠ none := fun a h => by rw [he a h]; exact h
  refine ⟨pre, ex, fun a ha => .inl (he a (o.xtrk a ha)), tr, ⟨by simp [o.len], ?_, fun a ha => ?_, fun a ha => ?_, fun a ha => tr a (o.xtrk a ha), fun m o' e => ?_, fun w hw => (o.gh w hw).on pre ex (fun a ha => .inl (he a (o.xtrk a ha))) tr, o.tb.upd (o := .tup []) (.inl hp) (.inl fun z => o.xtrk p z hp)⟩⟩
  · rw [List.nodup_append]
    refine ⟨o.nd, by simp, fun a ha b hb => ?_⟩
    have e3 : b = p := by simpa using hb
    rw [e3]
    exact hx a (o.trk a ha)
  · rcases List.mem_append.mp ha with h | h
    · exact o.out a h
    · have e3 : a = p := by simpa using h
      subst e3
      exact fun hX => o.xtrk a hX hp
  · rcases List.mem_append.mp ha with h | h
    · exact tr a (o.trk a h)
    · have e3 : a = p := by simpa using h
      subst e3
      rw [upd_same]
      simp
  · by_cases hm : m < S.length
    · rw [List.getElem?_append_left hm] at e
      obtain ⟨a, e1, r⟩ := o.obj m o' e
      exact ⟨a, pre.get e1, r.keep ex pre (he a)⟩
    · rw [List.getElem?_append_right (by omega)] at e
      have hm' : m - S.length = 0 := by
        have := (List.getElem?_eq_some_iff.mp e).1
        simp at this
        omega
      rw [hm'] at e
      cases e
      refine ⟨p, ?_, hv _ _ ex pre⟩
      rw [List.getElem?_append_right (by rw [o.len]; omega), o.len, hm']
      rfl
theorem Ok.alloc (o : Ok K G X β S H) {p : Addr} {vs : List V} {ds : List D} (hp : H p = none) (hv : Reps K (hid X β S H) β vs ds) :
    Step K G X β S H (β ++ [p]) (S ++ [some (.lst ds)]) (upd H p (.lst vs)) := o.alloc' hp fun _ _ e pr => ⟨vs, upd_same, hv.mono e pr⟩
theorem Ok.catch (o : Ok K G X β S H) {p C dd : Addr} {fs : List (Str × V)} {es : List (Str × D)} (hp : H p = none) (hd : hid X β S H dd = some (.xd fs)) (hv : RepF K (hid X β S H) β fs es) :
    Step K G X β S H (β ++ [p]) (S ++ [some (.exc C es)]) (upd H p (excH p C dd)) := o.alloc' hp fun _ _ e pr => ⟨dd, fs, upd_same, e _ _ hd, hv.mono e pr⟩
abbrev Gh.no (G : Gh) : Gh := ⟨[], G.T⟩
theorem Ok.free (o : Ok K G X β S H) : Ok K G.no X β S H := ⟨o.len, o.nd, o.out, o.trk, o.xtrk, o.obj, fun w h => (nomatch h), o.tb⟩
theorem Ok.mind (o : Ok K G X β S H) : Ok K ⟨⟨X, β, S, H⟩ :: G.w, G.T⟩ X β S H := ⟨o.len, o.nd, o.out, o.trk, o.xtrk, o.obj, fun w h => by
  rcases List.mem_cons.mp h with rfl | h
  case inr => exact o.gh w h
  exact ⟨.refl _, Ex.refl _, fun a ha => ⟨ha, .inl rfl⟩, fun _ h => h⟩, o.tb⟩
theorem Ok.less {L : List W0} (o : Ok K G X β S H) (h : ∀ w ∈ L, w ∈ G.w) : Ok K ⟨L, G.T⟩ X β S H := ⟨o.len, o.nd, o.out, o.trk, o.xtrk, o.obj, fun w hw => o.gh w (h w hw), o.tb⟩
theorem Step.back (o : Ok K G X β S H) (s : Step K G.no X β S H β' S' H') : Step K G X β S H β' S' H' :=
  ⟨s.pre, s.ex, s.ext, s.trk, ⟨s.ok.len, s.ok.nd, s.ok.out, s.ok.trk, s.ok.xtrk, s.ok.obj, fun w hw => (o.gh w hw).on s.pre s.ex s.ext s.trk, s.ok.tb⟩⟩
theorem Step.free (s : Step K G X β S H β' S' H') : Step K G.no X β S H β' S' H' := ⟨s.pre, s.ex, s.ext, s.trk, s.ok.free⟩
end
end NC
set_option Elab.async false
set_option linter.all false
set_option maxRecDepth 100000
set_option maxHeartbeats 1000000
namespace NC
open PySem PySem.Spec PyProof.Rows L2
open Evl (Ex)
abbrev Rho := List (Option D)
abbrev QD := D → Store → Prop
abbrev TD := Rho → Store → QD → Prop
abbrev TB := Rho → Store → (Bool → Store → Prop) → Prop
abbrev TLs := Rho → Store → (List D → Store → Prop) → Prop
structure Rel (K : PySem.W.Frag) (G : Gh) (X β : List Addr) (S : Store) (ρ : Rho) (σ : L2.St) (H : Hp) : Prop where
  ok : Ok K G X β S H
  len : ρ.length = σ.length
  get : ∀ (i : Nat) (d : D), ρ[i]? = some (some d) → ∃ v, σ[i]? = some (some v) ∧ Rep K (hid X β S H) β v d
section
variable {K : PySem.W.Frag} {X β β' : List Addr} {S S' : Store} {ρ : Rho} {σ : L2.St} {H H' : Hp}
theorem Rel.step (r : Rel K G X β S ρ σ H) (s : Step K G X β S H β' S' H') : Rel K G X β' S' ρ σ H' :=
  ⟨s.ok, r.len, fun i d e => let ⟨v, a, b⟩ := r.get i d e; ⟨v, a, s.rep b⟩⟩
theorem Rel.set (r : Rel K G X β S ρ σ H) {v : V} {d : D} (q : Rep K (hid X β S H) β v d) (j : Nat) : Rel K G X β S (ρ.set j (some d)) (σ.set j (some v)) H := by
  refine ⟨r.ok, by rw [List.length_set, List.length_set]; exact r.len, fun i e h => ?_⟩
  by_cases hj : j = i
  · subst hj
    have hl : j < ρ.length := by
      have := (List.getElem?_eq_some_iff.mp h).1
      rwa [List.length_set] at this
    rw [List.getElem?_set_self hl] at h
    have e' : d = e := by simpa using h
    subst e'
    exact ⟨v, by rw [List.getElem?_set_self (by rw [← r.len]; exact hl)], q⟩
  · rw [List.getElem?_set_ne hj] at h ⊢
    exact r.get i e h
end
def tE (K : PySem.W.Frag) (G : Gh) (t : TD) : TE := fun σ H Q => ∃ X β S ρ Q', Rel K G X β S ρ σ H ∧ t ρ S Q' ∧
  ∀ d S' v β' H', Step K G X β S H β' S' H' → Rep K (hid X β' S' H') β' v d → Q' d S' → Q v H'
def tT (K : PySem.W.Frag) (G : Gh) (t : TB) : TT := fun σ H Q => ∃ X β S ρ Q', Rel K G X β S ρ σ H ∧ t ρ S Q' ∧
  ∀ b S' β' H', Step K G X β S H β' S' H' → Q' b S' → Q b H'
def tA (K : PySem.W.Frag) (G : Gh) (t : TLs) : TA := fun σ H Q => ∃ X β S ρ Q', Rel K G X β S ρ σ H ∧ t ρ S Q' ∧
  ∀ ds S' vs β' H', Step K G X β S H β' S' H' → Reps K (hid X β' S' H') β' vs ds → Q' ds S' → Q vs H'
abbrev RD2 := D → D → Store → QD → Prop
abbrev RD1 := D → Store → QD → Prop
abbrev RDs := List D → Store → QD → Prop
def out (K : PySem.W.Frag) (G : Gh) (X β : List Addr) (S : Store) (H : Hp) (Q' : QD) (Q : VK) : Prop :=
  ∀ d S' v β' H', Step K G X β S H β' S' H' → Rep K (hid X β' S' H') β' v d → Q' d S' → Q v H'
def l2 (K : PySem.W.Frag) (G : Gh) (r : RD2) : R2 := fun v u H Q => ∃ X β S x y Q', Ok K G X β S H ∧ Rep K (hid X β S H) β v x ∧ Rep K (hid X β S H) β u y ∧ r x y S Q' ∧ out K G X β S H Q' Q
def l1 (K : PySem.W.Frag) (G : Gh) (r : RD1) : V → Hp → VK → Prop := fun v H Q => ∃ X β S x Q', Ok K G X β S H ∧ Rep K (hid X β S H) β v x ∧ r x S Q' ∧ out K G X β S H Q' Q
def ls (K : PySem.W.Frag) (G : Gh) (r : RDs) : List V → Hp → VK → Prop := fun vs H Q => ∃ X β S xs Q', Ok K G X β S H ∧ Reps K (hid X β S H) β vs xs ∧ r xs S Q' ∧ out K G X β S H Q' Q
section
variable {X : Cx} {e a b c : Expr} {es rest : List Expr} {pos : Pos} {ta tb tc : TD} {tt tu : TB} {tl : TLs}
theorem _root_.L2.PE.imp {t t' : TE} (h : PE X e t) (i : ∀ σ H Q, t' σ H Q → t σ H Q) : PE X e t' := ⟨fun pins s σ H Q I q => h.run pins s σ H Q I (i σ H Q q)⟩
theorem _root_.L2.PT.imp {t t' : TT} (h : PT X e t) (i : ∀ σ H Q, t' σ H Q → t σ H Q) : PT X e t' := ⟨fun pins s σ H Q I q => h.run pins s σ H Q I (i σ H Q q)⟩
theorem _root_.L2.PW.imp {t t' : TT} (h : PW X e t) (i : ∀ σ H Q, t' σ H Q → t σ H Q) : PW X e t' := ⟨fun wh pins s σ H Q I q => h.run wh pins s σ H Q I (i σ H Q q)⟩
theorem _root_.L2.PA.imp {t t' : TA} (h : PA X es t) (i : ∀ σ H Q, t' σ H Q → t σ H Q) : PA X es t' := ⟨fun pos pins s σ H Q I q => h.run pos pins s σ H Q I (i σ H Q q)⟩
theorem _root_.L2.PS.imp {st : Stmt} {t t' : TS} (h : PS X st t) (i : ∀ D σ H, t' D σ H → t D σ H) : PS X st t' := ⟨fun pins s σ H D I q => h.run pins s σ H D I (i D σ H q)⟩
theorem _root_.L2.PSs.imp {st : List Stmt} {t t' : TS} (h : PSs X st t) (i : ∀ D σ H, t' D σ H → t D σ H) : PSs X st t' := ⟨fun pins s σ H D I q => h.run pins s σ H D I (i D σ H q)⟩
def eVar (i : Nat) : TD := fun ρ S Q => ∃ d, ρ[i]? = some (some d) ∧ Q d S
def eC (d : D) : TD := fun _ S Q => Q d S
theorem de_var (i : Nat) (h : PE X e (tVar i)) : PE X e (tE X.K G (eVar i)) := h.imp fun σ H Q ⟨Y, β, S, ρ, Q', r, ⟨d, hd, q⟩, k⟩ => by
  obtain ⟨v, hv, rv⟩ := r.get i d hd
  exact ⟨v, hv, k d S v β H (.refl r.ok) rv q⟩
theorem de_c {v : V} {d : D} (h : PE X e (tC v)) (r : ∀ B β, Rep X.K B β v d) : PE X e (tE X.K G (eC d)) := h.imp fun σ H Q ⟨Y, β, S, ρ, Q', rl, q, k⟩ =>
  k d S v β H (.refl rl.ok) (r _ _) q
theorem de_int {i : Int} {j} : PE X (.Constant (.int i) j pos) (tE X.K G (eC (.int i))) := de_c pe_int fun _ _ => .int i
theorem de_bl {i : Bool} {j} : PE X (.Constant (.bool i) j pos) (tE X.K G (eC (.bl i))) := de_c pe_bl fun _ _ => .bl i
theorem de_non {j} : PE X (.Constant .none j pos) (tE X.K G (eC .non)) := de_c pe_non fun _ _ => .non
theorem de_str {x : Str} {j} : PE X (.Constant (.str x) j pos) (tE X.K G (eC (.str x))) := de_c pe_str fun _ _ => .str x
def eOp (r : RD2) (ta tb : TD) : TD := fun ρ S Q => ta ρ S fun x S1 => tb ρ S1 fun y S2 => r x y S2 Q
theorem op_lift {r : RD2} {σ : L2.St} {H : Hp} {Q : VK} (h : tE X.K G (eOp r ta tb) σ H Q) : tOp (l2 X.K G r) (tE X.K G ta) (tE X.K G tb) σ H Q := by
  obtain ⟨Y, β, S, ρ, Q', rl, q, k⟩ := h
  refine ⟨Y, β, S, ρ, _, rl, q, fun x S1 v β1 H1 s1 r1 q1 => ?_⟩
  refine ⟨Y, β1, S1, ρ, _, rl.step s1, q1, fun y S2 u β2 H2 s2 r2 q2 => ?_⟩
  exact ⟨Y, β2, S2, x, y, Q', s2.ok, s2.rep r1, r2, q2, fun z S3 w β3 H3 s3 r3 q3 => k z S3 w β3 H3 ((s1.trans s2).trans s3) r3 q3⟩
theorem de_op {op : Operator} {r : RD2} (ho : OpR X (binaryOp op) (l2 X.K G r)) (ha : PE X a (tE X.K G ta)) (hb : PE X b (tE X.K G tb)) : PE X (.BinOp a op b pos) (tE X.K G (eOp r ta tb)) :=
  (pe_op ho ha hb).imp fun _ _ _ h => op_lift h
theorem de_cmp {op : CmpOp} {r : RD2} (ho : OpR X (compareOp op) (l2 X.K G r)) (ha : PE X a (tE X.K G ta)) (hb : PE X b (tE X.K G tb)) (hm : behindInMarks op b = false) : PE X (.Compare a [op] [b] pos) (tE X.K G (eOp r ta tb)) :=
  (pe_cmpR ho ha hb hm).imp fun _ _ _ h => op_lift h
def bOf (t : TD) : TB := fun ρ S Q => t ρ S fun x S1 => ∃ c, x = .bl c ∧ Q c S1
theorem bof_lift {σ : L2.St} {H : Hp} {Q : Bool → Hp → Prop} (h : tT X.K G (bOf ta) σ H Q) : tE X.K G ta σ H fun x H1 => ∃ k, x = .bl k ∧ Q k H1 := by
  obtain ⟨Y, β, S, ρ, Q', rl, q, k⟩ := h
  refine ⟨Y, β, S, ρ, _, rl, q, fun x S1 v β1 H1 s1 r1 ⟨c, e, q1⟩ => ?_⟩
  subst e
  cases r1
  exact ⟨c, rfl, k c S1 β1 H1 s1 q1⟩
theorem dt_val (h : PE X e (tE X.K G ta)) (he : ∀ whole, isTrue e X.env whole = (do let v ← whole; standAt e.pos; holding [v] (truthy v)) := by intro _; rfl) : PT X e (tT X.K G (bOf ta)) :=
  (pt_val h he).imp fun _ _ _ q => bof_lift q
theorem dt_cmp {op : CmpOp} {r : RD2} (ho : OpR X (compareOp op) (l2 X.K G r)) (ha : PE X a (tE X.K G ta)) (hb : PE X b (tE X.K G tb)) (hm : behindInMarks op b = false) : PT X (.Compare a [op] [b] pos) (tT X.K G (bOf (eOp r ta tb))) :=
  (pt_cmpR ho ha hb hm).imp fun σ H Q q => op_lift (bof_lift q)
def eChain (r r' : RD2) (ta tb tc : TD) : TD := fun ρ S Q => ta ρ S fun x S1 => tb ρ S1 fun y S2 => r x y S2 fun z S3 => ∃ k, z = .bl k ∧ if k = true then tc ρ S3 fun w S4 => r' y w S4 Q else Q (.bl false) S3
def bAnd (t u : TB) : TB := fun ρ S Q => t ρ S fun c S1 => if c = true then u ρ S1 Q else Q false S1
def bOr (t u : TB) : TB := fun ρ S Q => t ρ S fun c S1 => if c = true then Q true S1 else u ρ S1 Q
def bNot (t : TB) : TB := fun ρ S Q => t ρ S fun c S1 => Q (!c) S1
theorem dw_and1 (ha : PT X a (tT X.K G tt)) : PW X (.BoolOp .And [a] pos) (tT X.K G tt) := pw_and1 ha
theorem dw_or1 (ha : PT X a (tT X.K G tt)) : PW X (.BoolOp .Or [a] pos) (tT X.K G tt) := pw_or1 ha
theorem dw_and (ha : PT X a (tT X.K G tt)) (hb : PW X (.BoolOp .And (b :: rest) pos) (tT X.K G tu)) : PW X (.BoolOp .And (a :: b :: rest) pos) (tT X.K G (bAnd tt tu)) :=
  (pw_and ha hb).imp fun σ H Q ⟨Y, β, S, ρ, Q', rl, q, k⟩ => ⟨Y, β, S, ρ, _, rl, q, fun c S1 β1 H1 s1 q1 => by
    cases c with
    | true => exact ⟨Y, β1, S1, ρ, Q', rl.step s1, q1, fun d S2 β2 H2 s2 q2 => k d S2 β2 H2 (s1.trans s2) q2⟩
    | false => exact k false S1 β1 H1 s1 q1⟩
theorem dw_or (ha : PT X a (tT X.K G tt)) (hb : PW X (.BoolOp .Or (b :: rest) pos) (tT X.K G tu)) : PW X (.BoolOp .Or (a :: b :: rest) pos) (tT X.K G (bOr tt tu)) :=
  (pw_or ha hb).imp fun σ H Q ⟨Y, β, S, ρ, Q', rl, q, k⟩ => ⟨Y, β, S, ρ, _, rl, q, fun c S1 β1 H1 s1 q1 => by
    cases c with
    | true => exact k true S1 β1 H1 s1 q1
    | false => exact ⟨Y, β1, S1, ρ, Q', rl.step s1, q1, fun d S2 β2 H2 s2 q2 => k d S2 β2 H2 (s1.trans s2) q2⟩⟩
theorem dt_w (h : PW X e (tT X.K G tt)) : PT X e (tT X.K G tt) := h.pt
theorem dt_not (ha : PT X a (tT X.K G tt)) : PT X (.UnaryOp .Not a pos) (tT X.K G (bNot tt)) :=
  (pt_not ha).imp fun σ H Q ⟨Y, β, S, ρ, Q', rl, q, k⟩ => ⟨Y, β, S, ρ, _, rl, q, fun c S1 β1 H1 s1 q1 => k (!c) S1 β1 H1 s1 q1⟩
def eAnd (t u : TD) : TD := fun ρ S Q => t ρ S fun x S1 => ∃ c, x = .bl c ∧ if c = true then u ρ S1 Q else Q (.bl false) S1
def eOr (t u : TD) : TD := fun ρ S Q => t ρ S fun x S1 => ∃ c, x = .bl c ∧ if c = true then Q (.bl true) S1 else u ρ S1 Q
def eNot (t : TD) : TD := fun ρ S Q => t ρ S fun x S1 => ∃ c, x = .bl c ∧ Q (.bl (!c)) S1
theorem de_one {op} (h : PE X a (tE X.K G ta)) : PE X (.BoolOp op [a] pos) (tE X.K G ta) := pe_one h
theorem de_and (ha : PE X a (tE X.K G ta)) (hb : PE X (.BoolOp .And (b :: rest) pos) (tE X.K G tb)) : PE X (.BoolOp .And (a :: b :: rest) pos) (tE X.K G (eAnd ta tb)) :=
  (pe_and ha hb).imp fun σ H Q ⟨Y, β, S, ρ, Q', rl, q, k⟩ => ⟨Y, β, S, ρ, _, rl, q, fun x S1 v β1 H1 s1 r1 ⟨c, e, q1⟩ => by
    subst e
    cases r1
    refine ⟨c, rfl, ?_⟩
    cases c with
    | true => exact ⟨Y, β1, S1, ρ, Q', rl.step s1, q1, fun d S2 u β2 H2 s2 r2 q2 => k d S2 u β2 H2 (s1.trans s2) r2 q2⟩
    | false => exact k _ S1 _ β1 H1 s1 (.bl false) q1⟩
theorem de_or (ha : PE X a (tE X.K G ta)) (hb : PE X (.BoolOp .Or (b :: rest) pos) (tE X.K G tb)) : PE X (.BoolOp .Or (a :: b :: rest) pos) (tE X.K G (eOr ta tb)) :=
  (pe_or ha hb).imp fun σ H Q ⟨Y, β, S, ρ, Q', rl, q, k⟩ => ⟨Y, β, S, ρ, _, rl, q, fun x S1 v β1 H1 s1 r1 ⟨c, e, q1⟩ => by
    subst e
    cases r1
    refine ⟨c, rfl, ?_⟩
    cases c with
    | true => exact k _ S1 _ β1 H1 s1 (.bl true) q1
    | false => exact ⟨Y, β1, S1, ρ, Q', rl.step s1, q1, fun d S2 u β2 H2 s2 r2 q2 => k d S2 u β2 H2 (s1.trans s2) r2 q2⟩⟩
theorem de_not (ha : PE X a (tE X.K G ta)) : PE X (.UnaryOp .Not a pos) (tE X.K G (eNot ta)) :=
  (pe_not ha).imp fun σ H Q ⟨Y, β, S, ρ, Q', rl, q, k⟩ => ⟨Y, β, S, ρ, _, rl, q, fun x S1 v β1 H1 s1 r1 ⟨c, e, q1⟩ => by
    subst e
    cases r1
    exact ⟨c, rfl, k _ S1 _ β1 H1 s1 (.bl _) q1⟩⟩
def eIf (t : TB) (ta tb : TD) : TD := fun ρ S Q => t ρ S fun c S1 => if c = true then ta ρ S1 Q else tb ρ S1 Q
theorem de_if (hc : PT X c (tT X.K G tt)) (ha : PE X a (tE X.K G ta)) (hb : PE X b (tE X.K G tb)) : PE X (.IfExp c a b pos) (tE X.K G (eIf tt ta tb)) :=
  (pe_ifExp hc ha hb).imp fun σ H Q ⟨Y, β, S, ρ, Q', rl, q, k⟩ => ⟨Y, β, S, ρ, _, rl, q, fun c S1 β1 H1 s1 q1 => by
    cases c with
    | true => exact ⟨Y, β1, S1, ρ, Q', rl.step s1, q1, fun d S2 u β2 H2 s2 r2 q2 => k d S2 u β2 H2 (s1.trans s2) r2 q2⟩
    | false => exact ⟨Y, β1, S1, ρ, Q', rl.step s1, q1, fun d S2 u β2 H2 s2 r2 q2 => k d S2 u β2 H2 (s1.trans s2) r2 q2⟩⟩
def eUn (r : RD1) (t : TD) : TD := fun ρ S Q => t ρ S fun x S1 => r x S1 Q
theorem de_un {op : UnaryOp} {r : RD1} (ho : UnR X (unaryOp op) (l1 X.K G r)) (ha : PE X a (tE X.K G ta)) : PE X (.UnaryOp op a pos) (tE X.K G (eUn r ta)) :=
  (pe_un ho ha).imp fun σ H Q ⟨Y, β, S, ρ, Q', rl, q, k⟩ => ⟨Y, β, S, ρ, _, rl, q, fun x S1 v β1 H1 s1 r1 q1 =>
    ⟨Y, β1, S1, x, Q', s1.ok, r1, q1, fun z S3 w β3 H3 s3 r3 q3 => k z S3 w β3 H3 (s1.trans s3) r3 q3⟩⟩
def aNil : TLs := fun _ S Q => Q [] S
def aCons (ta : TD) (tr : TLs) : TLs := fun ρ S Q => ta ρ S fun x S1 => tr ρ S1 fun xs S2 => Q (x :: xs) S2
theorem da_nil : PA X [] (tA X.K G aNil) := pa_nil.imp fun σ H Q ⟨Y, β, S, ρ, Q', rl, q, k⟩ => k [] S [] β H (.refl rl.ok) .nil q
theorem da_cons (ha : PE X e (tE X.K G ta)) (hr : PA X es (tA X.K G tl)) (hs : starEach (e :: es) X.env = (false, eval e X.env) :: starEach es X.env := by rfl) : PA X (e :: es) (tA X.K G (aCons ta tl)) :=
  (pa_cons ha hr hs).imp fun σ H Q ⟨Y, β, S, ρ, Q', rl, q, k⟩ => ⟨Y, β, S, ρ, _, rl, q, fun x S1 v β1 H1 s1 r1 q1 =>
    ⟨Y, β1, S1, ρ, _, rl.step s1, q1, fun xs S2 vs β2 H2 s2 r2 q2 => k (x :: xs) S2 (v :: vs) β2 H2 (s1.trans s2) (.cons (s2.rep r1) r2) q2⟩⟩
def eB (r : RDs) (tl : TLs) : TD := fun ρ S Q => tl ρ S fun xs S1 => r xs S1 Q
theorem b_lift {r : RDs} {σ : L2.St} {H : Hp} {Q : VK} (h : tE X.K G (eB r tl) σ H Q) : tCB (ls X.K G r) (tA X.K G tl) σ H Q := by
  obtain ⟨Y, β, S, ρ, Q', rl, q, k⟩ := h
  exact ⟨Y, β, S, ρ, _, rl, q, fun xs S1 vs β1 H1 s1 r1 q1 => ⟨Y, β1, S1, xs, Q', s1.ok, r1, q1, fun z S3 w β3 H3 s3 r3 q3 => k z S3 w β3 H3 (s1.trans s3) r3 q3⟩⟩
def eTup (tl : TLs) : TD := fun ρ S Q => tl ρ S fun xs S1 => xs.length ≤ sizeLine ∧ Q (.tup xs) S1
def eLst (tl : TLs) : TD := fun ρ S Q => tl ρ S fun xs S1 => xs.length ≤ sizeLine ∧ Q (.lst xs) S1
def eLstM (tl : TLs) : TD := fun ρ S Q => tl ρ S fun xs S1 => xs.length ≤ sizeLine ∧ Q (.ref S1.length) (S1 ++ [some (.lst xs)])
theorem Ok.newTup {K : PySem.W.Frag} {Y β : List Addr} {S : Store} {H : Hp} (o : Ok K G Y β S H) {p : Addr} {vs : List V} {ds : List D} (hp : H p = none) (r : Reps K (hid Y β S H) β vs ds) : Rep K (hid Y β S (upd H p (.tup vs))) β (.ref p) (.tup ds) :=
  .tup (o.new_at _ hp) ((o.new _ hp).reps r)
theorem Ok.newLst {K : PySem.W.Frag} {Y β : List Addr} {S : Store} {H : Hp} (o : Ok K G Y β S H) {p : Addr} {vs : List V} {ds : List D} (hp : H p = none) (r : Reps K (hid Y β S H) β vs ds) : Rep K (hid Y β S (upd H p (.lst vs))) β (.ref p) (.lst ds) :=
  .lst (o.new_at _ hp) ((o.new _ hp).reps r)
theorem de_tup {x1} (h : PA X es (tA X.K G tl)) : PE X (.Tuple es x1 pos) (tE X.K G (eTup tl)) := (pe_tup h).imp fun σ H Q ⟨Y, β, S, ρ, Q', rl, q, k⟩ =>
  ⟨Y, β, S, ρ, _, rl, q, fun xs S1 vs β1 H1 s1 r1 ⟨hl, q1⟩ => ⟨by rw [r1.len]; exact hl, fun p hp => k _ S1 _ β1 _ (s1.trans (s1.ok.new _ hp)) (s1.ok.newTup hp r1) q1⟩⟩
theorem de_lst (h : PA X es (tA X.K G tl)) : PE X (.List es pos) (tE X.K G (eLst tl)) := (pe_lst h).imp fun σ H Q ⟨Y, β, S, ρ, Q', rl, q, k⟩ =>
  ⟨Y, β, S, ρ, _, rl, q, fun xs S1 vs β1 H1 s1 r1 ⟨hl, q1⟩ => ⟨by rw [r1.len]; exact hl, fun p hp => k _ S1 _ β1 _ (s1.trans (s1.ok.new _ hp)) (s1.ok.newLst hp r1) q1⟩⟩
theorem Ok.allocRep {K : PySem.W.Frag} {Y β : List Addr} {S : Store} {H H' : Hp} (o : Ok K G Y β S H) {p : Addr} {B : Hp} : Rep K B (β ++ [p]) (.ref p) (.ref S.length) :=
  .ref (by rw [← o.len, List.getElem?_append_right (Nat.le_refl _), Nat.sub_self]; rfl)
theorem de_lstM (h : PA X es (tA X.K G tl)) : PE X (.List es pos) (tE X.K G (eLstM tl)) := (pe_lst h).imp fun σ H Q ⟨Y, β, S, ρ, Q', rl, q, k⟩ =>
  ⟨Y, β, S, ρ, _, rl, q, fun xs S1 vs β1 H1 s1 r1 ⟨hl, q1⟩ => ⟨by rw [r1.len]; exact hl, fun p hp => k _ _ _ _ _ (s1.trans (s1.ok.alloc hp r1)) (s1.ok.allocRep (H' := H)) q1⟩⟩
theorem de_ix {r : RD2} (hr : IxR X (l2 X.K G r)) (ha : PE X a (tE X.K G ta)) (hb : PE X b (tE X.K G tb)) (hs : PlainIx b) : PE X (.Subscript a b pos) (tE X.K G (eOp r ta tb)) :=
  (pe_ix hr ha hb hs).imp fun _ _ _ h => op_lift h
structure DN where
  nx : Rho → Store → Prop
  rt : QD
  bk : Rho → Store → Prop := fun _ _ => False
  ct : Rho → Store → Prop := fun _ _ => False
abbrev TSd := DN → Rho → Store → Prop
structure Leads (K : PySem.W.Frag) (G : Gh) (Y β : List Addr) (S : Store) (H : Hp) (N : DN) (D' : Ends) : Prop where
  nx : ∀ ρ' S' σ' β' H', Step K G Y β S H β' S' H' → Rel K G Y β' S' ρ' σ' H' → N.nx ρ' S' → D'.nx σ' H'
  rt : ∀ d S' v β' H', Step K G Y β S H β' S' H' → Rep K (hid Y β' S' H') β' v d → N.rt d S' → D'.rt v H'
  bk : ∀ ρ' S' σ' β' H', Step K G Y β S H β' S' H' → Rel K G Y β' S' ρ' σ' H' → N.bk ρ' S' → D'.bk σ' H'
  ct : ∀ ρ' S' σ' β' H', Step K G Y β S H β' S' H' → Rel K G Y β' S' ρ' σ' H' → N.ct ρ' S' → D'.ct σ' H'
theorem Leads.step {K : PySem.W.Frag} {Y β β1 : List Addr} {S S1 : Store} {H H1 : Hp} {N : DN} {D' : Ends} (l : Leads K G Y β S H N D') (s : Step K G Y β S H β1 S1 H1) : Leads K G Y β1 S1 H1 N D' :=
  ⟨fun ρ' S' σ' β' H' s' => l.nx ρ' S' σ' β' H' (s.trans s'), fun d S' v β' H' s' => l.rt d S' v β' H' (s.trans s'), fun ρ' S' σ' β' H' s' => l.bk ρ' S' σ' β' H' (s.trans s'), fun ρ' S' σ' β' H' s' => l.ct ρ' S' σ' β' H' (s.trans s')⟩
def tS (K : PySem.W.Frag) (G : Gh) (t : TSd) : TS := fun D' σ H => ∃ Y β S ρ N, Rel K G Y β S ρ σ H ∧ t N ρ S ∧ Leads K G Y β S H N D'
variable {st : Stmt} {sts sts' : List Stmt} {su sv : TSd}
def sNil : TSd := fun N ρ S => N.nx ρ S
def sSeq (t u : TSd) : TSd := fun N ρ S => t { N with nx := u N } ρ S
theorem ds_nil : PSs X [] (tS X.K G sNil) := pss_nil.imp fun D' σ H ⟨Y, β, S, ρ, N, rl, q, l⟩ => l.nx ρ S σ β H (.refl rl.ok) rl q
theorem ds_one (h : PS X st (tS X.K G su)) : PSs X [st] (tS X.K G su) := pss_one h
theorem ds_cons (h : PS X st (tS X.K G su)) (h2 : PSs X sts (tS X.K G sv)) : PSs X (st :: sts) (tS X.K G (sSeq su sv)) := (pss_cons h h2).imp fun D' σ H ⟨Y, β, S, ρ, N, rl, q, l⟩ =>
  ⟨Y, β, S, ρ, { N with nx := sv N }, rl, q, ⟨fun ρ' S' σ' β' H' s' r' q' => ⟨Y, β', S', ρ', N, r', q', l.step s'⟩, l.rt, l.bk, l.ct⟩⟩
def sRet (t : TD) : TSd := fun N ρ S => t ρ S N.rt
theorem ds_ret (h : PE X e (tE X.K G ta)) : PS X (.Return (some e) pos) (tS X.K G (sRet ta)) := (ps_ret h).imp fun D' σ H ⟨Y, β, S, ρ, N, rl, q, l⟩ => ⟨Y, β, S, ρ, _, rl, q, l.rt⟩
def frzQ (Q : QD) : QD := fun d S => match d with
  | .ref n => ∃ ds, S[n]? = some (some (.lst ds)) ∧ Q (.lst ds) (S.set n none)
  | _ => False
def eFrz (t : TD) : TD := fun ρ S Q => t ρ S (frzQ Q)
theorem de_frz (h : PE X e (tE X.K G ta)) : PE X e (tE X.K G (eFrz ta)) := h.imp fun σ H Q ⟨Y, β, S, ρ, Q', rl, q, k⟩ => ⟨Y, β, S, ρ, _, rl, q, fun x S1 v β1 H1 s1 r1 q1 => by
  unfold frzQ at q1
  split at q1
  · rename_i n
    obtain ⟨ds, hs, q1⟩ := q1
    obtain ⟨s2, r2⟩ := s1.ok.frz hs
    cases r1 with
    | ref h => exact k _ _ _ _ _ (s1.trans s2) (r2 _ h) q1
  · exact q1.elim⟩
def sDrop (t : TD) : TSd := fun N ρ S => t ρ S fun _ S1 => N.nx ρ S1
theorem ds_expr (h : PE X e (tE X.K G ta)) (hs : swapsWith e none pos.line X.env = pure false := by rfl) : PS X (.Expr e pos) (tS X.K G (sDrop ta)) := (ps_expr h hs).imp fun D' σ H ⟨Y, β, S, ρ, N, rl, q, l⟩ =>
  ⟨Y, β, S, ρ, _, rl, q, fun d S' v β' H' s r q' => l.nx ρ S' σ β' H' s (rl.step s) q'⟩
def sIf (t : TB) (u v : TSd) : TSd := fun N ρ S => t ρ S fun c S1 => if c = true then u N ρ S1 else v N ρ S1
theorem ds_if (hc : PT X c (tT X.K G tt)) (ha : PSs X sts (tS X.K G su)) (hb : PSs X sts' (tS X.K G sv)) : PS X (.If c sts sts' pos) (tS X.K G (sIf tt su sv)) := (ps_if hc ha hb).imp fun D' σ H ⟨Y, β, S, ρ, N, rl, q, l⟩ =>
  ⟨Y, β, S, ρ, _, rl, q, fun c S1 β1 H1 s1 q1 => by
    cases c with
    | true => exact ⟨Y, β1, S1, ρ, N, rl.step s1, q1, l.step s1⟩
    | false => exact ⟨Y, β1, S1, ρ, N, rl.step s1, q1, l.step s1⟩⟩
inductive Tg where
  | nm (i : Nat) | tp (ts : List Tg)
mutual
def bindT : Tg → D → Rho → Option Rho
  | .nm i, d, ρ => some (ρ.set i (some d))
  | .tp ts, .tup ds, ρ => bindTs ts ds ρ
  | .tp _, _, _ => none
def bindTs : List Tg → List D → Rho → Option Rho
  | [], [], ρ => some ρ
  | t :: ts, d :: ds, ρ => (bindT t d ρ).bind (bindTs ts ds)
  | _, _, _ => none
end
mutual
def toG (K : PySem.W.Frag) : Tg → TG
  | .nm i => gName i
  | .tp ts => gTup K ts.length (toGs K ts)
def toGs (K : PySem.W.Frag) : List Tg → TGs
  | [] => gNil
  | t :: ts => gCons (toG K t) (toGs K ts)
end
mutual
def Tg.slots : Tg → List Nat
  | .nm i => [i]
  | .tp ts => slotss ts
def slotss : List Tg → List Nat
  | [] => []
  | t :: ts => t.slots ++ slotss ts
end
end
end NC
set_option Elab.async false
set_option linter.all false
set_option maxRecDepth 100000
set_option maxHeartbeats 1000000
namespace NC
open PySem PySem.Spec PyProof.Rows L2
open Evl (Ex)
def wipeD (ρ : Rho) : List Nat → Rho
  | [] => ρ
  | v :: vs => (wipeD ρ vs).set v none
theorem wipeD_len (ρ : Rho) : ∀ vs : List Nat, (wipeD ρ vs).length = ρ.length
  | [] => rfl
  | v :: vs => by unfold wipeD; rw [List.length_set, wipeD_len ρ vs]
theorem wipeD_some {ρ : Rho} {i : Nat} {x : D} : ∀ {vs : List Nat}, (wipeD ρ vs)[i]? = some (some x) → ρ[i]? = some (some x) ∧ i ∉ vs
  | [], h => ⟨h, by simp⟩
  | v :: vs, h => by
    unfold wipeD at h
    by_cases hi : v = i
    · subst hi
      by_cases hv : v < (wipeD ρ vs).length
      · rw [List.getElem?_set_self hv] at h
        cases h
      · rw [List.getElem?_eq_none (by simpa using hv)] at h
        cases h
    · rw [List.getElem?_set_ne hi] at h
      obtain ⟨a, b⟩ := wipeD_some h
      exact ⟨a, by simp [Ne.symm hi, b]⟩
theorem wipe_keep {σ : L2.St} {i : Nat} {x : V} : ∀ {vs : List Nat}, i ∉ vs → σ[i]? = some (some x) → (wipe σ vs)[i]? = some (some x)
  | [], _, h => h
  | v :: vs, hn, h => by
    have h1 : v ≠ i := fun e => hn (by simp [e])
    unfold wipe
    rw [List.getElem?_set_ne h1]
    exact wipe_keep (fun e => hn (by simp [e])) h
theorem Rel.wipe {K : PySem.W.Frag} {X β : List Addr} {S : Store} {ρ : Rho} {σ : L2.St} {H : Hp} (r : Rel K G X β S ρ σ H) (vs : List Nat) : Rel K G X β S (wipeD ρ vs) (L2.wipe σ vs) H :=
  ⟨r.ok, by rw [wipeD_len, wipe_length]; exact r.len, fun i d h => by
    obtain ⟨h1, h2⟩ := wipeD_some h
    obtain ⟨v, e, q⟩ := r.get i d h1
    exact ⟨v, wipe_keep h2 e, q⟩⟩
theorem wipe_set {σ : L2.St} {j : Nat} {x : Option V} : ∀ {vs : List Nat}, j ∈ vs → L2.wipe (σ.set j x) vs = L2.wipe σ vs
  | v :: vs, h => by
    unfold L2.wipe
    by_cases e : j ∈ vs
    · rw [wipe_set e]
    · have e' : j = v := by
        rcases List.mem_cons.mp h with h | h
        · exact h
        · exact absurd h e
      subst e'
      clear h
      have : ∀ us : List Nat, j ∉ us → (L2.wipe (σ.set j x) us) = (L2.wipe σ us).set j x := by
        intro us
        induction us with
        | nil => intro _; rfl
        | cons u us ih =>
          intro hn
          have h1 : u ≠ j := fun e => hn (by simp [e])
          unfold L2.wipe
          rw [ih fun e => hn (by simp [e]), List.set_comm _ _ h1]
      rw [this vs e, List.set_set]
theorem wipe_wipe {σ : L2.St} {vs : List Nat} : ∀ {us : List Nat}, (∀ u ∈ us, u ∈ vs) → L2.wipe (L2.wipe σ us) vs = L2.wipe σ vs
  | [], _ => rfl
  | u :: us, h => by
    show L2.wipe ((L2.wipe σ us).set u none) vs = L2.wipe σ vs
    rw [wipe_set (h u (by simp)), wipe_wipe fun z hz => h z (by simp [hz])]
section
variable {K : PySem.W.Frag} {X β : List Addr} {S : Store} {H : Hp}
mutual
theorem bind_ok : ∀ {t : Tg} {d : D} {ρ ρ' : Rho} {σ : L2.St} {v : V}, bindT t d ρ = some ρ' → Rel K G X β S ρ σ H → Rep K (hid X β S H) β v d →
    ∃ σ', (∀ Q : L2.St → Hp → Prop, Q σ' H → toG K t v σ H Q) ∧ Rel K G X β S ρ' σ' H ∧ ∀ vs, (∀ i ∈ t.slots, i ∈ vs) → wipe σ' vs = wipe σ vs
  | .nm i, d, ρ, ρ', σ, v, h, r, q => by
    unfold bindT at h
    cases h
    refine ⟨σ.set i (some v), fun Q k => ?_, r.set q i, fun vs hv => wipe_set (hv i (by simp [Tg.slots]))⟩
    unfold toG
    exact k
  | .tp ts, d, ρ, ρ', σ, v, h, r, q => by
    cases d with
    | tup ds =>
      unfold bindT at h
      cases q with
      | tup h1 h2 =>
        rename_i a vs
        obtain ⟨σ', k, r', w, hl⟩ := binds_ok h r h2
        refine ⟨σ', fun Q hq => ?_, r', fun us hu => w us (by unfold Tg.slots at hu; exact hu)⟩
        unfold toG
        exact ⟨a, vs, rfl, .inl (.inl (hid_ex _ _ h1)), hl, k Q hq⟩
    | _ => unfold bindT at h; cases h
theorem binds_ok : ∀ {ts : List Tg} {ds : List D} {ρ ρ' : Rho} {σ : L2.St} {vs : List V}, bindTs ts ds ρ = some ρ' → Rel K G X β S ρ σ H → Reps K (hid X β S H) β vs ds →
    ∃ σ', (∀ Q : L2.St → Hp → Prop, Q σ' H → toGs K ts vs σ H Q) ∧ Rel K G X β S ρ' σ' H ∧ (∀ us, (∀ i ∈ slotss ts, i ∈ us) → wipe σ' us = wipe σ us) ∧ vs.length = ts.length
  | [], ds, ρ, ρ', σ, vs, h, r, q => by
    cases ds with
    | nil =>
      unfold bindTs at h
      cases h
      cases q
      refine ⟨σ, fun Q k => ?_, r, fun _ _ => rfl, rfl⟩
      unfold toGs
      exact ⟨rfl, k⟩
    | cons d ds => unfold bindTs at h; cases h
  | t :: ts, ds, ρ, ρ', σ, vs, h, r, q => by
    cases ds with
    | nil => unfold bindTs at h; cases h
    | cons d ds =>
      unfold bindTs at h
      obtain ⟨ρ1, h1, h2⟩ := Option.bind_eq_some_iff.mp h
      cases q with
      | cons q1 q2 =>
        rename_i v vs
        obtain ⟨σ1, k1, r1, w1⟩ := bind_ok h1 r q1
        obtain ⟨σ2, k2, r2, w2, hl⟩ := binds_ok h2 r1 q2
        refine ⟨σ2, fun Q k => ?_, r2, fun us hu => ?_, by simp [hl]⟩
        · unfold toGs
          exact ⟨v, vs, rfl, k1 _ (k2 Q k)⟩
        · unfold slotss at hu
          exact (w2 us fun i hi => hu i (List.mem_append_right _ hi)).trans (w1 us fun i hi => hu i (List.mem_append_left _ hi))
end
end
structure Lat (K : PySem.W.Frag) (G : Gh) (Y β : List Addr) (S : Store) (H : Hp) (Z β' : List Addr) (S' : Store) (H' : Hp) : Prop where
  ok : Ok K G Z β' S' H'
  pre : Pre β β'
  ex : Ex (hid Y β S H) (hid Z β' S' H')
theorem Step.lat {K : PySem.W.Frag} {Y β : List Addr} {S : Store} {H : Hp} {β' : List Addr} {S' : Store} {H' : Hp} (s : Step K G Y β S H β' S' H') : Lat K G Y β S H Y β' S' H' := ⟨s.ok, s.pre, s.ex⟩
structure IterOk (K : PySem.W.Frag) (G : Gh) (Y β : List Addr) (S : Store) (H : Hp) (J : It) (items : List D) (stays : Store → Prop) : Prop where
  go : ∀ Z β' S' H', Lat K G Y β S H Z β' S' H' → stays S' → ∀ (i : Nat) (d : D), items[i]? = some d → J.go i H' ∧ ∀ x H'', J.yld i H' x H'' → Step K G Z β' S' H' β' S' H'' ∧ Rep K (hid Z β' S' H'') β' x d
  stop : ∀ Z β' S' H', Lat K G Y β S H Z β' S' H' → stays S' → J.stop items.length H'
abbrev TSr := Rho → Store → (List D → (Store → Prop) → Store → Prop) → Prop
def tI (K : PySem.W.Frag) (G : Gh) (ts : TSr) : TI := fun σ H R => ∃ Y β S ρ Q', Rel K G Y β S ρ σ H ∧ ts ρ S Q' ∧ ∀ items stays S' β' H' J, Step K G Y β S H β' S' H' → IterOk K G Y β' S' H' J items stays → Q' items stays S' → R J H'
theorem drf_back {S : Store} {n : Nat} {ds : List D} (h : drf S (.ref n) = .lst ds) : S[n]? = some (some (.lst ds)) := by
  simp only [drf] at h
  split at h
  · rename_i h2
    rw [h2]
    cases h
    rfl
  · cases h
  · cases h
  · cases h
  · cases h
def seqOf : D → Option (List D)
  | .lst xs => some xs
  | .tup xs => some xs
  | .ro xs => some xs
  | .kt xs => some xs
  | _ => none
theorem seq_at {K : PySem.W.Frag} {Y β : List Addr} {S : Store} {H : Hp} (o : Ok K G Y β S H) {v : V} {d : D} {xs : List D} (r : Rep K (hid Y β S H) β v d) (h : seqOf (drf S d) = some xs) :
    ∃ a vs, v = .ref a ∧ (SqL K H a vs ∨ SqT K H a vs) ∧ Reps K H β vs xs := by
  have r' := o.drf r
  generalize drf S d = e at h r'
  cases e with
  | lst ys =>
    cases h
    cases r' with
    | lst h1 h2 => exact ⟨_, _, rfl, .inl (.inl (.inl h1)), h2⟩
  | tup ys =>
    cases h
    cases r' with
    | tup h1 h2 => exact ⟨_, _, rfl, .inr (.inl (.inl h1)), h2⟩
  | ro ys =>
    cases h
    cases r' with
    | ro h1 h2 => exact ⟨_, _, rfl, .inl h1, h2⟩
  | kt ys =>
    cases h
    cases r' with
    | kt h1 h2 => exact ⟨_, _, rfl, .inr (.inr h1), h2⟩
  | _ => cases h
def sSq (t : TD) : TSr := fun ρ S Q => t ρ S fun x S1 => ∃ xs, seqOf (drf S1 x) = some xs ∧ Q xs (fun S' => drf S' x = drf S1 x) S1
theorem seq_kind {K : PySem.W.Frag} {Y β : List Addr} {S : Store} {H : Hp} (o : Ok K G Y β S H) {v : V} {d : D} {xs : List D} (r : Rep K (hid Y β S H) β v d) (h : seqOf (drf S d) = some xs) :
    ∃ a, v = .ref a ∧ ((∃ vs, SqL K H a vs) ∧ IterOk K G Y β S H (Itl K a) xs (fun S' => drf S' d = drf S d) ∨ (∃ vs, SqT K H a vs) ∧ IterOk K G Y β S H (Itt K a) xs (fun S' => drf S' d = drf S d)) := by
  -- the items at a later world, in the hidden heap too
  have later : ∀ Z β' S' H', Lat K G Y β S H Z β' S' H' → drf S' d = drf S d → ∃ vs, Reps K (hid Z β' S' H') β' vs xs ∧
      (match drf S d with | .tup _ => ∀ a, v = .ref a → SqT K H' a vs | .kt _ => ∀ a, v = .ref a → SqT K H' a vs | _ => ∀ a, v = .ref a → SqL K H' a vs) := by
    intro Z β' S' H' l e
    have r' := r.mono l.ex l.pre
    cases d with
    | ref n =>
      cases hs : S[n]? with
      | none => simp [drf, hs, seqOf] at h
      | some so =>
        cases so with
        | none => simp [drf, hs, seqOf] at h
        | some so =>
          cases so with
          | exc C es => simp [drf, hs, seqOf] at h
          | dct es => simp [drf, hs, seqOf] at h
          | dtt es => simp [drf, hs, seqOf] at h
          | dcl es _ _ => simp [drf, hs, seqOf] at h
          | dtl es _ _ => simp [drf, hs, seqOf] at h
          | ins C es => simp [drf, hs, seqOf] at h
          | fn f o => simp [drf, hs, seqOf] at h
          | rng _ _ => simp [drf, hs, seqOf] at h
          | lst ds =>
            have h1 : drf S (.ref n) = .lst ds := by simp [drf, hs]
            have hds : ds = xs := by
              rw [h1] at h
              exact Option.some.inj h
            subst hds
            rw [h1] at e
            have hs' : S'[n]? = some (some (.lst ds)) := by
              exact drf_back e
            obtain ⟨b, e1, vs, e2, e3⟩ := l.ok.obj n _ hs'
            cases r' with
            | ref hb =>
              rw [e1] at hb
              cases hb
              refine ⟨vs, e3, ?_⟩
              rw [h1]
              exact fun a ea => by cases ea; exact .inl (.inl e2)
    | lst ys =>
      cases h
      cases r' with
      | lst h1 h2 => exact ⟨_, h2, fun a ea => by cases ea; exact .inl (.inl (hid_ex _ _ h1))⟩
    | tup ys =>
      cases h
      cases r' with
      | tup h1 h2 => exact ⟨_, h2, fun a ea => by cases ea; exact .inl (.inl (hid_ex _ _ h1))⟩
    | ro ys =>
      cases h
      cases r' with
      | ro h1 h2 => exact ⟨_, h2, fun a ea => by cases ea; exact Evl.ex_l hid_ex h1⟩
    | kt ys =>
      cases h
      cases r' with
      | kt h1 h2 => exact ⟨_, h2, fun a ea => by cases ea; exact .inr h1⟩
    | _ => simp [drf, seqOf] at h
  have l0 : Lat K G Y β S H Y β S H := ⟨o, .refl _, Ex.refl _⟩
  obtain ⟨a, vs0, ev, hk, hr⟩ := seq_at o r h
  refine ⟨a, ev, ?_⟩
  by_cases ht : ∃ ys, drf S d = .tup ys ∨ drf S d = .kt ys
  · obtain ⟨ys, ht⟩ := ht
    have tupl : ∀ Z β' S' H', Lat K G Y β S H Z β' S' H' → drf S' d = drf S d → ∃ vs, Reps K (hid Z β' S' H') β' vs xs ∧ ∀ a, v = .ref a → SqT K H' a vs := fun Z β' S' H' l e => by
      obtain ⟨vs, q0, q⟩ := later Z β' S' H' l e
      rcases ht with ht | ht
      · rw [ht] at q
        exact ⟨vs, q0, q⟩
      · rw [ht] at q
        exact ⟨vs, q0, q⟩
    refine .inr ⟨?_, ⟨fun Z β' S' H' l st i x hx => ?_, fun Z β' S' H' l st => ?_⟩⟩
    · obtain ⟨vs, _, q⟩ := tupl _ _ _ _ l0 rfl
      exact ⟨vs, q a ev⟩
    · obtain ⟨vs, q0, q⟩ := tupl _ _ _ _ l st
      obtain ⟨w, e1, e2⟩ := q0.get hx
      refine ⟨⟨vs, w, q a ev, e1⟩, fun y H'' hy => ?_⟩
      obtain ⟨rfl, hy⟩ := hy
      have := hy vs (q a ev)
      rw [e1] at this
      cases this
      exact ⟨.refl l.ok, e2⟩
    · obtain ⟨vs, q0, q⟩ := tupl _ _ _ _ l st
      exact ⟨vs, q a ev, by rw [q0.len]; exact Nat.le_refl _⟩
  · refine .inl ⟨?_, ⟨fun Z β' S' H' l st i x hx => ?_, fun Z β' S' H' l st => ?_⟩⟩
    · obtain ⟨vs, _, q⟩ := later _ _ _ _ l0 rfl
      split at q
      · rename_i ys e
        exact (ht ⟨ys, .inl e⟩).elim
      · rename_i ys e
        exact (ht ⟨ys, .inr e⟩).elim
      · exact ⟨vs, q a ev⟩
    · obtain ⟨vs, q0, q⟩ := later _ _ _ _ l st
      split at q
      · rename_i ys e
        exact (ht ⟨ys, .inl e⟩).elim
      · rename_i ys e
        exact (ht ⟨ys, .inr e⟩).elim
      · obtain ⟨w, e1, e2⟩ := q0.get hx
        refine ⟨⟨vs, w, q a ev, e1⟩, fun y H'' hy => ?_⟩
        obtain ⟨rfl, hy⟩ := hy
        have := hy vs (q a ev)
        rw [e1] at this
        cases this
        exact ⟨.refl l.ok, e2⟩
    · obtain ⟨vs, q0, q⟩ := later _ _ _ _ l st
      split at q
      · rename_i ys e
        exact (ht ⟨ys, .inl e⟩).elim
      · rename_i ys e
        exact (ht ⟨ys, .inr e⟩).elim
      · exact ⟨vs, q a ev, by rw [q0.len]; exact Nat.le_refl _⟩
section
variable {X : Cx} {e tg : Expr} {ta : TD} {pos : Pos}
theorem di_seq (h : PE X e (tE X.K G ta)) : PI X tg e (tI X.K G (sSq ta)) := by
  refine ⟨fun pins s σ H R I q => ?_⟩
  obtain ⟨Y, β, S, ρ, Q', rl, q, k⟩ := q
  refine thn (h.run pins s σ H (fun v H1 => ∃ a, v = .ref a ∧ ((∃ vs, SqL X.K H1 a vs) ∧ R (Itl X.K a) H1 ∨ (∃ vs, SqT X.K H1 a vs) ∧ R (Itt X.K a) H1)) I
    ⟨Y, β, S, ρ, _, rl, q, fun d S1 v β1 H1 s1 r1 ⟨xs, hx, q1⟩ => ?_⟩) fun v s1 ⟨x, H1, I1, r1, a, ea, q1⟩ => ?_
  · obtain ⟨a, ea, hk⟩ := seq_kind s1.ok r1 hx
    refine ⟨a, ea, ?_⟩
    rcases hk with ⟨h1, h2⟩ | ⟨h1, h2⟩
    · exact .inl ⟨h1, k _ _ _ _ _ _ s1 h2 q1⟩
    · exact .inr ⟨h1, k _ _ _ _ _ _ s1 h2 q1⟩
  · subst ea
    cases r1
    have fresh : ∀ b ∈ [s1.heap.objs.size], FpOk X pins H1 b := fun b hb => by
      have eb : b = s1.heap.objs.size := by simpa using hb
      rw [eb]
      exact I1.fpOk (Nat.le_refl _) (I1.hok.fresh (Nat.le_refl _))
    rcases q1 with ⟨⟨vs, hq⟩, q1⟩ | ⟨⟨vs, hq⟩, q1⟩
    · obtain ⟨us, ru, pl, _⟩ := I1.list hq
      exact wpAny_pyIter_list pl.isList ⟨_, _, _, _, H1, rfl, I1.kept (t' := s1.toks) fun b o z => Heap.get?_push_of_some _ z, turn_list a _, ⟨_, Heap.get?_push_size _ rfl, rfl, rfl⟩, fresh, q1⟩
    · obtain ⟨us, ru, pl, _⟩ := I1.tuple hq
      exact wpAny_pyIter_tuple (show s1.heap.IsTuple a us.toArray from pl) ⟨_, _, _, _, H1, rfl, I1.kept (t' := s1.toks) fun b o z => Heap.get?_push_of_some _ z, turn_tuple a _, ⟨_, Heap.get?_push_size _ rfl, rfl, rfl⟩, fresh, q1⟩
def rangeD (lo hi : Int) : List D := (List.range (hi - lo).toNat).map fun i => .int (lo + (i : Nat))
theorem range_iter {K : PySem.W.Frag} {Y β : List Addr} {S : Store} {H : Hp} (lo : Int) (n : Nat) : IterOk K G Y β S H (Itr lo n) ((List.range n).map fun i => .int (lo + (i : Nat))) fun _ => True :=
  ⟨fun Z β' S' H' l _ i d hd => by
    rw [List.getElem?_map] at hd
    obtain ⟨j, hj, ed⟩ := Option.map_eq_some_iff.mp hd
    have hi : i < n := by
      have := (List.getElem?_eq_some_iff.mp hj).1
      simpa using this
    have ej : j = i := by
      have := (List.getElem?_eq_some_iff.mp hj).2
      simpa using this.symm
    subst ej
    refine ⟨hi, fun x H'' hx => ?_⟩
    obtain ⟨rfl, rfl⟩ := hx
    subst ed
    exact ⟨.refl l.ok, .int _⟩, fun Z β' S' H' l _ => by show n ≤ _; simp⟩
def sRange1 (tl : TLs) : TSr := fun ρ S Q => tl ρ S fun xs S1 => ∃ n : Int, xs = [.int n] ∧ -(2 ^ 62) ≤ n ∧ n < 2 ^ 62 ∧ Q (rangeD 0 n) (fun _ => True) S1
def sRange2 (tl : TLs) : TSr := fun ρ S Q => tl ρ S fun xs S1 => ∃ m n : Int, xs = [.int m, .int n] ∧ (-(2 ^ 62) ≤ m ∧ m < 2 ^ 62 ∧ -(2 ^ 62) ≤ n ∧ n < 2 ^ 62) ∧ Q (rangeD m n) (fun _ => True) S1
theorem _root_.L2.PI.imp {t t' : TI} (h : PI X tg e t) (i : ∀ σ H R, t' σ H R → t σ H R) : PI X tg e t' := ⟨fun pins s σ H R I q => h.run pins s σ H R I (i σ H R q)⟩
theorem Reps.one {K : PySem.W.Frag} {B : Hp} {β : List Addr} {vs : List V} {d : D} (h : Reps K B β vs [d]) : ∃ v, vs = [v] ∧ Rep K B β v d := by
  cases h with
  | cons h1 h2 =>
    cases h2
    exact ⟨_, rfl, h1⟩
theorem Reps.two {K : PySem.W.Frag} {B : Hp} {β : List Addr} {vs : List V} {d d2 : D} (h : Reps K B β vs [d, d2]) : ∃ v v2, vs = [v, v2] ∧ Rep K B β v d ∧ Rep K B β v2 d2 := by
  cases h with
  | cons h1 h2 =>
    obtain ⟨v2, rfl, h3⟩ := h2.one
    exact ⟨_, _, rfl, h1, h3⟩
variable {a b : Expr} {tl : TLs} {p : Pos}
theorem di_range1 (hg : Gl X "range") (hm : X.mg "range" = none) (ha : PA X [a] (tA X.K G tl)) (hs : starEach [a] X.env = [(false, eval a X.env)] := by rfl) : PI X tg (.Call (.Name "range" p) [a] [] pos) (tI X.K G (sRange1 tl)) :=
  (pi_range1 hg hm ha hs).imp fun σ H R ⟨Y, β, S, ρ, Q', rl, q, k⟩ => ⟨Y, β, S, ρ, _, rl, q, fun xs S1 vs β1 H1 s1 r1 ⟨n, ex, h1, h2, q1⟩ => by
    subst ex
    obtain ⟨v, rfl, r⟩ := r1.one
    cases r
    refine ⟨n, rfl, h1, h2, k _ _ _ _ _ _ s1 (range_iter 0 n.toNat) ?_⟩
    unfold rangeD at q1
    rwa [show (n - 0).toNat = n.toNat by omega] at q1⟩
end
def sFor (ts : TSr) (t : Tg) (tb : TSd) : TSd := fun N ρ S => ts ρ S fun items stays S1 => ∃ I : Nat → Rho → Store → Prop, I 0 ρ S1 ∧ (∀ i ρ' S', I i ρ' S' → stays S') ∧
  (∀ i d ρ' S', items[i]? = some d → I i ρ' S' → ∃ ρ'', bindT t d ρ' = some ρ'' ∧ tb { N with nx := I (i + 1), ct := I (i + 1), bk := N.nx } ρ'' S') ∧ ∀ ρ' S', I items.length ρ' S' → N.nx ρ' S'
section
variable {X : Cx} {iter tg : Expr} {pos : Pos} {body : List Stmt} {ts : TSr} {t : Tg} {tb : TSd}
theorem ds_for (hp : PassesOwn (model X.prog X.w) X.A X.env X.xe) (hc : X.calm = true) (hi : PI X tg iter (tI X.K G ts)) (hg : PG X tg (toG X.K t)) (hb : PSs X body (tS X.K G tb))
    (hs : ∀ x, foldedSetIterable iter X.env x = pure x := by intro _; rfl) : PS X (.For tg iter body [] pos) (tS X.K G (sFor ts t tb)) := by
  refine (ps_for hp hc hi hg hb hs).imp fun D' σ H ⟨Y, β, S, ρ, N, rl, q, l⟩ => ⟨Y, β, S, ρ, _, rl, q, fun items stays S1 β1 H1 J s1 io ⟨I, i0, ist, istep, iend⟩ => ?_⟩
  refine ⟨fun i m σ' H' => m = items.length - i ∧ i ≤ items.length ∧ ∃ β' S' ρ', Step X.K G Y β1 S1 H1 β' S' H' ∧ Rel X.K G Y β' S' ρ' σ' H' ∧ I i ρ' S', ⟨items.length, by simp, Nat.zero_le _, β1, S1, ρ, .refl s1.ok, rl.step s1, i0⟩, ?_⟩
  rintro i m σ' H' ⟨rfl, hi', β', S', ρ', st, r', inv⟩
  by_cases hlt : i < items.length
  · have hx : items[i]? = some items[i] := List.getElem?_eq_getElem hlt
    obtain ⟨g1, g2⟩ := io.go _ _ _ _ st.lat (ist _ _ _ inv) i _ hx
    refine .inr ⟨g1, fun σ3 H3 => ∃ β3 S3 ρ3, Step _ _ Y β1 S1 H1 β3 S3 H3 ∧ Rel _ _ Y β3 S3 ρ3 σ3 H3 ∧ I (i + 1) ρ3 S3, fun σ3 H3 ⟨β3, S3, ρ3, a1, a2, a3⟩ => ⟨items.length - (i + 1), by omega, rfl, hlt, β3, S3, ρ3, a1, a2, a3⟩, fun x H'' hy => ?_⟩
    obtain ⟨s2, rx⟩ := g2 x H'' hy
    obtain ⟨ρ2, hb2, hbody⟩ := istep i _ ρ' S' hx inv
    obtain ⟨σ2, hset, r2, _⟩ := bind_ok hb2 (r'.step s2) rx
    refine hset _ ⟨Y, β', S', ρ2, _, r2, hbody, ?_⟩
    have s3 := st.trans s2
    exact ⟨fun ρ4 S4 σ4 β4 H4 s4 r4 q4 => ⟨β4, S4, ρ4, s3.trans s4, r4, q4⟩, fun d S4 v β4 H4 s4 => l.rt d S4 v β4 H4 ((s1.trans s3).trans s4),
      fun ρ4 S4 σ4 β4 H4 s4 r4 q4 => l.nx ρ4 S4 σ4 β4 H4 ((s1.trans s3).trans s4) r4 q4, fun ρ4 S4 σ4 β4 H4 s4 r4 q4 => ⟨β4, S4, ρ4, s3.trans s4, r4, q4⟩⟩
  · have e : i = items.length := by omega
    subst e
    exact .inl ⟨io.stop _ _ _ _ st.lat (ist _ _ _ inv), l.nx ρ' S' σ' β' H' (s1.trans st) r' (iend ρ' S' inv)⟩
end
end NC
set_option Elab.async false
set_option linter.all false
set_option maxRecDepth 100000
set_option maxHeartbeats 1000000
namespace NC
open PySem PySem.Spec PyProof.Rows L2
open Evl (Ex)
section
variable {K : PySem.W.Frag} {Y β : List Addr} {S : Store} {H : Hp} {a : Addr}
theorem hid_more : hid (a :: Y) β S H = fun b => if b = a then none else hid Y β S H b := by
  funext b
  unfold hid
  by_cases h : b = a
  · rw [if_pos h, if_pos (.inl (by simp [h]))]
  · rw [if_neg h]
    have e : (b ∈ a :: Y ∨ ∃ (n : Nat) (o : SO), β[n]? = some b ∧ S[n]? = some (some o)) ↔ (b ∈ Y ∨ ∃ (n : Nat) (o : SO), β[n]? = some b ∧ S[n]? = some (some o)) := by simp [h]
    by_cases q : b ∈ Y ∨ ∃ (n : Nat) (o : SO), β[n]? = some b ∧ S[n]? = some (some o)
    · rw [if_pos q, if_pos (e.mpr q)]
    · rw [if_neg q, if_neg fun z => q (e.mp z)]
theorem hid_upd {o : HO} : hid (a :: Y) β S (upd H a o) = hid (a :: Y) β S H := by
  rw [hid_more, hid_more]
  funext b
  by_cases h : b = a
  · rw [if_pos h, if_pos h]
  · rw [if_neg h, if_neg h]
    unfold hid
    rw [upd_ne h]
theorem Ok.unseen (o : Ok K G Y β S H) (hp : H a = none) : ∀ w, w ∈ G.w → a ∉ w.Y := fun w hw hm => o.xtrk a ((o.gh w hw).ext a hm).1 hp
theorem Ok.touch (o : Ok K G (a :: Y) β S H) (hg : ∀ w, w ∈ G.w → a ∉ w.Y) {u : HO} (hu : H a = some u ∧ (∀ ps, u ≠ .tbl ps) ∧ ∀ c q, u ≠ LamX.CodeO c q) (ob : HO) (hn : ∀ us, ob ≠ .tup us := by intro _ z; cases z) : Ok K G (a :: Y) β S (upd H a ob) := by
  have tr : ∀ b, H b ≠ none → upd H a ob b ≠ none := fun b h => by
    by_cases e : b = a
    · subst e
      rw [upd_same]
      simp
    · rw [upd_ne e]
      exact h
  refine ⟨o.len, o.nd, o.out, fun b hb => tr b (o.trk b hb), fun b hb => tr b (o.xtrk b hb), fun n so e => ?_, fun w hw => ?_, o.tb.upd (.inr hu) (.inr hn)⟩
  rotate_left
  · have z := o.gh w hw
    exact ⟨z.pre, by rw [hid_upd]; exact z.ex, fun b hb => ⟨(z.ext b hb).1, (z.ext b hb).2.trans (.inl (upd_ne (show b ≠ a from fun e => hg w hw (e ▸ hb))))⟩, fun b h => tr b (z.trk b h)⟩
  obtain ⟨b, e1, r⟩ := o.obj n so e
  refine ⟨b, e1, ?_⟩
  rw [hid_upd]
  refine r.keep (Ex.refl _) (.refl _) fun _ => upd_ne fun e2 => ?_
  exact o.out b (List.mem_of_getElem? e1) (by simp [e2])
theorem Ok.open (o : Ok K G Y β S H) (hp : H a = none) (ob : HO) (hn : ∀ us, ob ≠ .tup us := by intro _ z; cases z) : Ok K G (a :: Y) β S (upd H a ob) ∧ Ex (hid Y β S H) (hid (a :: Y) β S (upd H a ob)) := by
  have ne : ∀ b, H b ≠ none → b ≠ a := fun b h e => h (e ▸ hp)
  have ex : Ex (hid Y β S H) (hid (a :: Y) β S (upd H a ob)) := fun b u h => by
    have hb : b ≠ a := ne b (by rw [hid_ex b u h]; simp)
    rw [hid_upd, hid_more]
    show (if b = a then none else hid Y β S H b) = some u
    rw [if_neg hb]
    exact h
  refine ⟨⟨o.len, o.nd, fun b hb hm => ?_, fun b hb => ?_, fun b hb => ?_, fun n so e => ?_, fun w hw => ?_, ⟨(o.tb.upd (o := .tup []) (.inl hp) (.inr hn)).tabs, fun p hp => List.mem_cons_of_mem _ (o.tb.hid p hp), fun b hb us e => by
    rcases List.mem_cons.mp hb with z | z
    · subst z
      rw [upd_same] at e
      exact hn us (Option.some.inj e)
    · exact (o.tb.upd (o := .tup []) (u := ob) (.inl hp) (.inr hn)).nt b z us e⟩⟩, ex⟩
  rotate_right
  · have z := o.gh w hw
    refine ⟨z.pre, z.ex.trans ex, fun b hb => ⟨List.mem_cons_of_mem _ (z.ext b hb).1, (z.ext b hb).2.trans (.inl (upd_ne (show b ≠ a from fun e => o.unseen hp w hw (e ▸ hb))))⟩, fun b h => ?_⟩
    rw [upd_ne (ne b (z.trk b h))]
    exact z.trk b h
  · rcases List.mem_cons.mp hm with h | h
    · exact ne b (o.trk b hb) h
    · exact o.out b hb h
  · rw [upd_ne (ne b (o.trk b hb))]
    exact o.trk b hb
  · rcases List.mem_cons.mp hb with h | h
    · rw [h, upd_same]
      simp
    · rw [upd_ne (ne b (o.xtrk b h))]
      exact o.xtrk b h
  · obtain ⟨b, e1, r⟩ := o.obj n so e
    exact ⟨b, e1, r.keep ex (.refl _) fun h => upd_ne (ne b h)⟩
theorem Ok.noTab (o : Ok K G Y β S H) {u : HO} (hu : H a = some u) (n : ∀ ps, u ≠ .tbl ps) : ∀ p ∈ G.T, p.1 ≠ a := fun p hp e => by
  obtain ⟨ps, h1, _⟩ := o.tb.tabs p hp
  rw [e, hu] at h1
  exact n ps (Option.some.inj h1)
theorem Ok.close (o : Ok K G (a :: Y) β S H) (hg : ∀ w, w ∈ G.w → a ∉ w.Y) {u : HO} (hu : H a = some u) (hn : ∀ ps, u ≠ .tbl ps) : Ok K G Y β S H ∧ Ex (hid (a :: Y) β S H) (hid Y β S H) := by
  have ex : Ex (hid (a :: Y) β S H) (hid Y β S H) := fun b u h => by
    rw [hid_more] at h
    have h' : (if b = a then none else hid Y β S H b) = some u := h
    by_cases e : b = a
    · rw [if_pos e] at h'
      cases h'
    · rwa [if_neg e] at h'
  refine ⟨⟨o.len, o.nd, fun b hb hm => o.out b hb (by simp [hm]), o.trk, fun b hb => o.xtrk b (by simp [hb]), fun n so e => ?_, fun w hw => ?_, ⟨o.tb.tabs, fun p hp => (List.mem_cons.mp (o.tb.hid p hp)).elim (fun e => (o.noTab hu hn p hp e).elim) id, fun b hb => o.tb.nt b (List.mem_cons_of_mem _ hb)⟩⟩, ex⟩
  rotate_left
  · have z := o.gh w hw
    refine ⟨z.pre, z.ex.trans ex, fun b hb => ⟨?_, (z.ext b hb).2⟩, z.trk⟩
    rcases List.mem_cons.mp (z.ext b hb).1 with e | e
    · exact (hg w hw (e ▸ hb)).elim
    · exact e
  obtain ⟨b, e1, r⟩ := o.obj n so e
  exact ⟨b, e1, r.keep ex (.refl _) fun _ => rfl⟩
theorem Ok.adopt (o : Ok K G (a :: Y) β S H) (hg : ∀ w, w ∈ G.w → a ∉ w.Y) (hY : a ∉ Y) {vs : List V} {ds : List D} (h : H a = some (.lst vs)) (r : Reps K (hid (a :: Y) β S H) β vs ds) :
    Ok K G Y (β ++ [a]) (S ++ [some (.lst ds)]) H ∧ Ex (hid (a :: Y) β S H) (hid Y (β ++ [a]) (S ++ [some (.lst ds)]) H) := by
  have hb : a ∉ β := fun hm => o.out a hm (by simp)
  have ex : Ex (hid (a :: Y) β S H) (hid Y (β ++ [a]) (S ++ [some (.lst ds)]) H) := fun b u h => by
    unfold hid at h ⊢
    split at h
    · cases h
    · rename_i hn
      rw [if_neg]
      · exact h
      · rintro (h' | ⟨m, o', e1, e2⟩)
        · exact hn (.inl (by simp [h']))
        · by_cases hm : m < β.length
          · rw [List.getElem?_append_left hm] at e1
            rw [List.getElem?_append_left (by rw [← o.len]; exact hm)] at e2
            exact hn (.inr ⟨m, o', e1, e2⟩)
          · rw [List.getElem?_append_right (by omega)] at e1
            have e3 : b = a := by
              have := List.mem_of_getElem? e1
              simpa using this
            exact hn (.inl (by simp [e3]))
  have pre : Pre β (β ++ [a]) := ⟨[a], rfl⟩
  refine ⟨⟨by simp [o.len], ?_, fun b hm => ?_, fun b hm => ?_, fun b hb => o.xtrk b (by simp [hb]), fun m o' e => ?_, fun w hw => ?_, ⟨o.tb.tabs, fun p hp => (List.mem_cons.mp (o.tb.hid p hp)).elim (fun e => (o.noTab h (fun _ z => (by cases z)) p hp e).elim) id, fun b hb => o.tb.nt b (List.mem_cons_of_mem _ hb)⟩⟩, ex⟩
  rotate_right
  · have z := o.gh w hw
    refine ⟨z.pre.trans pre, z.ex.trans ex, fun b hb => ⟨?_, (z.ext b hb).2⟩, z.trk⟩
    rcases List.mem_cons.mp (z.ext b hb).1 with e | e
    · exact (hg w hw (e ▸ hb)).elim
    · exact e
  · rw [List.nodup_append]
    refine ⟨o.nd, by simp, fun b hb' c hc => ?_⟩
    have e3 : c = a := by simpa using hc
    rw [e3]
    intro e4
    exact hb (e4 ▸ hb')
  · rcases List.mem_append.mp hm with h' | h'
    · exact fun q => o.out b h' (by simp [q])
    · have e3 : b = a := by simpa using h'
      rw [e3]
      exact hY
  · rcases List.mem_append.mp hm with h' | h'
    · exact o.trk b h'
    · have e3 : b = a := by simpa using h'
      rw [e3, h]
      simp
  · by_cases hm : m < S.length
    · rw [List.getElem?_append_left hm] at e
      obtain ⟨b, e1, r'⟩ := o.obj m o' e
      exact ⟨b, pre.get e1, r'.keep ex pre fun _ => rfl⟩
    · rw [List.getElem?_append_right (by omega)] at e
      have hm' : m - S.length = 0 := by
        have := (List.getElem?_eq_some_iff.mp e).1
        simp at this
        omega
      rw [hm'] at e
      cases e
      refine ⟨a, ?_, vs, h, r.mono ex pre⟩
      rw [List.getElem?_append_right (by rw [o.len]; omega), o.len, hm']
      rfl
end
def lcW (ts : TSr) (t : Tg) (tt : TB) (te : TD) (vs : List Nat) (ρ : Rho) (S : Store) (R : List D → Store → Prop) : Prop := ts ρ S fun items stays S1 => ∃ I : Nat → List D → Store → Prop, I 0 [] S1 ∧ (∀ i acc S', I i acc S' → stays S') ∧ items.length ≤ sizeLine ∧
  (∀ i d acc S', items[i]? = some d → I i acc S' → ∃ ρ2, bindT t d (wipeD ρ vs) = some ρ2 ∧ tt ρ2 S' fun b S2 => if b = true then te ρ2 S2 fun y S3 => I (i + 1) (acc ++ [y]) S3 else I (i + 1) acc S2) ∧ ∀ acc S', I items.length acc S' → R acc S'
def eLc (ts : TSr) (t : Tg) (tt : TB) (te : TD) (vs : List Nat) : TD := fun ρ S Q => lcW ts t tt te vs ρ S fun acc S' => Q (.lst acc) S'
def eLcM (ts : TSr) (t : Tg) (tt : TB) (te : TD) (vs : List Nat) : TD := fun ρ S Q => lcW ts t tt te vs ρ S fun acc S' => Q (.ref S'.length) (S' ++ [some (.lst acc)])
def bYes : TB := fun _ S Q => Q true S
section
variable {K : PySem.W.Frag}
theorem lc_core' {ts : TSr} {t : Tg} {tt : TB} {te : TD} {vs : List Nat} {σ : L2.St} {H : Hp} {Q : VK} {Y β : List Addr} {S : Store} {ρ : Rho} {R : List D → Store → Prop} (hv : ∀ i ∈ t.slots, i ∈ vs) (rl : Rel K G Y β S ρ σ H) (h : lcW ts t tt te vs ρ S R)
    (k : ∀ (acc : List D) (S' : Store) (us : List V) (p : Addr) (β' : List Addr) (H' : Hp), Ok K G (p :: Y) β' S' H' → Pre β β' → Ex (hid Y β S H) (hid (p :: Y) β' S' H') → (∀ a ∈ Y, Kept H H' a) → (∀ a, H a ≠ none → H' a ≠ none) → p ∉ Y → (∀ w, w ∈ G.w → p ∉ w.Y) →
      H' p = some (.lst us) → Reps K (hid (p :: Y) β' S' H') β' us acc → R acc S' → Q (.ref p) H') :
    tLc (tI K G ts) (toG K t) (tT K G tt) (tE K G te) vs σ H Q := by
  refine ⟨Y, β, S, ρ, _, rl, h, fun items stays S1 β1 H1 J s1 io ⟨I, i0, ist, hlen, istep, iend⟩ => fun p hp => ?_⟩
  have hpY : p ∉ Y := fun hm => s1.ok.xtrk p hm hp
  obtain ⟨ok0, ex0⟩ := s1.ok.open hp (.lst [])
  have hgp := s1.ok.unseen hp
  have ne1 : ∀ b, H1 b ≠ none → b ≠ p := fun b h e => h (e ▸ hp)
  refine ⟨fun i m H' => m = items.length - i ∧ i ≤ items.length ∧ ∃ β' S' acc us, Lat K G Y β1 S1 H1 (p :: Y) β' S' H' ∧ (∀ a ∈ Y, Kept H1 H' a) ∧ (∀ a, H1 a ≠ none → H' a ≠ none) ∧ H' p = some (.lst us) ∧ Reps K (hid (p :: Y) β' S' H') β' us acc ∧ acc.length ≤ i ∧ I i acc S',
    ⟨items.length, by simp, Nat.zero_le _, β1, S1, [], [], ⟨ok0, .refl _, ex0⟩, fun a ha => .inl (upd_ne (ne1 a (s1.ok.xtrk a ha))), fun a ha => by rw [upd_ne (ne1 a ha)]; exact ha, upd_same, .nil, Nat.zero_le _, i0⟩, ?_⟩
  rintro i m H' ⟨rfl, hi, β', S', acc, us, lt, hx, htr, hpv, rp, hal, inv⟩
  by_cases hlt : i < items.length
  · have hit : items[i]? = some items[i] := List.getElem?_eq_getElem hlt
    obtain ⟨g1, g2⟩ := io.go _ _ _ _ lt (ist _ _ _ inv) i _ hit
    refine .inr ⟨g1, fun H3 => ∃ β' S' acc us, Lat K G Y β1 S1 H1 (p :: Y) β' S' H3 ∧ (∀ a ∈ Y, Kept H1 H3 a) ∧ (∀ a, H1 a ≠ none → H3 a ≠ none) ∧ H3 p = some (.lst us) ∧ Reps K (hid (p :: Y) β' S' H3) β' us acc ∧ acc.length ≤ i + 1 ∧ I (i + 1) acc S',
      fun H3 h3 => ⟨items.length - (i + 1), by omega, rfl, hlt, h3⟩, fun x H2 hy => ?_⟩
    obtain ⟨s2, rx⟩ := g2 x H2 hy
    obtain ⟨ρ2, hb2, hbody⟩ := istep i _ acc S' hit inv
    -- the frame's values, at this turn
    have rl1 : Rel K G (p :: Y) β' S' ρ σ H2 := ⟨s2.ok, rl.len, fun j d e => let ⟨v, e1, q⟩ := rl.get j d e; ⟨v, e1, (((s1.rep q).mono lt.ex lt.pre)).mono s2.ex s2.pre⟩⟩
    obtain ⟨σ2, hset, r2, hw⟩ := bind_ok hb2 (rl1.wipe vs) rx
    refine hset _ ⟨?_, p :: Y, β', S', ρ2, _, r2, hbody, fun b S3 β3 H3 s3 q3 => ?_⟩
    · rw [hw vs hv, wipe_wipe fun u hu => hu]
    · have s23 := s2.trans s3
      have hp3 : ∀ {β4 : List Addr} {S4 : Store} {H4 : Hp}, Step K G (p :: Y) β' S' H' β4 S4 H4 → H4 p = some (.lst us) := fun s4 => (s4.ext p (by simp)).at hpv fun _ z => (by cases z)
      cases b with
      | true =>
        refine ⟨p :: Y, β3, S3, ρ2, _, r2.step s3, q3, fun y S4 v β4 H4 s4 r4 q4 => ?_⟩
        have s24 := s23.trans s4
        refine ⟨us, hp3 s24, by have := rp.len; omega, β4, S4, acc ++ [y], us ++ [v], ⟨s24.ok.touch hgp ⟨hp3 s24, fun _ z => (by cases z), fun _ _ => code_lst⟩ _, lt.pre.trans s24.pre, ?_⟩, fun a ha => ?_, fun a ha => ?_, upd_same, ?_, by simp; omega, q4⟩
        · rw [hid_upd]
          exact lt.ex.trans s24.ex
        · exact ((hx a ha).trans (s24.ext a (by simp [ha]))).trans (.inl (upd_ne (fun e : a = p => hpY (e ▸ ha))))
        · by_cases e : a = p
          · rw [e, upd_same]
            simp
          · rw [upd_ne e]
            exact s24.trk a (htr a ha)
        · rw [hid_upd]
          exact (s24.reps rp).append (.cons r4 .nil)
      | false =>
        exact ⟨β3, S3, acc, us, ⟨s23.ok, lt.pre.trans s23.pre, lt.ex.trans s23.ex⟩, fun a ha => (hx a ha).trans (s23.ext a (by simp [ha])), fun a ha => s23.trk a (htr a ha), hp3 s23, s23.reps rp, by omega, q3⟩
  · have e : i = items.length := by omega
    subst e
    refine .inl ⟨io.stop _ _ _ _ lt (ist _ _ _ inv), ?_⟩
    exact k acc S' us p β' H' lt.ok (s1.pre.trans lt.pre) (s1.ex.trans lt.ex) (fun a ha => (s1.ext a ha).trans (hx a ha)) (fun a ha => htr a (s1.trk a ha)) hpY hgp hpv rp (iend _ _ inv)
theorem lc_lift {ts : TSr} {t : Tg} {tt : TB} {te : TD} {vs : List Nat} (hv : ∀ i ∈ t.slots, i ∈ vs) {σ : L2.St} {H : Hp} {Q : VK} (h : tE K G (eLc ts t tt te vs) σ H Q) : tLc (tI K G ts) (toG K t) (tT K G tt) (tE K G te) vs σ H Q := by
  obtain ⟨Y, β, S, ρ, Q', rl, q, k⟩ := h
  refine lc_core' hv rl q fun acc S' us p β' H' ok pre ex hx htr hpY hgp hpv rp hq => ?_
  obtain ⟨ok', ex'⟩ := ok.close hgp hpv fun _ z => (by cases z)
  have hl : hid Y β' S' H' p = some (.lst us) := by
    rw [hid_of hpY fun n o e1 _ => ok.out p (List.mem_of_getElem? e1) (by simp)]
    exact hpv
  exact k _ S' _ β' H' ⟨pre, ex.trans ex', hx, htr, ok'⟩ (.lst hl (rp.mono ex' (.refl _))) hq
theorem lcM_lift {ts : TSr} {t : Tg} {tt : TB} {te : TD} {vs : List Nat} (hv : ∀ i ∈ t.slots, i ∈ vs) {σ : L2.St} {H : Hp} {Q : VK} (h : tE K G (eLcM ts t tt te vs) σ H Q) : tLc (tI K G ts) (toG K t) (tT K G tt) (tE K G te) vs σ H Q := by
  obtain ⟨Y, β, S, ρ, Q', rl, q, k⟩ := h
  refine lc_core' hv rl q fun acc S' us p β' H' ok pre ex hx htr hpY hgp hpv rp hq => ?_
  obtain ⟨ok', ex'⟩ := ok.adopt hgp hpY hpv rp
  have hl : S'.length = β'.length := ok.len.symm
  refine k _ _ _ (β' ++ [p]) H' ⟨pre.trans ⟨[p], rfl⟩, ex.trans ex', hx, htr, ok'⟩ (.ref ?_) hq
  rw [hl, List.getElem?_append_right (Nat.le_refl _), Nat.sub_self]
  rfl
end
section
variable {X : Cx} {elt tg iter e : Expr} {ifs : List Expr} {scope : Scope} {own : List (Str × Nat)} {pos spos : Pos} {ts : TSr} {t : Tg} {tt : TB} {te ta : TD} {vs : List Nat}
theorem dts_nil : PTs X [] (tT X.K G bYes) := ⟨fun pins s σ H Q I ⟨Y, β, S, ρ, Q', rl, q, k⟩ => pts_nil.run pins s σ H Q I (k true S β H (.refl rl.ok) q)⟩
theorem dts_one {c : Expr} (h : PT X c (tT X.K G tt)) : PTs X [c] (tT X.K G tt) := pts_one h
theorem de_lcOf (h : PE X e (tLc (tI X.K G ts) (toG X.K t) (tT X.K G tt) (tE X.K G te) vs)) (hv : ∀ i ∈ t.slots, i ∈ vs) : PE X e (tE X.K G (eLc ts t tt te vs)) := h.imp fun _ _ _ q => lc_lift hv q
theorem de_lcMOf (h : PE X e (tLc (tI X.K G ts) (toG X.K t) (tT X.K G tt) (tE X.K G te) vs)) (hv : ∀ i ∈ t.slots, i ∈ vs) : PE X e (tE X.K G (eLcM ts t tt te vs)) := h.imp fun _ _ _ q => lcM_lift hv q
def sAsg (t : Tg) (ta : TD) : TSd := fun N ρ S => ta ρ S fun d S1 => ∃ ρ', bindT t d ρ = some ρ' ∧ N.nx ρ' S1
variable {st : Stmt}
theorem asg_lift {te' : TE} (i : ∀ σ H Q, tE X.K G ta σ H Q → te' σ H Q) {D' : Ends} {σ : L2.St} {H : Hp} (h : tS X.K G (sAsg t ta) D' σ H) : tAsg te' (toG X.K t) D' σ H := by
  obtain ⟨Y, β, S, ρ, N, rl, q, l⟩ := h
  refine i σ H _ ⟨Y, β, S, ρ, _, rl, q, fun d S1 v β1 H1 s1 r1 ⟨ρ', hb, hn⟩ => ?_⟩
  obtain ⟨σ', hset, r', _⟩ := bind_ok hb (rl.step s1) r1
  exact hset _ (l.nx ρ' S1 σ' β1 H1 s1 r' hn)
theorem ds_asgOf {te' : TE} (h : PS X st (tAsg te' (toG X.K t))) (i : ∀ σ H Q, tE X.K G ta σ H Q → te' σ H Q) : PS X st (tS X.K G (sAsg t ta)) := h.imp fun _ _ _ q => asg_lift i q
theorem ds_asg (h : PS X st (tAsg (tE X.K G ta) (toG X.K t))) : PS X st (tS X.K G (sAsg t ta)) := ds_asgOf h fun _ _ _ q => q
def sPar (i j : Nat) (tl : TLs) : TSd := fun N ρ S => tl ρ S fun ds S1 => ∃ d e, ds = [d, e] ∧ N.nx ((ρ.set i (some d)).set j (some e)) S1
theorem ds_par {i j : Nat} {tl : TLs} (h : PS X st (tPar i j (tA X.K G tl))) : PS X st (tS X.K G (sPar i j tl)) := h.imp fun D' σ H ⟨Y, β, S, ρ, N, rl, q, l⟩ =>
  ⟨Y, β, S, ρ, _, rl, q, fun ds S1 vs β1 H1 s1 r1 ⟨d, e, ed, hn⟩ => by
    subst ed
    obtain ⟨v, w, rfl, rv, rw'⟩ := r1.two
    exact ⟨v, w, rfl, l.nx _ S1 _ β1 H1 s1 (((rl.step s1).set rv i).set rw' j) hn⟩⟩
def sPut (to ti ta : TD) : TSd := fun N ρ S => ta ρ S fun d S1 => to ρ S1 fun o S2 => ti ρ S2 fun k S3 => ∃ n i ds j, o = .ref n ∧ k = .int i ∧ S3[n]? = some (some (.lst ds)) ∧ ixN ds.length i = some j ∧ N.nx ρ (S3.set n (some (.lst (ds.set j d))))
theorem ds_put {to ti : TD} (h : PS X st (tAsg (tE X.K G ta) (gSub (tE X.K G to) (tE X.K G ti) rSetL))) : PS X st (tS X.K G (sPut to ti ta)) := h.imp fun D' σ H ⟨Y, β, S, ρ, N, rl, q, l⟩ =>
  ⟨Y, β, S, ρ, _, rl, q, fun d S1 v β1 H1 s1 r1 q1 => ⟨Y, β1, S1, ρ, _, rl.step s1, q1, fun o S2 ov β2 H2 s2 r2 q2 => ⟨Y, β2, S2, ρ, _, (rl.step s1).step s2, q2, fun k S3 kv β3 H3 s3 r3 ⟨n, i, ds, j, eo, ek, hs, hj, hn⟩ => by
    subst eo
    subst ek
    cases r3
    obtain ⟨a, e1, us, hu, ru⟩ := s3.ok.obj n _ hs
    cases (s3.rep r2) with
    | ref e2 =>
      rw [e1] at e2
      cases e2
      have s4 := s3.ok.put hs e1 (ru.set (s3.rep (s2.rep r1)) j)
      exact ⟨a, us, i, j, rfl, rfl, hu, by rw [ru.len]; exact hj, l.nx ρ _ σ β3 _ (((s1.trans s2).trans s3).trans s4) ((((rl.step s1).step s2).step s3).step s4) hn⟩⟩⟩⟩
def tyM (T : String) : D → Prop
  | .lst _ => T = "list"
  | .str _ => T = "str"
  | .int _ => T = "int"
  | .dic _ => T = "dict"
  | .dit _ => T = "dict"
  | _ => False
theorem tyM_ok {K : PySem.W.Frag} {Y β : List Addr} {S : Store} {H : Hp} {T : String} {v : V} {d : D} (o : Ok K G Y β S H) (r : Rep K (hid Y β S H) β v d) (h : tyM T (drf S d)) : tyV K T v H := by
  have r' := o.drf r
  generalize drf S d = e at h r'
  cases e with
  | lst xs =>
    cases r' with
    | lst h1 h2 => exact .inl ⟨h, _, .inl (.inl h1)⟩
  | str x => cases r'; exact h
  | int i => cases r'; exact h
  | dic ks =>
    cases r' with
    | dic h1 h2 => exact .inr (.inr (.inl ⟨h, .inl ⟨_, h1⟩⟩))
  | dit ks =>
    cases r' with
    | dit h1 h2 => exact .inr (.inr (.inl ⟨h, .inr ⟨_, h1⟩⟩))
  | _ => exact h.elim
abbrev RDm := D → List D → Store → QD → Prop
def lm (K : PySem.W.Frag) (G : Gh) (r : RDm) : V → List V → Hp → VK → Prop := fun v vs H Q => ∃ Y β S x xs Q', Ok K G Y β S H ∧ Rep K (hid Y β S H) β v x ∧ Reps K (hid Y β S H) β vs xs ∧ r x xs S Q' ∧ out K G Y β S H Q' Q
def eM (T : String) (r : RDm) (to : TD) (tl : TLs) : TD := fun ρ S Q => to ρ S fun x S1 => tyM T (drf S1 x) ∧ tl ρ S1 fun xs S2 => r x xs S2 Q
theorem de_mOf {T : String} {r : RDm} {to : TD} {tl : TLs} (h : PE X e (tBM X.K T (lm X.K G r) (tE X.K G to) (tA X.K G tl))) : PE X e (tE X.K G (eM T r to tl)) := h.imp fun σ H Q ⟨Y, β, S, ρ, Q', rl, q, k⟩ =>
  ⟨Y, β, S, ρ, _, rl, q, fun x S1 v β1 H1 s1 r1 ⟨ty, q1⟩ => ⟨tyM_ok s1.ok r1 ty, Y, β1, S1, ρ, _, rl.step s1, q1, fun xs S2 vs β2 H2 s2 r2 q2 =>
    ⟨Y, β2, S2, x, xs, Q', s2.ok, s2.rep r1, r2, q2, fun z S3 w β3 H3 s3 r3 q3 => k z S3 w β3 H3 ((s1.trans s2).trans s3) r3 q3⟩⟩⟩
end
end NC
set_option Elab.async false
set_option linter.all false
set_option maxRecDepth 100000
set_option maxHeartbeats 1000000
namespace NC
open PySem PySem.Spec PyProof.Rows L2
open Evl (Ex)
structure Fun (K : PySem.W.Frag) (x qual : Str) (st : Stmt) (f : Addr) (fd : FuncData) : Prop where
  ex : ∃ (oc : Value) (od : Option Addr) (dV kV doc pm : Value) (an : Option Addr) (cdv ct : Value) (osl : Array (Option Value)),
    fd = PySem.W.fnOf x qual (defArgs st) (defBody st) (defScope st) dV kV doc pm an cdv ct ∧ K.lookup f = some ⟨oc, od, .func fd, osl⟩ ∧ PySem.W.codeIn K cdv qual = true
  kp : PySem.W.keepIn K (.ref f) = true
theorem fun_mk {K : PySem.W.Frag} {x qual : Str} {st : Stmt} {f : Addr} {oc : Value} {od an : Option Addr} {osl : Array (Option Value)} {dV kV doc pm cdv ct : Value}
    (l : K.lookup f = some ⟨oc, od, .func (PySem.W.fnOf x qual (defArgs st) (defBody st) (defScope st) dV kV doc pm an cdv ct), osl⟩) (c : PySem.W.codeIn K cdv qual = true) (k : PySem.W.keepIn K (.ref f) = true) :
    Fun K x qual st f (PySem.W.fnOf x qual (defArgs st) (defBody st) (defScope st) dV kV doc pm an cdv ct) := ⟨⟨oc, od, dV, kV, doc, pm, an, cdv, ct, osl, rfl, l, c⟩, k⟩
theorem Fun.binds {K : PySem.W.Frag} {x qual : Str} {st : Stmt} {f : Addr} {fd : FuncData} {ps : List Str} (F : Fun K x qual st f fd)
    (h : ∀ (dV kV doc pm : Value) (an : Option Addr) (cdv ct : Value) (us : List Value), us.length = ps.length → bindArgs (PySem.W.fnOf x qual (defArgs st) (defBody st) (defScope st) dV kV doc pm an cdv ct) ⟨us, []⟩ = pure (ps.zip us)) : Binds K fd ps [] := by
  obtain ⟨oc, od, dV, kV, doc, pm, an, cdv, ct, osl, rfl, lk, hcd⟩ := F.ex
  exact .all (h dV kV doc pm an cdv ct)
structure FnG (P : Program) (w : World) (K : PySem.W.Frag) (mg : Str → Option Value) (base : Heap) (CX : CXT) (k : Nat) (f : Addr) (fd : FuncData) (ps : List Str) (sp : Sp) : Prop where
  many : ∀ vs H Q E, sp vs H Q E → vs.length = ps.length
  go : ∀ (A : Around) (outer : List Env) (s : Shared) (H : Hp) (args : Args) (us : List Value) (vs : List V) (Q : VK) (E : XK),
    Room k A → A.guards = some [] → Env0 P w K mg base A outer s H → BindsTo s fd args (ps.zip us) → Vals vs us → sp vs H Q E →
    codeAny (model P w) A (.call (.ref f) args) (CR CX outer P w H s Q E) s
section
variable {P : Program} {w : World} {K : PySem.W.Frag} {mg : Str → Option Value} {base : Heap} {CX : CXT} {k : Nat} {f : Addr} {fd : FuncData} {ps : List Str} {sp sp' : Sp}
theorem _root_.L2.FnOk.toG (F : FnOk P w K mg base CX k f fd ps sp) : FnG P w K mg base CX k f fd ps sp :=
  ⟨F.len, fun A outer s H args us vs Q E hr _ => F.run A outer s H args us vs Q E hr⟩
theorem FnG.up (F : FnG P w K mg base CX k f fd ps sp) {j : Nat} (h : k ≤ j) : FnG P w K mg base CX j f fd ps sp :=
  ⟨F.many, fun A outer s H args us vs Q E hr => F.go A outer s H args us vs Q E (hr.mono h)⟩
theorem FnG.imp (F : FnG P w K mg base CX k f fd ps sp) (i : ∀ vs H Q E, sp' vs H Q E → sp vs H Q E) : FnG P w K mg base CX k f fd ps sp' :=
  ⟨fun vs H Q E q => F.many vs H Q E (i vs H Q E q), fun A outer s H args us vs Q E hr g e b v q => F.go A outer s H args us vs Q E hr g e b v (i vs H Q E q)⟩
theorem fnG_of {N : List Str} {x qual : Str} {st : Stmt} (F : Fun K x qual st f fd) (Sc : FnScope N ps (defScope st)) (hl : ∀ vs H Q E, sp vs H Q E → vs.length = ps.length)
    (body : ∀ (cdv : Value) (A : Around) (outer : List Env) (s : Shared) (H : Hp) (vs : List V) (Q : VK) (E : XK), Room k (A.deeper (envOfC qual (defScope st) s.heap.objs.size f cdv)) → A.guards = some [] → sp vs H Q E →
      ∃ t, PSs (cxOf CX P w K mg base N qual (defScope st) f cdv A outer s H E) (defBody st) t ∧ t { nx := fun _ H' => Q .non H', rt := Q } (L2.start N vs) H) :
    FnG P w K mg base CX (k + 1) f fd ps sp := by
  obtain ⟨oc, od, dV, kV, doc, pm, an, cdv, ct, osl, rfl, lk, hcd⟩ := F.ex
  refine ⟨hl, ?_⟩
  intro A outer s H args us vs Q E room grd e0 bnd rel hsp
  have size := hl _ _ _ _ hsp
  have kin : K.In s.heap := e0.mod.kin.keeps fun b o z => (e0.bs b o z).1
  have lim := e0.mod.nolimit.keeps (h' := s.heap) fun b o z => (e0.bs b o z).1
  have kinds : ∀ y ∈ ps.zip us, (defScope st).names.lookup y.1 = some .local ∨
      ((defScope st).names.lookup y.1 = some .cell ∧ ((cellsFrom (s.heap.objs.size + 1) (defScope st).names []).lookup y.1).isSome = true) := by
    rintro ⟨n, v⟩ hy
    cases Sc.par n (List.of_mem_zip hy).1 with
    | inl q => exact .inl q
    | inr q => exact .inr ⟨q, PySem.W.cellsFrom_some _ _ _ (.inl q)⟩
  apply codeAny_call_function room.depth (kin _ _ lk) rfl Sc.co Sc.gen rfl (PySem.W.codeRec_of kin hcd)
  apply bnd
  refine wpAny_newFunctionEnv_cells Sc.kind kinds ?_
  rintro env rfl s1 x
  refine ⟨lim.keeps x.toInCall.keep, codeAny_func ?_⟩
  obtain ⟨t, ht, hq⟩ := body cdv A outer s H vs Q E (room.deeper _) grd hsp
  have I := inv_start (CX := CX) (E := E) (f := f) (cd := cdv) (qual := qual) Sc room.hd e0 size rel x
  refine wpAny_mono (ht.run [] s1 (L2.start N vs) H _ I hq) ?_ fun e s' z => z
  rintro fl s' hs
  cases fl with
  | ret u =>
    obtain ⟨v, σ', H', J, rv, q⟩ := hs
    exact ⟨v, H', J.os, J.bare, J.base, J.hok, rv, q⟩
  | next =>
    obtain ⟨σ', H', J, q⟩ := hs
    exact ⟨.non, H', J.os, J.bare, J.base, J.hok, rfl, q⟩
  | brk => exact (hs.choose_spec.choose_spec.2).elim
  | cont => exact (hs.choose_spec.choose_spec.2).elim
end
def lsp (K : PySem.W.Frag) (T : List (Addr × Str)) (r : RDs) : Sp := fun vs H Q _ => ls K ⟨[], T⟩ r vs H Q
def startD (n : Nat) (xs : List D) : Rho := xs.map some ++ List.replicate (n - xs.length) none
theorem start_rel {K : PySem.W.Frag} {Y β : List Addr} {S : Store} {H : Hp} {N : List Str} {vs : List V} {xs : List D} (o : Ok K G Y β S H) (r : Reps K (hid Y β S H) β vs xs) : Rel K G Y β S (startD N.length xs) (L2.start N vs) H := by
  refine ⟨o, ?_, fun i d e => ?_⟩
  · unfold startD L2.start
    rw [List.length_append, List.length_append, List.length_map, List.length_map, List.length_replicate, List.length_replicate, r.len]
  · unfold startD at e
    by_cases hi : i < xs.length
    · rw [List.getElem?_append_left (by simpa using hi), List.getElem?_map] at e
      obtain ⟨d', e1, e2⟩ := Option.map_eq_some_iff.mp e
      cases e2
      obtain ⟨v, e3, q⟩ := r.get e1
      refine ⟨v, ?_, q⟩
      unfold L2.start
      rw [List.getElem?_append_left (by rw [List.length_map, r.len]; exact hi), List.getElem?_map, e3]
      rfl
    · rw [List.getElem?_append_right (by simpa using hi), List.getElem?_replicate] at e
      split at e <;> cases e
section
variable {P : Program} {w : World} {K : PySem.W.Frag} {mg : Str → Option Value} {base : Heap} {k : Nat} {f : Addr} {fd : FuncData} {ps N : List Str} {r : RDs} {x qual : Str} {st : Stmt} {tb : TSd} {T : List (Addr × Str)}
def runD (n : Nat) (tb : TSd) : RDs := fun xs S Q => tb { nx := fun _ S' => Q .non S', rt := Q } (startD n xs) S
theorem def_ok (F : Fun K x qual st f fd) (Sc : FnScope N ps (defScope st)) (hl : ∀ xs S Q, r xs S Q → xs.length = ps.length)
    (hb : ∀ (cdv : Value) (A : Around) (outer : List Env) (s : Shared) (H : Hp) (E : XK), Room k (A.deeper (envOfC qual (defScope st) s.heap.objs.size f cdv)) → A.guards = some [] →
      PSs (cxOf CX0 P w K mg base N qual (defScope st) f cdv A outer s H E).nox (defBody st) (tS K ⟨[], T⟩ tb))
    (hr : ∀ xs S Q, r xs S Q → runD N.length tb xs S Q) : FnG P w K mg base CX0 (k + 1) f fd ps (lsp K T r) := by
  refine fnG_of F Sc (fun vs H Q E h => ?_) fun cdv A outer s H vs Q E room grd h => ⟨tS K ⟨[], T⟩ tb, (hb cdv A outer s H E room grd).nox, ?_⟩
  · obtain ⟨Y, β, S, xs, Q', o, rr, q, _⟩ := h
    rw [rr.len]
    exact hl _ _ _ q
  · obtain ⟨Y, β, S, xs, Q', o, rr, q, kk⟩ := h
    exact ⟨Y, β, S, _, _, start_rel o rr, hr xs S Q' q, ⟨fun ρ' S' σ' β' H' s' r' q' => kk .non S' .non β' H' s' .non q', fun d S' v β' H' s' r' q' => kk d S' v β' H' s' r' q', fun _ _ _ _ _ _ _ z => z.elim, fun _ _ _ _ _ _ _ z => z.elim⟩⟩
end
theorem _root_.L2.PK.imp' {X : Cx} {kws : List Keyword} {t t' : TA} (h : PK X kws t) (i : ∀ σ H Q, t' σ H Q → t σ H Q) : PK X kws t' := ⟨fun pos pins s σ H Q I q => h.run pos pins s σ H Q I (i σ H Q q)⟩
theorem dk_cons {X : Cx} {e : Expr} {kws : List Keyword} {nm : Option Str} {kpos : Pos} {ta : TD} {tl : TLs} (ha : PE X e (tE X.K G ta)) (hr : PK X kws (tA X.K G tl)) : PK X (⟨nm, e, kpos⟩ :: kws) (tA X.K G (aCons ta tl)) :=
  (pk_cons ha hr).imp' fun σ H Q ⟨Y, β, S, ρ, Q', rl, q, k⟩ => ⟨Y, β, S, ρ, _, rl, q, fun x S1 v β1 H1 s1 r1 q1 =>
    ⟨Y, β1, S1, ρ, _, rl.step s1, q1, fun xs S2 vs β2 H2 s2 r2 q2 => k (x :: xs) S2 (v :: vs) β2 H2 (s1.trans s2) (.cons (s2.rep r1) r2) q2⟩⟩
section
variable {X : Cx} {CX : CXT} {k : Nat} {f : Addr} {fd : FuncData} {ps : List Str} {sp : Sp} {dvs : List V} {ds : List Value} {E : XK} {x : Str} {p pos : Pos} {e : Expr} {es : List Expr} {t tk : TA} {kws : List Keyword} {ks : List Str}
theorem runG {pins : List (Addr × Obj)} {σ : L2.St} {H : Hp} {s : Shared} {Q : VK} {us : List Value} {vs : List V} {kw : List (Str × Value)} {as : List Value} (F : FnG X.prog X.w X.K X.mg X.base CX k f fd ps sp) (hr : Room k X.A) (hg : X.A.guards = some [])
    (hb : BindsTo s fd ⟨us, kw⟩ (ps.zip as)) (hx : Passes CX X E) (I : Inv X pins σ H s) (r : Vals vs as) (h : sp vs H Q E) : wpAny (model X.prog X.w) X.A (call (.ref f) us kw) (EP X pins σ Q) X.xe s := by
  apply wpAny_call
  refine codeAny_mono (F.go X.A X.stack s H ⟨us, kw⟩ as vs Q E hr hg I.env0 hb r h) ?_
  rintro (err | fl) s' hq
  · exact hx pins σ H s err s' I hq
  · cases fl with
    | ret u => exact I.after hq
    | next => exact hq.elim
    | brk => exact hq.elim
    | cont => exact hq.elim
def tCallG (sp : Sp) (dvs : List V) (E : XK) (t : TA) : TE := fun σ H Q => t σ H fun vs H1 => sp (vs ++ dvs) H1 Q E
theorem pe_callG (F : FnG X.prog X.w X.K X.mg X.base CX k f fd ps sp) (hr : Room k X.A) (hgd : X.A.guards = some []) (hg : Gl X x) (hm : X.mg x = some (.ref f)) (hk : PySem.W.keepIn X.K (.ref f) = true) (hb : Binds X.K fd ps ds) (hd : Vals dvs ds) (hx : Passes CX X E)
    (ha : PA X (e :: es) t) (hdb : (x == ("__debug__" : Str)) = false := by decide) (he : starEach (e :: es) X.env = (false, eval e X.env) :: starEach es X.env := by rfl) (hpl : (backTo pos (starEach es X.env)).any (·.1) = false := by rfl) :
    PE X (.Call (.Name x p) (e :: es) [] pos) (tCallG sp dvs E t) := by
  constructor
  intro pins s σ H Q I h
  apply wpAny_Call_Name_kw
  refine ld_glob I hg hm ?_ hdb
  apply PySem.W.callWith_K (h₀ := X.base) I.ok.mod.kin hk _ he hpl
  refine thn (ha.run pos pins s σ H _ I h) ?_
  rintro us s1 ⟨vs, H1, I1, r, q⟩
  have r2 := r.append hd
  exact ⟨I1.kIn, runG F hr hgd (hb s1 us I1.kIn (by rw [← r2.length]; exact F.many _ _ _ _ q)) hx I1 r2 q⟩
def pick {α : Type} (perm : List Nat) (xs : List α) (z : α) : List α := perm.map fun i => xs.getD i z
structure KwB (K : PySem.W.Frag) (fd : FuncData) (ps : List Str) (n : Nat) (ks : List Str) (perm : List Nat) : Prop where
  to : ∀ (s : Shared) (us ws : List Value), K.In s.heap → us.length = n → ws.length = ks.length → BindsTo s fd ⟨us, ks.zip ws⟩ (ps.zip (pick perm (us ++ ws) .none))
theorem Vals.pick {vs : List V} {us : List Value} (r : Vals vs us) (perm : List Nat) : Vals (pick perm vs .non) (pick perm us .none) := by
  unfold NC.pick
  induction perm with
  | nil => exact .nil
  | cons i l ih =>
    refine .cons ?_ ih
    by_cases h : i < vs.length
    · have h' : i < us.length := by rw [← r.length]; exact h
      obtain ⟨u, e, q⟩ := r.get (List.getElem?_eq_getElem h)
      rw [List.getElem?_eq_getElem h'] at e
      cases e
      simpa [List.getD_eq_getElem?_getD, h, h'] using q
    · have h' : ¬ i < us.length := by rw [← r.length]; exact h
      have e1 : vs.getD i .non = .non := by simp [List.getD_eq_getElem?_getD, List.getElem?_eq_none (Nat.le_of_not_lt h)]
      have e2 : us.getD i .none = .none := by simp [List.getD_eq_getElem?_getD, List.getElem?_eq_none (Nat.le_of_not_lt h')]
      show RelV (vs.getD i .non) (us.getD i .none)
      rw [e1, e2]
      rfl
variable {n : Nat} {perm : List Nat}
variable {r : RDs} {tl tk' : TLs}
def eCall (r : RDs) (tl : TLs) : TD := fun ρ S Q => tl ρ S fun xs S1 => r xs S1 Q
theorem de_call (F : FnG X.prog X.w X.K X.mg X.base CX0 k f fd ps (lsp X.K G.T r)) (hr : Room k X.A) (hgd : X.A.guards = some []) (hg : Gl X x) (hm : X.mg x = some (.ref f)) (hk : PySem.W.keepIn X.K (.ref f) = true) (hb : Binds X.K fd ps [])
    (ha : PA X (e :: es) (tA X.K G tl)) (hdb : (x == ("__debug__" : Str)) = false := by decide) (he : starEach (e :: es) X.env = (false, eval e X.env) :: starEach es X.env := by rfl) (hpl : (backTo pos (starEach es X.env)).any (·.1) = false := by rfl) :
    PE X (.Call (.Name x p) (e :: es) [] pos) (tE X.K G (eCall r tl)) :=
  (pe_callG F hr hgd hg hm hk hb .nil pass0 ha hdb he hpl).imp fun σ H Q ⟨Y, β, S, ρ, Q', rl, q, kk⟩ => ⟨Y, β, S, ρ, _, rl, q, fun xs S1 vs β1 H1 s1 r1 q1 => by
    show lsp X.K G.T r (vs ++ []) H1 Q E0
    rw [List.append_nil]
    exact ⟨Y, β1, S1, xs, Q', s1.ok.free, r1, q1, fun z S3 w β3 H3 s3 r3 q3 => kk z S3 w β3 H3 (s1.trans (s3.back s1.ok)) r3 q3⟩⟩
def eCallKw (r : RDs) (n m : Nat) (perm : List Nat) (tl tk' : TLs) : TD := fun ρ S Q => tl ρ S fun xs S1 => tk' ρ S1 fun ys S2 => xs.length = n ∧ ys.length = m ∧ r (pick perm (xs ++ ys) .non) S2 Q
theorem Reps.pick {K : PySem.W.Frag} {B : Hp} {β : List Addr} {vs : List V} {us : List D} (r : Reps K B β vs us) (perm : List Nat) : Reps K B β (pick perm vs .non) (pick perm us .non) := by
  unfold NC.pick
  induction perm with
  | nil => exact .nil
  | cons i l ih =>
    refine .cons ?_ ih
    by_cases h : i < us.length
    · have h' : i < vs.length := by rw [r.len]; exact h
      obtain ⟨u, e, q⟩ := r.get (List.getElem?_eq_getElem h)
      rw [List.getElem?_eq_getElem h'] at e
      cases e
      simpa [List.getD_eq_getElem?_getD, h, h'] using q
    · have h' : ¬ i < vs.length := by rw [r.len]; exact h
      have e1 : vs.getD i .non = .non := by simp [List.getD_eq_getElem?_getD, List.getElem?_eq_none (Nat.le_of_not_lt h')]
      have e2 : us.getD i .non = .non := by simp [List.getD_eq_getElem?_getD, List.getElem?_eq_none (Nat.le_of_not_lt h)]
      show Rep K B β (vs.getD i .non) (us.getD i .non)
      rw [e1, e2]
      exact .non
theorem dk_nil : PK X [] (tA X.K G aNil) := pk_nil.imp' fun σ H Q ⟨Y, β, S, ρ, Q', rl, q, k⟩ => k [] S [] β H (.refl rl.ok) .nil q
end
end NC
set_option Elab.async false
set_option linter.all false
set_option maxRecDepth 100000
set_option maxHeartbeats 1000000
namespace NC
open PySem PySem.Spec PyProof.Rows L2
open Evl (Ex)
theorem ok_lst {K : PySem.W.Frag} {Y β : List Addr} {S : Store} {H : Hp} (o : Ok K G Y β S H) {v : V} {d : D} {xs : List D} (r : Rep K (hid Y β S H) β v d) (h : drf S d = .lst xs) :
    ∃ a vs, v = .ref a ∧ H a = some (.lst vs) ∧ Reps K (hid Y β S H) β vs xs := by
  cases d with
  | ref n =>
    have hs := drf_back h
    obtain ⟨a, e1, vs, h1, h2⟩ := o.obj n _ hs
    cases r with
    | ref e2 =>
      rw [e1] at e2
      cases e2
      exact ⟨a, vs, rfl, h1, h2⟩
  | lst ys =>
    have e : ys = xs := by
      have h' : D.lst ys = D.lst xs := h
      cases h'
      rfl
    subst e
    cases r with
    | lst h1 h2 => exact ⟨_, _, rfl, hid_ex _ _ h1, h2⟩
  | _ => simp [NC.drf] at h
theorem ok_tup {K : PySem.W.Frag} {Y β : List Addr} {S : Store} {H : Hp} (o : Ok K G Y β S H) {v : V} {d : D} {xs : List D} (r : Rep K (hid Y β S H) β v d) (h : drf S d = .tup xs) :
    ∃ a vs, v = .ref a ∧ hid Y β S H a = some (.tup vs) ∧ Reps K (hid Y β S H) β vs xs := by
  cases d with
  | ref n =>
    simp only [NC.drf] at h
    split at h <;> cases h
  | tup ys =>
    have e : ys = xs := by
      have h' : D.tup ys = D.tup xs := h
      cases h'
      rfl
    subst e
    cases r with
    | tup h1 h2 => exact ⟨_, _, rfl, h1, h2⟩
  | _ => simp [NC.drf] at h
theorem ok_seq {K : PySem.W.Frag} {Y β : List Addr} {S : Store} {H : Hp} (o : Ok K G Y β S H) {v : V} {d : D} {xs : List D} (r : Rep K (hid Y β S H) β v d) (h : seqOf (drf S d) = some xs) :
    ∃ a vs, v = .ref a ∧ (SqL K H a vs ∨ SqT K H a vs) ∧ Reps K (hid Y β S H) β vs xs := by
  cases hd : drf S d with
  | lst ys =>
    rw [hd] at h
    cases h
    obtain ⟨a, vs, e, h1, h2⟩ := ok_lst o r hd
    exact ⟨a, vs, e, .inl (.inl (.inl h1)), h2⟩
  | tup ys =>
    rw [hd] at h
    cases h
    obtain ⟨a, vs, e, h1, h2⟩ := ok_tup o r hd
    exact ⟨a, vs, e, .inr (.inl (.inl (hid_ex _ _ h1))), h2⟩
  | ro ys =>
    rw [hd] at h
    cases h
    cases d with
    | ref n =>
      simp only [NC.drf] at hd
      split at hd <;> cases hd
    | ro zs =>
      have h' : zs = xs := by
        have h'' : D.ro zs = D.ro xs := hd
        cases h''
        rfl
      subst h'
      cases r with
      | ro h1 h2 => exact ⟨_, _, rfl, .inl (Evl.ex_l hid_ex h1), h2⟩
    | _ => simp [NC.drf] at hd
  | kt ys =>
    rw [hd] at h
    cases h
    cases d with
    | ref n =>
      simp only [NC.drf] at hd
      split at hd <;> cases hd
    | kt zs =>
      have h' : zs = xs := by
        have h'' : D.kt zs = D.kt xs := hd
        cases h''
        rfl
      subst h'
      cases r with
      | kt h1 h2 => exact ⟨_, _, rfl, .inr (.inr h1), h2⟩
    | _ => simp [NC.drf] at hd
  | _ => rw [hd] at h; cases h
def keyP : Key → PyData
  | .inl i => .int i
  | .inr x => .str x
mutual
def pd : D → PyData
  | .non => .none
  | .bl b => .bool b
  | .int i => .int i
  | .str x => .str x
  | .lst xs => .list (pds xs)
  | .tup xs => .tuple (pds xs)
  | .ro xs => .list (pds xs)
  | .kt xs => .tuple (pds xs)
  | .dic kvs => .dict (pdk kvs)
  | .dit kvs => .dict (pdt kvs)
  | .obj _ _ => .none
  | .fnc _ => .none
  | .ref _ => .none
def pds : List D → List PyData
  | [] => []
  | d :: ds => pd d :: pds ds
def pdk : List (Key × D) → List (PyData × PyData)
  | [] => []
  | (k, d) :: ds => (keyP k, pd d) :: pdk ds
def pdt : List (List Key × D) → List (PyData × PyData)
  | [] => []
  | (k, d) :: ds => (.tuple (k.map keyP), pd d) :: pdt ds
end
theorem pds_map : ∀ ds : List D, pds ds = ds.map pd
  | [] => rfl
  | d :: ds => by unfold pds; rw [pds_map ds]; rfl
/- plain data: nothing, truths, ints, texts, lists and tuples of them, at most n deep -/
mutual
def fl : Nat → D → Bool
  | _, .non => true
  | _, .bl _ => true
  | _, .int _ => true
  | _, .str x => PyData.strOk x
  | n + 1, .lst xs => fls n xs
  | n + 1, .tup xs => fls n xs
  | _, _ => false
def fls : Nat → List D → Bool
  | _, [] => true
  | n, d :: ds => fl n d && fls n ds
end
theorem fls_all : ∀ {n : Nat} {ds : List D}, fls n ds = true ↔ ∀ d ∈ ds, fl n d = true
  | n, [] => by simp [fls]
  | n, d :: ds => by simp [fls, fls_all (n := n) (ds := ds)]
section
variable {K : PySem.W.Frag} {H : Hp} {β : List Addr}
mutual
theorem fl_dp : ∀ {n : Nat} {d : D} {v : V}, fl n d = true → Rep K H β v d → Dp K H v (pd d) ∧ (pd d).canLay0 = true ∧ (pd d).depth ≤ n
  | n, .non, _, h, r => by cases r; exact ⟨.non, rfl, Nat.zero_le _⟩
  | n, .bl b, _, h, r => by cases r; exact ⟨.bl b, rfl, Nat.zero_le _⟩
  | n, .int i, _, h, r => by cases r; exact ⟨.int i, rfl, Nat.zero_le _⟩
  | n, .str x, _, h, r => by cases r; exact ⟨.str x, by simpa [fl, pd, PyData.canLay0] using h, Nat.zero_le _⟩
  | 0, .lst xs, _, h, r => by simp [fl] at h
  | 0, .tup xs, _, h, r => by simp [fl] at h
  | n + 1, .lst xs, _, h, r => by
    cases r with
    | lst h1 h2 =>
      obtain ⟨a, b, c⟩ := fls_dp (n := n) (by simpa [fl] using h) h2
      exact ⟨.lst (.inl (.inl h1)) a, by simpa [pd, PyData.canLay0] using b, by simp only [pd, PyData.depth]; omega⟩
  | n + 1, .tup xs, _, h, r => by
    cases r with
    | tup h1 h2 =>
      obtain ⟨a, b, c⟩ := fls_dp (n := n) (by simpa [fl] using h) h2
      exact ⟨.tup (.inl (.inl h1)) a, by simpa [pd, PyData.canLay0] using b, by simp only [pd, PyData.depth]; omega⟩
  | n, .ro xs, _, h, r => by cases n <;> simp [fl] at h
  | n, .kt xs, _, h, r => by cases n <;> simp [fl] at h
  | n, .dic xs, _, h, r => by cases n <;> simp [fl] at h
  | n, .dit xs, _, h, r => by cases n <;> simp [fl] at h
  | n, .ref m, _, h, r => by cases n <;> simp [fl] at h
theorem fls_dp : ∀ {n : Nat} {ds : List D} {vs : List V}, fls n ds = true → Reps K H β vs ds → DpAll K H vs (pds ds) ∧ PyData.canLayAll0 (pds ds) = true ∧ PyData.depthAll (pds ds) ≤ n
  | n, [], _, h, r => by cases r; exact ⟨.nil, rfl, Nat.zero_le _⟩
  | n, d :: ds, _, h, r => by
    cases r with
    | cons r1 r2 =>
      have h' : fl n d = true ∧ fls n ds = true := by simpa [fls] using h
      obtain ⟨a, b, c⟩ := fl_dp h'.1 r1
      obtain ⟨a', b', c'⟩ := fls_dp h'.2 r2
      exact ⟨.cons a a', by simp [pds, PyData.canLayAll0, b, b'], by simp only [pds, PyData.depthAll]; omega⟩
end
end
theorem shaped_fl {K : PySem.W.Frag} {H : Hp} {β : List Addr} {d : D} {v : V} (h : fl 60 d = true) (r : Rep K H β v d) : SeqAt.shaped (pd d) = true := by
  obtain ⟨_, b, c⟩ := fl_dp h r
  unfold SeqAt.shaped
  rw [b]
  simp
  omega
def eqd (x y : D) : Bool := PyData.eqv (pd x) (pd y)
def eqds (xs ys : List D) : Bool := PyData.eqvAll (pds xs) (pds ys)
inductive EqR : D → D → Bool → Prop
  | data {x y : D} : fl 60 x = true → fl 60 y = true → EqR x y (eqd x y)
  | len {xs ys : List D} : xs.length ≠ ys.length → EqR (.lst xs) (.lst ys) false
def rEqD2 : RD2 := fun x y S Q => ∃ b, EqR (drf S x) (drf S y) b ∧ Q (.bl b) S
def rNeD2 : RD2 := fun x y S Q => ∃ b, EqR (drf S x) (drf S y) b ∧ Q (.bl (!b)) S
section
variable {X : Cx}
theorem lists_of {pins : List (Addr × Obj)} {σ : L2.St} {H : Hp} {s : Shared} {a : Addr} {xs : List V} (I : L2.Inv X pins σ H s) (h : H a = some (.lst xs)) : ∃ its : Array Value, s.heap.IsList a its ∧ its.size = xs.length := by
  obtain ⟨its, r, pl, _⟩ := I.list (.inl (.inl h))
  exact ⟨_, pl.isList, by simpa using r.length.symm⟩
theorem op_eq' (hu : X.A.units + 64 < cLine) : OpR X (compareOp .Eq) (l2 X.K G rEqD2) := by
  intro pins s σ H x y v u Q I rx ry ⟨Y, β, S, dx, dy, Q', o, r1, r2, ⟨b, h, q⟩, k⟩
  have e1 := o.drf r1
  have e2 := o.drf r2
  have fin := k _ S _ β H (.refl o) (.bl b) q
  generalize drf S dx = x' at h e1
  generalize drf S dy = y' at h e2
  cases h with
  | data f1 f2 => exact op_eqD hu pins s σ H x y v u Q I rx ry ⟨_, _, (fl_dp f1 e1).1, (fl_dp f2 e2).1, shaped_fl f1 e1, shaped_fl f2 e2, fin⟩
  | len hl =>
    cases e1 with
    | lst h1 h1' =>
      cases e2 with
      | lst h2 h2' =>
        cases rx
        cases ry
        obtain ⟨i1, l1, n1⟩ := lists_of I h1
        obtain ⟨i2, l2, n2⟩ := lists_of I h2
        exact SeqAt.eq_list_lengthsAt l1 l2 (by rw [n1, n2, h1'.len, h2'.len]; simpa using hl) (by omega) ⟨.bl false, H, I, rfl, fin⟩
theorem op_ne' (hu : X.A.units + 64 < cLine) : OpR X (compareOp .NotEq) (l2 X.K G rNeD2) := by
  intro pins s σ H x y v u Q I rx ry ⟨Y, β, S, dx, dy, Q', o, r1, r2, ⟨b, h, q⟩, k⟩
  have e1 := o.drf r1
  have e2 := o.drf r2
  have fin := k _ S _ β H (.refl o) (.bl (!b)) q
  generalize drf S dx = x' at h e1
  generalize drf S dy = y' at h e2
  cases h with
  | data f1 f2 => exact op_neD hu pins s σ H x y v u Q I rx ry ⟨_, _, (fl_dp f1 e1).1, (fl_dp f2 e2).1, shaped_fl f1 e1, shaped_fl f2 e2, fin⟩
  | len hl =>
    cases e1 with
    | lst h1 h1' =>
      cases e2 with
      | lst h2 h2' =>
        cases rx
        cases ry
        obtain ⟨i1, l1, n1⟩ := lists_of I h1
        obtain ⟨i2, l2, n2⟩ := lists_of I h2
        refine SeqAt.RcNeAt.lists_lengths l1 l2 (by rw [n1, n2, h1'.len, h2'.len]; simpa using hl) (by omega) _ _ _ _ ⟨.bl true, H, I, rfl, fin⟩
def itemsD : D → Option (List D)
  | .lst xs => some xs
  | .tup xs => some xs
  | _ => none
def rInD2 : RD2 := fun x y S Q => ∃ ys, itemsD (drf S y) = some ys ∧ fl 60 (drf S x) = true ∧ fls 59 ys = true ∧ Q (.bl (ys.any fun z => eqd z (drf S x))) S
def rNiD2 : RD2 := fun x y S Q => ∃ ys, itemsD (drf S y) = some ys ∧ fl 60 (drf S x) = true ∧ fls 59 ys = true ∧ Q (.bl (!ys.any fun z => eqd z (drf S x))) S
theorem any_pds {p : PyData → Bool} : ∀ ds : List D, (pds ds).any p = ds.any fun z => p (pd z)
  | [] => rfl
  | d :: ds => by simp [pds, any_pds ds]
theorem in_at {pins : List (Addr × Obj)} {σ : L2.St} {H : Hp} {s : Shared} {β : List Addr} {x y : V} {v u : Value} {dx dy : D} {ys : List D} (hu : X.A.units + 65 < cLine) (I : L2.Inv X pins σ H s) (rx : RelV x v) (ry : RelV y u) (e1 : Rep X.K H β x dx) (e2 : Rep X.K H β y dy)
    (hi : itemsD dy = some ys) (f1 : fl 60 dx = true) (f2 : fls 59 ys = true) :
    (∀ {E : Value → Shared → Prop} {Q : Value → Shared → Prop}, Q (.bool (ys.any fun z => eqd z dx)) s → wpAny (model X.prog X.w) X.A (compareOp .In v u) Q E s) ∧
    (∀ {E : Value → Shared → Prop} {Q : Value → Shared → Prop}, Q (.bool (!ys.any fun z => eqd z dx)) s → wpAny (model X.prog X.w) X.A (compareOp .NotIn v u) Q E s) := by
  obtain ⟨d1, c1, p1⟩ := fl_dp f1 e1
  obtain ⟨as, ra⟩ := Dp.reads I _ _ _ d1 rx
  have room : ∀ xs : List PyData, X.A.units + 1 + min (PyData.depthAll xs) (pd dx).depth < cLine := fun xs => by omega
  have hany : ∀ xs : List D, ((pds xs).any fun z => PyData.eqv z (pd dx)) = xs.any fun z => eqd z dx := fun xs => any_pds xs
  cases dy with
  | lst zs =>
    cases hi
    have f3 : fl 60 (.lst ys) = true := by simpa [fl] using f2
    obtain ⟨d2, c2, p2⟩ := fl_dp f3 e2
    obtain ⟨bs, rb⟩ := Dp.reads I _ _ _ d2 ry
    have c2' : PyData.canLayAll0 (pds ys) = true := by simpa [pd, PyData.canLay0] using c2
    exact ⟨fun q => SeqAt.in_list_reads rb ra c2' c1 (room _) (by rw [hany]; exact q), fun q => SeqAt.notIn_list_reads rb ra c2' c1 (room _) (by rw [hany]; exact q)⟩
  | tup zs =>
    cases hi
    have f3 : fl 60 (.tup ys) = true := by simpa [fl] using f2
    obtain ⟨d2, c2, p2⟩ := fl_dp f3 e2
    obtain ⟨bs, rb⟩ := Dp.reads I _ _ _ d2 ry
    have c2' : PyData.canLayAll0 (pds ys) = true := by simpa [pd, PyData.canLay0] using c2
    exact ⟨fun q => SeqAt.in_tuple_reads rb ra c2' c1 (room _) (by rw [hany]; exact q), fun q => SeqAt.notIn_tuple_reads rb ra c2' c1 (room _) (by rw [hany]; exact q)⟩
  | _ => cases hi
theorem op_in' (hu : X.A.units + 65 < cLine) : OpR X (compareOp .In) (l2 X.K G rInD2) := by
  intro pins s σ H x y v u Q I rx ry ⟨Y, β, S, dx, dy, Q', o, r1, r2, ⟨ys, hi, f1, f2, q⟩, k⟩
  exact (in_at hu I rx ry (o.drf r1) (o.drf r2) hi f1 f2).1 ⟨.bl _, H, I, rfl, k _ S _ β H (.refl o) (.bl _) q⟩
theorem op_ni' (hu : X.A.units + 65 < cLine) : OpR X (compareOp .NotIn) (l2 X.K G rNiD2) := by
  intro pins s σ H x y v u Q I rx ry ⟨Y, β, S, dx, dy, Q', o, r1, r2, ⟨ys, hi, f1, f2, q⟩, k⟩
  exact (in_at hu I rx ry (o.drf r1) (o.drf r2) hi f1 f2).2 ⟨.bl _, H, I, rfl, k _ S _ β H (.refl o) (.bl _) q⟩
def r2I (P : Int → Int → Prop) (g : Int → Int → D) : RD2 := fun x y S Q => ∃ i j, x = .int i ∧ y = .int j ∧ P i j ∧ Q (g i j) S
theorem op_int2 {f : Value → Value → Sem Value} {P : Int → Int → Prop} {gV : Int → Int → V} {g : Int → Int → D} (h : OpR X f (rI P gV)) (hr : ∀ i j B β, Rep X.K B β (gV i j) (g i j)) : OpR X f (l2 X.K G (r2I P g)) := by
  intro pins s σ H x y v u Q I rx ry ⟨Y, β, S, dx, dy, Q', o, r1, r2, ⟨i, j, ex, ey, p, q⟩, k⟩
  subst ex
  subst ey
  cases r1
  cases r2
  exact h pins s σ H _ _ v u Q I rx ry ⟨i, j, rfl, rfl, p, k _ S _ β H (.refl o) (hr i j _ _) q⟩
theorem op_int0 {f : Value → Value → Sem Value} {gV : Int → Int → V} {g : Int → Int → D} (h : OpR X f (rI0 gV)) (hr : ∀ i j B β, Rep X.K B β (gV i j) (g i j)) : OpR X f (l2 X.K G (r2I (fun _ _ => True) g)) := by
  intro pins s σ H x y v u Q I rx ry ⟨Y, β, S, dx, dy, Q', o, r1, r2, ⟨i, j, ex, ey, p, q⟩, k⟩
  subst ex
  subst ey
  cases r1
  cases r2
  exact h pins s σ H _ _ v u Q I rx ry ⟨i, j, rfl, rfl, k _ S _ β H (.refl o) (hr i j _ _) q⟩
abbrev T2 : Int → Int → Prop := fun _ _ => True
abbrev rSub : RD2 := r2I T2 fun i j => .int (i - j)
abbrev rLt : RD2 := r2I T2 fun i j => .bl (decide (i < j))
abbrev rLe : RD2 := r2I T2 fun i j => .bl (decide (i ≤ j))
abbrev rGt : RD2 := r2I T2 fun i j => .bl (decide (j < i))
abbrev rGe : RD2 := r2I T2 fun i j => .bl (decide (j ≤ i))
abbrev rDiv : RD2 := r2I CDivW fun i j => .int (i / j)
abbrev rMod : RD2 := r2I (fun _ j => 0 < j) fun i j => .int (i % j)
abbrev rPow : RD2 := r2I CPow fun i j => .int (i ^ j.toNat)
theorem o_sub : OpR X (binaryOp .Sub) (l2 X.K G rSub) := op_int0 op_sub fun _ _ _ _ => .int _
theorem o_lt : OpR X (compareOp .Lt) (l2 X.K G rLt) := op_int0 op_lt fun _ _ _ _ => .bl _
theorem o_le : OpR X (compareOp .LtE) (l2 X.K G rLe) := op_int0 op_le fun _ _ _ _ => .bl _
theorem o_gt : OpR X (compareOp .Gt) (l2 X.K G rGt) := op_int0 op_gt fun _ _ _ _ => .bl _
theorem o_ge : OpR X (compareOp .GtE) (l2 X.K G rGe) := op_int0 op_ge fun _ _ _ _ => .bl _
theorem o_div : OpR X (binaryOp .FloorDiv) (l2 X.K G rDiv) := op_int2 op_fdivW fun _ _ _ _ => .int _
theorem o_mod : OpR X (binaryOp .Mod) (l2 X.K G rMod) := op_int2 op_mod fun _ _ _ _ => .int _
theorem o_pow : OpR X (binaryOp .Pow) (l2 X.K G rPow) := op_int2 op_pow fun _ _ _ _ => .int _
def CMul3 (i j : Int) : Prop := CMul i j ∨ CMulW i j
abbrev rMulI : RD2 := r2I CMul3 fun i j => .int (i * j)
theorem o_mul : OpR X (binaryOp .Mult) (l2 X.K G rMulI) := op_int2 (opI fun _ _ _ _ _ _ _ hc q => mul_int q (hc.elim CMul.ok CMulW.ok)) fun _ _ _ _ => .int _
theorem o_neg : UnR X (unaryOp .USub) (l1 X.K G fun x S Q => ∃ i, x = .int i ∧ Q (.int (-i)) S) := by
  intro pins s σ H x v Q I rx ⟨Y, β, S, dx, Q', o, r1, ⟨i, ex, q⟩, k⟩
  subst ex
  cases r1
  exact un_neg pins s σ H _ v Q I rx ⟨i, rfl, k _ S _ β H (.refl o) (.int _) q⟩
def rAdd : RD2 := fun x y S Q => match drf S x, drf S y with
  | .int i, .int j => Q (.int (i + j)) S
  | .str a, .str b => a.length + b.length ≤ sizeLine ∧ Q (.str (a ++ b)) S
  | .lst a, .lst b => a.length + b.length ≤ sizeLine ∧ Q (.lst (a ++ b)) S
  | _, _ => False
theorem o_add : OpR X (binaryOp .Add) (l2 X.K G rAdd) := by
  intro pins s σ H x y v u Q I rx ry ⟨Y, β, S, dx, dy, Q', o, r1, r2, h, k⟩
  have e1 := o.drf r1
  have e2 := o.drf r2
  unfold rAdd at h
  generalize hx : drf S dx = x' at h e1
  generalize hy : drf S dy = y' at h e2
  cases x' <;> cases y' <;> try exact h.elim
  · cases e1
    cases e2
    exact op_add pins s σ H _ _ v u Q I rx ry ⟨_, _, rfl, rfl, k _ S _ β H (.refl o) (.int _) h⟩
  · cases e1
    cases e2
    exact op_add_str pins s σ H _ _ v u Q I rx ry ⟨_, _, rfl, rfl, h.1, k _ S _ β H (.refl o) (.str _) h.2⟩
  · rename_i xs ys
    obtain ⟨a, us, rfl, h1, q1⟩ := ok_lst o r1 hx
    obtain ⟨b, ws, rfl, h2, q2⟩ := ok_lst o r2 hy
    exact op_cat pins s σ H _ _ v u Q I rx ry ⟨a, b, us, ws, rfl, rfl, h1, h2, by rw [q1.len, q2.len]; exact h.1, fun p hp => k _ S _ β _ (o.new _ hp) (o.newLst hp (q1.append q2)) h.2⟩
end
end NC
set_option Elab.async false
set_option linter.all false
set_option maxRecDepth 100000
set_option maxHeartbeats 1000000
namespace NC
open PySem PySem.Spec PyProof.Rows L2
open Evl (Ex)
theorem Reps.atI {K : PySem.W.Frag} {B : Hp} {β : List Addr} {vs : List V} {xs : List D} {i : Int} {d : D} (r : Reps K B β vs xs) (h : atI xs i = some d) : ∃ v, L2.atI vs i = some v ∧ Rep K B β v d := by
  unfold L2.atI at h ⊢
  rw [r.len]
  obtain ⟨j, e1, e2⟩ := Option.bind_eq_some_iff.mp h
  obtain ⟨v, e3, q⟩ := r.get e2
  exact ⟨v, by rw [e1]; exact e3, q⟩
section
variable {X : Cx}
def rIx2 : RD2 := fun x y S Q => ∃ xs i d, seqOf (drf S x) = some xs ∧ y = .int i ∧ atI xs i = some d ∧ Q d S
theorem o_ix : IxR X (l2 X.K G rIx2) := by
  intro value slice pins s σ H x y v u Q I rx ry ⟨Y, β, S, dx, dy, Q', o, r1, r2, ⟨xs, i, d, hx, ey, hd, q⟩, k⟩ hs
  subst ey
  cases r2
  obtain ⟨a, vs, rfl, hk, rs⟩ := ok_seq o r1 hx
  obtain ⟨w, e, rw'⟩ := rs.atI hd
  have fin := k d S w β H (.refl o) rw' q
  rcases hk with hk | hk
  · exact ix_list value slice pins s σ H _ _ v u Q I rx ry ⟨a, vs, i, w, rfl, rfl, hk, e, fin⟩ hs
  · exact ix_tup value slice pins s σ H _ _ v u Q I rx ry ⟨a, vs, i, w, rfl, rfl, hk, e, fin⟩ hs
abbrev TOd := Rho → Store → (Option Int → Store → Prop) → Prop
def tOd (K : PySem.W.Frag) (G : Gh) (t : TOd) : TO := fun σ H Q => ∃ Y β S ρ Q', Rel K G Y β S ρ σ H ∧ t ρ S Q' ∧ ∀ d S' β' H', Step K G Y β S H β' S' H' → Q' d S' → Q d H'
def oNone : TOd := fun _ S Q => Q none S
def oSome (t : TD) : TOd := fun ρ S Q => t ρ S fun x S1 => ∃ i, x = .int i ∧ Q (some i) S1
theorem do_none : PO X none (tOd X.K G oNone) := ⟨fun pins s σ H Q I ⟨Y, β, S, ρ, Q', rl, q, k⟩ => po_none.run pins s σ H Q I (k none S β H (.refl rl.ok) q)⟩
theorem do_some {e : Expr} {ta : TD} (h : PE X e (tE X.K G ta)) : PO X (some e) (tOd X.K G (oSome ta)) := ⟨fun pins s σ H Q I ⟨Y, β, S, ρ, Q', rl, q, k⟩ => (po_some h).run pins s σ H Q I
  ⟨Y, β, S, ρ, _, rl, q, fun x S1 v β1 H1 s1 r1 ⟨i, ex, q1⟩ => by
    subst ex
    cases r1
    exact ⟨i, rfl, k _ S1 β1 H1 s1 q1⟩⟩⟩
def cutD (xs : List D) (lo hi : Option Int) : List D := (xs.drop (HT.sIx xs.length 0 lo)).take (HT.sIx xs.length xs.length hi - HT.sIx xs.length 0 lo)
theorem Reps.cut {K : PySem.W.Frag} {B : Hp} {β : List Addr} {vs : List V} {xs : List D} {lo hi : Option Int} (r : Reps K B β vs xs) : Reps K B β (cutV vs lo hi) (cutD xs lo hi) := by
  unfold cutV cutD
  rw [r.len]
  exact (r.drop _).take _
abbrev RDsl := D → Option Int → Option Int → Store → QD → Prop
def lsl (K : PySem.W.Frag) (G : Gh) (r : RDsl) : V → Option Int → Option Int → Hp → VK → Prop := fun v lo hi H Q => ∃ Y β S x Q', Ok K G Y β S H ∧ Rep K (hid Y β S H) β v x ∧ r x lo hi S Q' ∧ out K G Y β S H Q' Q
def rCut : RDsl := fun x lo hi S Q => match drf S x with
  | .lst xs => Q (.lst (cutD xs lo hi)) S
  | .ro xs => Q (.lst (cutD xs lo hi)) S
  | .tup xs => Q (.tup (cutD xs lo hi)) S
  | _ => False
theorem cut_whole {xs : List D} {lo hi : Option Int} (h : HT.sIx xs.length 0 lo = 0 ∧ HT.sIx xs.length xs.length hi = xs.length) : cutD xs lo hi = xs := by
  unfold cutD
  rw [h.1, h.2, List.drop_zero, Nat.sub_zero, List.take_length]
theorem o_cut : SlR X (lsl X.K G rCut) := by
  intro pins s σ H x v vl vu lo hi sl Q I rx hs pl pu ⟨Y, β, S, dx, Q', o, r1, h, k⟩
  unfold rCut at h
  cases hx : drf S dx with
  | lst xs =>
    rw [hx] at h
    obtain ⟨a, vs, rfl, h1, rs⟩ := ok_lst o r1 hx
    exact sl_list pins s σ H _ v vl vu lo hi sl Q I rx hs pl pu ⟨a, vs, rfl, .inl (.inl h1), fun p hp => k _ S _ β _ (o.new _ hp) (o.newLst hp rs.cut) h⟩
  | ro xs =>
    rw [hx] at h
    obtain ⟨a, vs, rfl, h1, rs⟩ := ok_seq o r1 (by rw [hx]; rfl)
    have h1' : SqL X.K H a vs := by
      rcases h1 with h1 | h1
      · exact h1
      · cases dx with
        | ref n =>
          simp only [NC.drf] at hx
          split at hx <;> cases hx
        | ro zs =>
          cases r1 with
          | ro q1 q2 =>
            obtain ⟨i1, v1, p1, _⟩ := I.list (Evl.ex_l hid_ex q1)
            obtain ⟨i2, v2, p2, _⟩ := I.tuple h1
            obtain ⟨o1, _, e1, c1, _, _⟩ := p1
            obtain ⟨o2, e2, c2, _⟩ := p2
            rw [e1] at e2
            cases e2
            exact absurd (c1.symm.trans c2) (by simp)
        | _ => simp [NC.drf] at hx
    exact sl_list pins s σ H _ v vl vu lo hi sl Q I rx hs pl pu ⟨a, vs, rfl, h1', fun p hp => k _ S _ β _ (o.new _ hp) (o.newLst hp rs.cut) h⟩
  | tup xs =>
    rw [hx] at h
    obtain ⟨a, vs, rfl, h1, rs⟩ := ok_tup o r1 hx
    refine sl_tupA pins s σ H _ v vl vu lo hi sl Q I rx hs pl pu ⟨a, vs, rfl, .inl (.inl (hid_ex _ _ h1)), fun hw => ?_, fun hw p hp => k _ S _ β _ (o.new _ hp) (o.newTup hp rs.cut) h⟩
    rw [rs.len] at hw
    have h : Q' (.tup (cutD xs lo hi)) S := h
    rw [cut_whole hw] at h
    exact k _ S _ β H (.refl o) (.tup h1 rs) h
  | _ => rw [hx] at h; exact h.elim
def eCut (ta : TD) (lo hi : TOd) : TD := fun ρ S Q => ta ρ S fun x S1 => lo ρ S1 fun l S2 => hi ρ S2 fun u S3 => rCut x l u S3 Q
theorem de_cut {e : Expr} {lo hi : Option Expr} {p2 pos : Pos} {ta : TD} {tl th : TOd} (he : PE X e (tE X.K G ta)) (hl : PO X lo (tOd X.K G tl)) (hu : PO X hi (tOd X.K G th)) : PE X (.Subscript e (.Slice lo hi none p2) pos) (tE X.K G (eCut ta tl th)) :=
  (pe_slice o_cut he hl hu).imp fun σ H Q ⟨Y, β, S, ρ, Q', rl, q, k⟩ => ⟨Y, β, S, ρ, _, rl, q, fun x S1 v β1 H1 s1 r1 q1 => ⟨Y, β1, S1, ρ, _, rl.step s1, q1, fun l S2 β2 H2 s2 q2 => ⟨Y, β2, S2, ρ, _, (rl.step s1).step s2, q2, fun u S3 β3 H3 s3 q3 =>
    ⟨Y, β3, S3, x, Q', s3.ok, s3.rep (s2.rep r1), q3, fun d S4 w β4 H4 s4 r4 q4 => k d S4 w β4 H4 (((s1.trans s2).trans s3).trans s4) r4 q4⟩⟩⟩⟩
def rLen : RDs := fun xs S Q => match xs with
  | [x] => match drf S x with
    | .str z => z.length ≤ sizeLine ∧ Q (.int z.length) S
    | d => ∃ ys, seqOf d = some ys ∧ Q (.int ys.length) S
  | _ => False
theorem c_len : CallR X (.builtin "len") (ls X.K G rLen) := by
  intro pins s σ H xs us Q I rv ⟨Y, β, S, ds, Q', o, rs, h, k⟩
  cases ds with
  | nil => exact h.elim
  | cons d ds =>
    cases ds with
    | cons _ _ => exact h.elim
    | nil =>
      obtain ⟨v, rfl, r⟩ := rs.one
      have seq : ∀ ys, seqOf (drf S d) = some ys → Q' (.int ys.length) S → wpAny (model X.prog X.w) X.A (call (.builtin "len") us) (EP X pins σ Q) X.xe s := fun ys hy q => by
        obtain ⟨a, ws, rfl, hk, rr⟩ := ok_seq o r hy
        exact call_len_seq pins s σ H _ us Q I rv ⟨a, ws, rfl, hk, by rw [rr.len]; exact k _ S _ β H (.refl o) (.int _) q⟩
      unfold rLen at h
      cases hd : drf S d with
      | str z =>
        simp only [hd] at h
        have e1 := o.drf r
        rw [hd] at e1
        cases e1
        exact call_len_str pins s σ H _ us Q I rv ⟨z, rfl, h.1, k _ S _ β H (.refl o) (.int _) h.2⟩
      | _ =>
        simp only [hd] at h
        obtain ⟨ys, hy, q⟩ := h
        exact seq ys (by rw [hd]; exact hy) q
def rInt1 : RDs := fun xs S Q => match xs with
  | [.int i] => Q (.int i) S
  | [.bl b] => Q (.int (if b then 1 else 0)) S
  | _ => False
theorem c_int : CallR X (.type "int") (ls X.K G rInt1) := by
  intro pins s σ H xs us Q I rv ⟨Y, β, S, ds, Q', o, rs, h, k⟩
  unfold rInt1 at h
  split at h
  · obtain ⟨v, rfl, r⟩ := rs.one
    cases r
    exact call_int1 pins s σ H _ us Q I rv (.inl ⟨_, rfl, k _ S _ β H (.refl o) (.int _) h⟩)
  · obtain ⟨v, rfl, r⟩ := rs.one
    cases r
    exact call_int1 pins s σ H _ us Q I rv (.inr ⟨_, rfl, k _ S _ β H (.refl o) (.int _) h⟩)
  · exact h.elim
def rAbs : RDs := fun xs S Q => match xs with
  | [.int i] => Q (.int (if i < 0 then -i else i)) S
  | _ => False
theorem c_abs : CallR X (.builtin "abs") (ls X.K G rAbs) := by
  intro pins s σ H xs us Q I rv ⟨Y, β, S, ds, Q', o, rs, h, k⟩
  unfold rAbs at h
  split at h
  · obtain ⟨v, rfl, r⟩ := rs.one
    cases r
    exact call_abs pins s σ H _ us Q I rv ⟨_, rfl, k _ S _ β H (.refl o) (.int _) h⟩
  · exact h.elim
def rTuple : RDs := fun xs S Q => match xs with
  | [x] => ∃ ys, itemsD (drf S x) = some ys ∧ Q (.tup ys) S
  | _ => False
theorem c_tuple : CallR X (.type "tuple") (ls X.K G rTuple) := by
  intro pins s σ H xs us Q I rv ⟨Y, β, S, ds, Q', o, rs, h, k⟩
  unfold rTuple at h
  split at h
  · rename_i d
    obtain ⟨v, rfl, r⟩ := rs.one
    obtain ⟨ys, hy, q⟩ := h
    cases hd : drf S d with
    | lst zs =>
      rw [hd] at hy
      cases hy
      obtain ⟨a, ws, rfl, h1, rr⟩ := ok_lst o r hd
      exact call_tuple_of pins s σ H _ us Q I rv ⟨a, ws, rfl, .inl ⟨.inl (.inl h1), fun p hp => k _ S _ β _ (o.new _ hp) (o.newTup hp rr) q⟩⟩
    | tup zs =>
      rw [hd] at hy
      cases hy
      obtain ⟨a, ws, rfl, h1, rr⟩ := ok_tup o r hd
      exact call_tuple_of pins s σ H _ us Q I rv ⟨a, ws, rfl, .inr ⟨.inl (.inl (hid_ex _ _ h1)), k _ S _ β H (.refl o) (.tup h1 rr) q⟩⟩
    | _ => rw [hd] at hy; cases hy
  · exact h.elim
def rList : RDs := fun xs S Q => match xs with
  | [x] => ∃ ys, seqOf (drf S x) = some ys ∧ Q (.lst ys) S
  | _ => False
def rListM : RDs := fun xs S Q => match xs with
  | [x] => ∃ ys, seqOf (drf S x) = some ys ∧ Q (.ref S.length) (S ++ [some (.lst ys)])
  | _ => False
theorem c_list : CallR X (.type "list") (ls X.K G rList) := by
  intro pins s σ H xs us Q I rv ⟨Y, β, S, ds, Q', o, rs, h, k⟩
  unfold rList at h
  split at h
  · obtain ⟨v, rfl, r⟩ := rs.one
    obtain ⟨ys, hy, q⟩ := h
    obtain ⟨a, ws, rfl, hk, rr⟩ := ok_seq o r hy
    exact call_list_of pins s σ H _ us Q I rv ⟨a, ws, rfl, hk, fun p hp => k _ S _ β _ (o.new _ hp) (o.newLst hp rr) q⟩
  · exact h.elim
theorem c_listM : CallR X (.type "list") (ls X.K G rListM) := by
  intro pins s σ H xs us Q I rv ⟨Y, β, S, ds, Q', o, rs, h, k⟩
  unfold rListM at h
  split at h
  · obtain ⟨v, rfl, r⟩ := rs.one
    obtain ⟨ys, hy, q⟩ := h
    obtain ⟨a, ws, rfl, hk, rr⟩ := ok_seq o r hy
    exact call_list_of pins s σ H _ us Q I rv ⟨a, ws, rfl, hk, fun p hp => k _ _ _ _ _ (o.alloc hp rr) (o.allocRep (H' := H)) q⟩
  · exact h.elim
theorem Reps.bls {K : PySem.W.Frag} {B : Hp} {β : List Addr} : ∀ {bs : List Bool} {vs : List V}, Reps K B β vs (bs.map D.bl) → vs = bs.map V.bl
  | [], _, h => by cases h; rfl
  | b :: bs, _, h => by
    cases h with
    | cons h1 h2 =>
      cases h1
      rw [Reps.bls h2]
      rfl
def rAll2 : RDs := fun xs S Q => match xs with
  | [x] => ∃ bs : List Bool, drf S x = .lst (bs.map D.bl) ∧ Q (.bl (bs.all id)) S
  | _ => False
def rAny2 : RDs := fun xs S Q => match xs with
  | [x] => ∃ bs : List Bool, drf S x = .lst (bs.map D.bl) ∧ Q (.bl (bs.any id)) S
  | _ => False
theorem c_all (hc : X.calm = true) : CallR X (.builtin "all") (ls X.K G rAll2) := by
  intro pins s σ H xs us Q I rv ⟨Y, β, S, ds, Q', o, rs, h, k⟩
  unfold rAll2 at h
  split at h
  · obtain ⟨v, rfl, r⟩ := rs.one
    obtain ⟨bs, hb, q⟩ := h
    obtain ⟨a, ws, rfl, h1, rr⟩ := ok_lst o r hb
    have e := rr.bls
    subst e
    exact cr_all hc pins s σ H _ us Q I rv ⟨a, bs, rfl, .inl (.inl h1), k _ S _ β H (.refl o) (.bl _) q⟩
  · exact h.elim
theorem c_any (hc : X.calm = true) : CallR X (.builtin "any") (ls X.K G rAny2) := by
  intro pins s σ H xs us Q I rv ⟨Y, β, S, ds, Q', o, rs, h, k⟩
  unfold rAny2 at h
  split at h
  · obtain ⟨v, rfl, r⟩ := rs.one
    obtain ⟨bs, hb, q⟩ := h
    obtain ⟨a, ws, rfl, h1, rr⟩ := ok_lst o r hb
    have e := rr.bls
    subst e
    exact cr_any hc pins s σ H _ us Q I rv ⟨a, bs, rfl, .inl (.inl h1), k _ S _ β H (.refl o) (.bl _) q⟩
  · exact h.elim
def tyD : D → Option String
  | .non => some "NoneType"
  | .bl _ => some "bool"
  | .int _ => some "int"
  | .str _ => some "str"
  | .lst _ => some "list"
  | .ro _ => some "list"
  | .tup _ => some "tuple"
  | .dic _ => some "dict"
  | .dit _ => some "dict"
  | .kt _ => none
  | .obj _ _ => none
  | .fnc _ => none
  | .ref _ => none
def isiD (d : D) (T : String) : Option Bool := match tyD d with
  | some t => kitB t T
  | none => match d with
    | .obj _ _ => if T ∈ tyNames then some false else none
    | _ => none
theorem isiD_ty {d : D} {t T : String} (h : tyD d = some t) : isiD d T = kitB t T := by
  unfold isiD
  rw [h]
theorem ty_ok {Y β : List Addr} {S : Store} {H : Hp} {K : PySem.W.Frag} {v : V} {d : D} {t : String} (o : Ok K G Y β S H) (r : Rep K (hid Y β S H) β v d) (h : tyD (drf S d) = some t) : TyX K H v (.type t) := by
  have r' := o.drf r
  generalize drf S d = e at h r'
  cases e with
  | non => cases h; cases r'; exact .base .non
  | bl b => cases h; cases r'; exact .base (.bl b)
  | int i => cases h; cases r'; exact .base (.int i)
  | str x => cases h; cases r'; exact .base (.str x)
  | lst xs =>
    cases h
    cases r' with
    | lst h1 h2 => exact .base (.lst h1)
  | ro xs =>
    cases h
    cases r' with
    | ro h1 h2 =>
      rcases h1 with (h1 | ⟨_, h1⟩) | ⟨ob, _, _, e1, e2, _⟩
      · exact .base (.lst h1)
      · exact .base (.frz h1)
      · exact .kList e1 e2
  | tup xs =>
    cases h
    cases r' with
    | tup h1 h2 => exact .base (.tup h1)
  | dic ks =>
    cases h
    cases r' with
    | dic h1 h2 => exact .base (.dK h1)
  | dit ks =>
    cases h
    cases r' with
    | dit h1 h2 => exact .base (.dT h1)
  | kt xs => cases h
  | obj C fs => cases h
  | fnc f => cases h
  | ref n => cases h
theorem isi_ok {Y β : List Addr} {S : Store} {H : Hp} {K : PySem.W.Frag} {v : V} {d : D} {T0 : String} {b0 : Bool} (o : Ok K G Y β S H) (r : Rep K (hid Y β S H) β v d) (h : isiD (drf S d) T0 = some b0) : ∃ t, TyX K H v t ∧ ∀ T b, isiD (drf S d) T = some b → PySem.W.kitOne K t (.type T) = some b := by
  cases ht : tyD (drf S d) with
  | some t =>
    refine ⟨_, ty_ok o r ht, fun T b hb => ?_⟩
    rw [isiD_ty ht] at hb
    exact kit_ty hb
  | none =>
    have r' := o.drf r
    generalize drf S d = e at h r' ht
    cases e with
    | obj C fs =>
      cases r' with
      | obj h1 h2 hk =>
        have c := hk.isa
        refine ⟨.ref C, .base (.ins h1 c.cl c.ha c.hn c.ht c.hm), fun T b hb => ?_⟩
        have hb : (if T ∈ tyNames then some false else none) = some b := hb
        split at hb
        · rename_i hT
          cases hb
          exact hk.no T hT
        · cases hb
    | _ => first | (cases ht; done) | (unfold isiD at h; rw [ht] at h; cases h)
def eIsi (T : String) (ta : TD) : TD := fun ρ S Q => ta ρ S fun x S1 => ∃ b, isiD (drf S1 x) T = some b ∧ Q (.bl b) S1
def eIsi2 (T1 T2 : String) (ta : TD) : TD := fun ρ S Q => ta ρ S fun x S1 => ∃ b c, isiD (drf S1 x) T1 = some b ∧ isiD (drf S1 x) T2 = some c ∧ Q (.bl (b || c)) S1
variable {e f : Expr} {es : List Expr} {ta : TD} {p pos : Pos}
theorem de_isi {T : String} (h : PE X e (tCB (rIsi X.K) (tCons (tE X.K G ta) (tCons (tC (.ty T)) tNil)))) : PE X e (tE X.K G (eIsi T ta)) := h.imp fun σ H Q ⟨Y, β, S, ρ, Q', rl, q, k⟩ => ⟨Y, β, S, ρ, _, rl, q, fun x S1 v β1 H1 s1 r1 ⟨b, hb, q1⟩ => by
  obtain ⟨t, e1, e2⟩ := isi_ok s1.ok r1 hb
  exact ⟨v, .ty T, _, _, b, rfl, .ty T, e1, e2 _ _ hb, k _ S1 _ β1 H1 s1 (.bl _) q1⟩⟩
theorem de_isi2 {T1 T2 : String} (h : PE X e (tCB (rIsiT X.K) (tCons (tE X.K G ta) (tCons (tTup (tCons (tC (.ty T1)) (tCons (tC (.ty T2)) tNil))) tNil)))) : PE X e (tE X.K G (eIsi2 T1 T2 ta)) := h.imp fun σ H Q ⟨Y, β, S, ρ, Q', rl, q, k⟩ => ⟨Y, β, S, ρ, _, rl, q, fun x S1 v β1 H1 s1 r1 ⟨b, c, hb, hc, q1⟩ => by
  refine ⟨by show 2 ≤ sizeLine; decide, fun p hp => ?_⟩
  have st := s1.ok.new (.tup [.ty T1, .ty T2]) hp
  obtain ⟨ty, tyx, kk⟩ := isi_ok st.ok (st.rep r1) hb
  have e2 := kk _ _ hb
  have e3 := kk _ _ hc
  refine ⟨v, p, _, _, [.type T1, .type T2], b || c, rfl, upd_same, .cons (.ty T1) (.cons (.ty T2) .nil), tyx, ?_, k _ S1 _ β1 _ (s1.trans st) (.bl _) q1⟩
  refine kitAny_cons e2 (fun hb => kitAny_cons e3 (fun hc => ?_) fun hc => ?_) fun hb => ?_
  · rw [hb, hc]
    exact kitAny_nil
  · rw [hb, hc]
    rfl
  · rw [hb]
    rfl⟩
def tupI (ks : List Int) : D := .tup (ks.map D.int)
def rLenSet : RD1 := fun x S Q => ∃ kss : List (List Int), drf S x = .lst (kss.map tupI) ∧ kss.length < 64 ∧ ∀ L : List (List Int), L.Nodup → (∀ y, y ∈ L ↔ y ∈ kss) → Q (.int L.length) S
theorem Reps.int' {K : PySem.W.Frag} {B : Hp} {β : List Addr} : ∀ {ns : List Int} {vs : List V}, Reps K B β vs (ns.map D.int) → vs = ns.map V.int
  | [], _, h => by cases h; rfl
  | b :: bs, _, h => by
    cases h with
    | cons h1 h2 =>
      cases h1
      rw [Reps.int' h2]
      rfl
theorem tups_of {K : PySem.W.Frag} {B : Hp} {β : List Addr} : ∀ {kss : List (List Int)} {vs : List V}, Reps K B β vs (kss.map tupI) → ∃ ks : List (Addr × List Int), vs = ks.map (fun p => V.ref p.1) ∧ ks.map (·.2) = kss ∧ ∀ p ∈ ks, SqT K B p.1 (p.2.map V.int)
  | [], _, h => by cases h; exact ⟨[], rfl, rfl, fun p hp => nomatch hp⟩
  | k :: kss, _, h => by
    cases h with
    | cons h1 h2 =>
      obtain ⟨ks, rfl, e2, h3⟩ := tups_of h2
      cases h1 with
      | tup h4 h5 =>
        rename_i a ws
        have e := h5.int'
        subst e
        refine ⟨(a, k) :: ks, rfl, by simp [e2], fun p hp => ?_⟩
        rcases List.mem_cons.mp hp with z | z
        · rw [z]
          exact .inl (.inl h4)
        · exact h3 p z
def rLenSetV (K : PySem.W.Frag) (P : Program) (w : World) : List V → Hp → VK → Prop := fun xs H Q => ∃ (a : Addr) (L : List (Addr × List Int)), xs = [V.ref a] ∧ H a = some (SetTO P w a L) ∧ (∀ p ∈ L, SqT K H p.1 (p.2.map V.int)) ∧ ((L.map (·.2)).Nodup → Q (.int L.length) H)
theorem c_lenSet : CallR X (.builtin "len") (rLenSetV X.K X.prog X.w) := by
  intro pins s σ H xs us Q I rv ⟨a, L, ex, ha, hk, q⟩
  subst ex
  have R0 : SetT0 X.prog X.w s.heap a L := (I.hok a _ ha).1
  obtain ⟨es, ep, t, R⟩ := R0.full fun p hp => I.isT (hk p hp)
  rw [Vals.ref1 rv]
  obtain ⟨o, ho, hex, hd⟩ := R.ob
  have hsz := R.size
  have hfew := R.few
  exact call_len_set ho hex hd R.fits (by rw [hsz]; omega) ⟨.int L.length, H, I.tok _, ⟨_, by rw [hsz]⟩, q R.nd⟩
theorem de_lenSet (h : PE X e (tCB (rLenSetV X.K X.prog X.w) (tCons (tCB (rSetOfT X.K X.prog X.w) (tCons (tE X.K G ta) tNil)) tNil))) : PE X e (tE X.K G (eUn rLenSet ta)) := h.imp fun σ H Q ⟨Y, β, S, ρ, Q', rl, q, k⟩ => ⟨Y, β, S, ρ, _, rl, q, fun x S1 v β1 H1 s1 r1 ⟨kss, hx, hl, q1⟩ => by
  obtain ⟨a, ws, rfl, h1, rr⟩ := ok_lst s1.ok r1 hx
  obtain ⟨ks, rfl, e2, h3⟩ := tups_of rr
  refine ⟨a, ks, rfl, .inl (.inl h1), fun p hp => Evl.ex_t hid_ex (h3 p hp), by rw [← e2, List.length_map] at hl; exact hl, fun b L hb l1 l2 => ?_⟩
  have st := s1.ok.new (SetTO X.prog X.w b L) hb
  refine ⟨b, L, rfl, upd_same, fun p hp => Evl.ex_t (Ex.trans st.ex hid_ex) (h3 p (l1 p hp)), fun nd => ?_⟩
  refine k _ S1 _ β1 _ (s1.trans st) (.int _) ?_
  have := q1 (L.map (·.2)) nd fun y => ⟨fun hy => ?_, fun hy => ?_⟩
  · rwa [List.length_map] at this
  · obtain ⟨p, hp, rfl⟩ := List.mem_map.mp hy
    rw [← e2]
    exact List.mem_map_of_mem (l1 p hp)
  · rw [← e2] at hy
    obtain ⟨p, hp, rfl⟩ := List.mem_map.mp hy
    exact l2 p hp⟩
def enumD (xs : List D) : List D := xs.mapIdx fun i d => .tup [.int i, d]
def sEnum (ta : TD) : TSr := fun ρ S Q => aCons ta aNil ρ S fun ds S1 => ∃ d xs, ds = [d] ∧ drf S1 d = .lst xs ∧ Q (enumD xs) (fun S' => drf S' d = drf S1 d) S1
end
end NC
set_option Elab.async false
set_option linter.all false
set_option maxRecDepth 100000
set_option maxHeartbeats 1000000
namespace NC
open PySem PySem.Spec PyProof.Rows L2
open Evl (Ex)
section
variable {P : Program} {w : World} {h : Heap}
def Shw (P : Program) (w : World) (h : Heap) (v : Value) (d : PyData) : Prop :=
  ∃ as bs, Reads h v d as ∧ ReadAtMost h d.depth bs ∧ ReprK P w bs h d.depth v d.shown ∧ ∀ a, v = .ref a → ∃ T idr, ShowsBy P w h a d T idr
def ShwAll (P : Program) (w : World) (h : Heap) (vs : List Value) (ds : List PyData) : Prop :=
  ∃ as bs, ReadsAll h vs ds as ∧ ReadAtMost h (PyData.depthAll ds) bs ∧ ReprAllK P w bs h (PyData.depthAll ds) vs (PyData.shownAll ds)
theorem shwAll_nil : ShwAll P w h [] [] := ⟨_, [], .nil, fun _ h => (nomatch h), by simp only [PyData.shownAll]; exact .nil⟩
theorem shwAll_cons {v : Value} {d : PyData} {vs : List Value} {ds : List PyData} (x : Shw P w h v d) (y : ShwAll P w h vs ds) : ShwAll P w h (v :: vs) (d :: ds) := by
  obtain ⟨as, bs, r, hb, hk, _⟩ := x
  obtain ⟨as', bs', r', hb', hk'⟩ := y
  refine ⟨_, bs ++ bs', .cons r r', ?_, ?_⟩
  · simp only [PyData.depthAll]
    exact (hb.mono (Nat.le_max_left _ _)).append (hb'.mono (Nat.le_max_right _ _))
  · simp only [PyData.depthAll, PyData.shownAll]
    exact .cons ((hk.more fun b hb => List.mem_append_left _ hb).level_le (Nat.le_max_left _ _)) (hk'.more_le (fun b hb => List.mem_append_right _ hb) (Nat.le_max_right _ _))
theorem shw_list {a : Addr} {o : Obj} {l : List Value} {n : Nat} {xs : List PyData} (h1 : h.get? a = some o) (h2 : o.cls = .type "list") (h3 : o.data = .seq l.toArray n) (y : ShwAll P w h l xs)
    (hz : (PyData.shown (.list xs)).length ≤ sizeLine) : Shw P w h (.ref a) (.list xs) := by
  obtain ⟨as, bs, r', hb, hk⟩ := y
  have r : Reads h (.ref a) (.list xs) (a :: as) := .list h1 h2 h3 r'
  have hna : a ∉ bs := not_mem_of_deeper r (by simp only [PyData.depth]; omega) hb
  refine ⟨_, a :: bs, r, ReadAtMost.cons r (by simp only [PyData.depth]; omega) hb, ?_, ?_⟩
  · simp only [PyData.depth, PyData.shown]
    cases l with
    | nil =>
      cases r'
      simp only [PyData.shownAll, listText_nil]
      exact ReprK.listEmpty h1 h2 h3
    | cons x l => exact ReprK.list h1 h2 h3 hna (by simpa using hk.length_eq) (fun i y e => hk.item i y (by simpa using e))
  · intro b eb
    cases eb
    refine ⟨"list", "list.__repr__", F.slot_list_repr.toG, F.slot_list_str, F.slot_list_format, fun s hk0 => ⟨o, hk0 _ _ h1, h2⟩, fun A E s Q hg hu hk0 hQ => ?_⟩
    simp only [PyData.depth] at hu
    simp only [PyData.shown] at hQ hz
    cases l with
    | nil =>
      cases r'
      simp only [PyData.shownAll, listText_nil] at hQ
      exact call_list_repr_empty ⟨o, hk0 _ _ h1, h2⟩ (hk0 _ _ h1) h3 (hQ s.heap _ _ fun _ _ e => e)
    | cons x l => exact call_list_reprK h1 h2 h3 hna (by simpa using hk.length_eq) (fun i y e => hk.item i y (by simpa using e)) hg (fun b _ => Clear.nil b) hu hk0 hQ hz
theorem shw_tuple {a : Addr} {o : Obj} {l : List Value} {n : Nat} {xs : List PyData} (h1 : h.get? a = some o) (h2 : o.cls = .type "tuple") (h3 : o.data = .seq l.toArray n) (y : ShwAll P w h l xs)
    (hz : (PyData.shown (.tuple xs)).length ≤ sizeLine) : Shw P w h (.ref a) (.tuple xs) := by
  obtain ⟨as, bs, r', hb, hk⟩ := y
  have r : Reads h (.ref a) (.tuple xs) as := .tuple h1 h2 h3 r'
  have hna : a ∉ bs := not_mem_of_deeper r (by simp only [PyData.depth]; omega) hb
  refine ⟨_, a :: bs, r, ReadAtMost.cons r (by simp only [PyData.depth]; omega) hb, ?_, ?_⟩
  · simp only [PyData.depth, PyData.shown]
    exact ReprK.tuple h1 h2 h3 hna hk
  · intro b eb
    cases eb
    refine ⟨"tuple", "tuple.__repr__", F.slot_tuple_repr, F.slot_tuple_str, F.slot_tuple_format, fun s hk0 => ⟨o, hk0 _ _ h1, h2⟩, fun A E s Q hg hu hk0 hQ => ?_⟩
    simp only [PyData.depth] at hu
    simp only [PyData.shown] at hQ hz
    exact call_tuple_reprK h1 h2 h3 hna hk hg (fun b _ => Clear.nil b) hu hk0 hQ hz
theorem shw_dict {a : Addr} {o : Obj} {es : List DictEntry} {n : Nat} {kvs : List (PyData × PyData)} (h1 : h.get? a = some o) (h2 : o.cls = .type "dict") (h3 : o.data = .dict es.toArray n) (hsys : (a == sysModules) = false)
    (y : ShwAll P w h (es.map (·.key)) (kvs.map (·.1))) (z : ShwAll P w h (es.map (·.val)) (kvs.map (·.2)))
    (hz : (PyData.shown (.dict kvs)).length ≤ sizeLine) : Shw P w h (.ref a) (.dict kvs) := by
  obtain ⟨as, b1, r1, hb1, k1⟩ := y
  obtain ⟨as', b2, r2, hb2, k2⟩ := z
  have r : Reads h (.ref a) (.dict kvs) _ := .dict h1 h2 h3 r1 r2
  have hb : ReadAtMost h (PyData.depthKv kvs) (b1 ++ b2) := (hb1.mono (PyData.depthAll_keys_le kvs)).append (hb2.mono (PyData.depthAll_vals_le kvs))
  have hna : a ∉ b1 ++ b2 := not_mem_of_deeper r (by simp only [PyData.depth]; omega) hb
  have hE := ReprEntriesK.of_two (prog := P) (w := w) es _ _ (k1.more_le (fun b hb => List.mem_append_left _ hb) (PyData.depthAll_keys_le kvs)) (k2.more_le (fun b hb => List.mem_append_right _ hb) (PyData.depthAll_vals_le kvs))
  refine ⟨_, a :: (b1 ++ b2), r, ReadAtMost.cons r (by simp only [PyData.depth]; omega) hb, ?_, ?_⟩
  · simp only [PyData.depth, PyData.shown, PyData.shownKv_eq]
    exact ReprK.dict h1 h2 h3 hsys hna hE
  · intro b eb
    cases eb
    refine ⟨"dict", "dict.__repr__", F.slot_dict_repr, F.slot_dict_str, F.slot_dict_format, fun s hk0 => ⟨o, hk0 _ _ h1, h2⟩, fun A E s Q hg hu hk0 hQ => ?_⟩
    simp only [PyData.depth] at hu
    simp only [PyData.shown, PyData.shownKv_eq] at hQ hz
    exact call_dict_reprK h1 h2 h3 hsys hna hE hg (fun b _ => Clear.nil b) hu hk0 hQ hz
theorem shw_int {i : Int} {t : Tok} (hs : i.natAbs.log2 < 1920) : Shw P w h (.int i t) (.int i) :=
  ⟨_, [], .int i t, fun _ h => (nomatch h), by simp only [PyData.shown]; exact .of_is (ReprIs.int t hs) _ _ _, fun a e => nomatch e⟩
theorem shw_str {x : Str} {t : Tok} (hz : (reprText x).length ≤ sizeLine) : Shw P w h (.str x t) (.str x) :=
  ⟨_, [], .str x t, fun _ h => (nomatch h), by simp only [PyData.shown]; exact .of_is (ReprIs.str x t hz) _ _ _, fun a e => nomatch e⟩
theorem shw_none : Shw P w h .none .none := ⟨_, [], .none, fun _ h => (nomatch h), by simp only [PyData.shown]; exact .of_is ReprIs.none _ _ _, fun a e => nomatch e⟩
theorem shw_bool (b : Bool) : Shw P w h (.bool b) (.bool b) := ⟨_, [], .bool b, fun _ h => (nomatch h), by simp only [PyData.shown]; exact .of_is (ReprIs.bool b) _ _ _, fun a e => nomatch e⟩
end
/- what can be shown, to depth n -/
def kshw : Key → Bool
  | .inl i => decide (i.natAbs.log2 < 1920)
  | .inr _ => true
mutual
def shw : Nat → D → Bool
  | _, .non => true
  | _, .bl _ => true
  | _, .int i => decide (i.natAbs.log2 < 1920)
  | _, .str _ => true
  | n + 1, .lst xs => shws n xs
  | n + 1, .tup xs => shws n xs
  | n + 1, .dic kvs => shwk n kvs
  | n + 2, .dit kvs => shwt (n + 1) kvs
  | _, _ => false
def shws : Nat → List D → Bool
  | _, [] => true
  | n, d :: ds => shw n d && shws n ds
def shwk : Nat → List (Key × D) → Bool
  | _, [] => true
  | n, (k, d) :: ds => kshw k && shw n d && shwk n ds
def shwt : Nat → List (List Key × D) → Bool
  | _, [] => true
  | n, (k, d) :: ds => k.all kshw && shw n d && shwt n ds
end
def shn (d : D) : Str := (pd d).shown
section
variable {X : Cx} {pins : List (Addr × Obj)} {σ : L2.St} {H : Hp} {s : Shared} {β : List Addr}
theorem shw_key {h : Heap} {k : Key} {v : Value} (hk : keyIs k v = true) (hs : kshw k = true) (hz : (keyP k).shown.length ≤ sizeLine) : Shw X.prog X.w h v (keyP k) := by
  rcases keyIs_shape hk with ⟨i, t, rfl, rfl⟩ | ⟨x, t, rfl, rfl⟩
  · exact shw_int (by simpa [kshw] using hs)
  · exact shw_str (by simpa only [keyP, PyData.shown] using hz)
mutual
theorem rep_shw (I : L2.Inv X pins σ H s) : ∀ {n : Nat} {d : D} {v : V} {u : Value}, shw n d = true → Rep X.K H β v d → RelV v u → (pd d).shown.length ≤ sizeLine → Shw X.prog X.w s.heap u (pd d) ∧ (pd d).depth ≤ n
  | n, .non, _, _, h, r, rv, hz => by cases r; cases rv; exact ⟨shw_none, Nat.zero_le _⟩
  | n, .bl b, _, _, h, r, rv, hz => by cases r; cases rv; exact ⟨shw_bool b, Nat.zero_le _⟩
  | n, .int i, _, _, h, r, rv, hz => by
    cases r
    obtain ⟨t, rfl⟩ := rv
    exact ⟨shw_int (by simpa [shw] using h), Nat.zero_le _⟩
  | n, .str x, _, _, h, r, rv, hz => by
    cases r
    obtain ⟨t, rfl⟩ := rv
    exact ⟨shw_str (by simpa only [pd, PyData.shown] using hz), Nat.zero_le _⟩
  | 0, .lst xs, _, _, h, r, rv, hz => by simp [shw] at h
  | 0, .tup xs, _, _, h, r, rv, hz => by simp [shw] at h
  | 0, .dic xs, _, _, h, r, rv, hz => by simp [shw] at h
  | 0, .dit xs, _, _, h, r, rv, hz => by simp [shw] at h
  | 1, .dit xs, _, _, h, r, rv, hz => by simp [shw] at h
  | n + 1, .lst xs, _, _, h, r, rv, hz => by
    cases r with
    | lst h1 h2 =>
      cases rv
      obtain ⟨its, rr, ⟨o, m, e1, e2, e3, e4⟩, _⟩ := I.list (.inl (.inl h1))
      have hz' : (listText (PyData.shownAll (pds xs))).length ≤ sizeLine := by simpa only [pd, PyData.shown] using hz
      obtain ⟨a, b⟩ := reps_shw I (n := n) (by simpa [shw] using h) h2 rr fun t ht => Nat.le_trans (listText_mem_le ht) hz'
      refine ⟨?_, by simp only [pd, PyData.depth]; omega⟩
      simp only [pd]
      exact shw_list e1 e2 e4 a (by simpa only [pd] using hz)
  | n + 1, .tup xs, _, _, h, r, rv, hz => by
    cases r with
    | tup h1 h2 =>
      cases rv
      obtain ⟨its, rr, ⟨o, e1, e2, m, e4⟩, _⟩ := I.tuple (.inl (.inl h1))
      have hz' : (tupleText (PyData.shownAll (pds xs))).length ≤ sizeLine := by simpa only [pd, PyData.shown] using hz
      obtain ⟨a, b⟩ := reps_shw I (n := n) (by simpa [shw] using h) h2 rr fun t ht => Nat.le_trans (tupleText_mem_le ht) hz'
      refine ⟨?_, by simp only [pd, PyData.depth]; omega⟩
      simp only [pd]
      exact shw_tuple e1 e2 e4 a (by simpa only [pd] using hz)
  | n + 1, .dic kvs, _, _, h, r, rv, hz => by
    cases r with
    | dic h1 h2 =>
      cases rv
      obtain ⟨_, hsys, vs, kv, o, es, ep, e1, e2, e3, _, pr, _⟩ := I.hok _ _ h1
      have hz' : (dictText (PyData.shownKv (pdk kvs))).length ≤ sizeLine := by simpa only [pd, PyData.shown] using hz
      obtain ⟨a, b, c⟩ := repk_shw I (n := n) (by simpa [shw] using h) h2 kv pr (fun t ht => let ⟨p, hp, hl⟩ := PyData.shownKv_key_le _ t ht; Nat.le_trans hl (Nat.le_trans (dictText_mem_le hp) hz'))
        fun t ht => let ⟨p, hp, hl⟩ := PyData.shownKv_val_le _ t ht; Nat.le_trans hl (Nat.le_trans (dictText_mem_le hp) hz')
      refine ⟨?_, by simp only [pd, PyData.depth]; omega⟩
      simp only [pd]
      obtain ⟨es⟩ := es
      exact shw_dict e1 e2.1 e3 hsys a b (by simpa only [pd] using hz)
  | n + 2, .dit kvs, _, _, h, r, rv, hz => by
    cases r with
    | dit h1 h2 =>
      cases rv
      obtain ⟨_, hsys, xs, pp, o, es, ep, e1, e2, e3, e4, _⟩ := I.hok _ _ h1
      have hz' : (dictText (PyData.shownKv (pdt kvs))).length ≤ sizeLine := by simpa only [pd, PyData.shown] using hz
      obtain ⟨a, b, c⟩ := rept_shw I (n := n) (by simpa [shw] using h) h2 pp (fun t ht => let ⟨p, hp, hl⟩ := PyData.shownKv_key_le _ t ht; Nat.le_trans hl (Nat.le_trans (dictText_mem_le hp) hz'))
        fun t ht => let ⟨p, hp, hl⟩ := PyData.shownKv_val_le _ t ht; Nat.le_trans hl (Nat.le_trans (dictText_mem_le hp) hz')
      refine ⟨?_, by simp only [pd, PyData.depth]; omega⟩
      simp only [pd]
      obtain ⟨es⟩ := es
      have e4' : es = xs.map (entryOfKey (tupleKind (mixKind X.prog X.w))) := e4
      subst e4'
      exact shw_dict e1 e2.1 e3 hsys a b (by simpa only [pd] using hz)
  | n, .ro xs, _, _, h, r, _, _ => by cases n <;> simp [shw] at h
  | n, .kt xs, _, _, h, r, _, _ => by cases n <;> simp [shw] at h
  | n, .ref m, _, _, h, r, _, _ => by cases n <;> simp [shw] at h
theorem reps_shw (I : L2.Inv X pins σ H s) : ∀ {n : Nat} {ds : List D} {vs : List V} {us : List Value}, shws n ds = true → Reps X.K H β vs ds → Vals vs us → (∀ t ∈ PyData.shownAll (pds ds), t.length ≤ sizeLine) →
    ShwAll X.prog X.w s.heap us (pds ds) ∧ PyData.depthAll (pds ds) ≤ n
  | n, [], _, _, h, r, rv, hz => by cases r; cases rv; exact ⟨shwAll_nil, Nat.zero_le _⟩
  | n, d :: ds, _, _, h, r, rv, hz => by
    cases r with
    | cons r1 r2 =>
      cases rv with
      | cons q1 q2 =>
        have h' : shw n d = true ∧ shws n ds = true := by simpa [shws] using h
        simp only [pds, PyData.shownAll] at hz
        obtain ⟨a, b⟩ := rep_shw I h'.1 r1 q1 (hz _ (List.mem_cons_self ..))
        obtain ⟨a', b'⟩ := reps_shw I h'.2 r2 q2 fun t ht => hz t (List.mem_cons_of_mem _ ht)
        exact ⟨shwAll_cons a a', by simp only [pds, PyData.depthAll]; omega⟩
theorem repk_shw (I : L2.Inv X pins σ H s) : ∀ {n : Nat} {ds : List (Key × D)} {kvs : List (Key × V)} {vs : List (Key × Value)} {es : List DictEntry}, shwk n ds = true → RepK X.K H β kvs ds → KV kvs vs → Pairs (mixKind X.prog X.w) es vs →
    (∀ t ∈ PyData.shownAll ((pdk ds).map (·.1)), t.length ≤ sizeLine) → (∀ t ∈ PyData.shownAll ((pdk ds).map (·.2)), t.length ≤ sizeLine) →
    ShwAll X.prog X.w s.heap (es.map (·.key)) ((pdk ds).map (·.1)) ∧ ShwAll X.prog X.w s.heap (es.map (·.val)) ((pdk ds).map (·.2)) ∧ PyData.depthKv (pdk ds) ≤ n
  | n, [], _, _, _, h, r, kv, pr, hz, hz' => by cases r; cases kv; cases pr; exact ⟨shwAll_nil, shwAll_nil, Nat.zero_le _⟩
  | n, (k, d) :: ds, _, _, _, h, r, kv, pr, hz, hz' => by
    cases r with
    | cons r1 r2 =>
      cases kv with
      | cons q1 q2 =>
        cases pr with
        | cons p1 p2 p3 =>
          have h' : (kshw k = true ∧ shw n d = true) ∧ shwk n ds = true := by simpa [shwk] using h
          simp only [pdk, List.map_cons, PyData.shownAll] at hz hz'
          obtain ⟨e1, e2⟩ := q1
          obtain ⟨a, b⟩ := rep_shw I h'.1.2 r1 e2 (hz' _ (List.mem_cons_self ..))
          obtain ⟨a1, a2, b'⟩ := repk_shw I h'.2 r2 q2 p3 (fun t ht => hz t (List.mem_cons_of_mem _ ht)) fun t ht => hz' t (List.mem_cons_of_mem _ ht)
          rw [← p2] at a
          rw [← e1] at p1
          refine ⟨shwAll_cons (shw_key (k := k) p1 h'.1.1 (hz _ (List.mem_cons_self ..))) a1, shwAll_cons a a2, ?_⟩
          have kd : (keyP k).depth = 0 := by cases k <;> rfl
          simp only [pdk, PyData.depthKv]
          omega
theorem rept_shw (I : L2.Inv X pins σ H s) : ∀ {n : Nat} {ds : List (List Key × D)} {kvs : List (List Key × V)} {xs : List (List Key × Addr × Value)}, shwt (n + 1) ds = true → RepT X.K H β kvs ds →
    Paired (fun (p : List Key × V) (q : List Key × Addr × Value) => p.1 = q.1 ∧ H q.2.1 = some (.tup (p.1.map kV)) ∧ RelV p.2 q.2.2) kvs xs →
    (∀ t ∈ PyData.shownAll ((pdt ds).map (·.1)), t.length ≤ sizeLine) → (∀ t ∈ PyData.shownAll ((pdt ds).map (·.2)), t.length ≤ sizeLine) →
    ShwAll X.prog X.w s.heap ((xs.map (entryOfKey (tupleKind (mixKind X.prog X.w)))).map (·.key)) ((pdt ds).map (·.1)) ∧ ShwAll X.prog X.w s.heap ((xs.map (entryOfKey (tupleKind (mixKind X.prog X.w)))).map (·.val)) ((pdt ds).map (·.2)) ∧ PyData.depthKv (pdt ds) ≤ n + 1
  | n, [], _, _, h, r, pp, hz, hz' => by cases r; cases pp; exact ⟨shwAll_nil, shwAll_nil, Nat.zero_le _⟩
  | n, (k, d) :: ds, _, _, h, r, pp, hz, hz' => by
    cases r with
    | cons r1 r2 =>
      cases pp with
      | cons q1 q2 =>
        have h' : (k.all kshw = true ∧ shw (n + 1) d = true) ∧ shwt (n + 1) ds = true := by simpa [shwt] using h
        simp only [pdt, List.map_cons, PyData.shownAll] at hz hz'
        obtain ⟨e1, e2, e3⟩ := q1
        obtain ⟨a, b⟩ := rep_shw I h'.1.2 r1 e3 (hz' _ (List.mem_cons_self ..))
        obtain ⟨a1, a2, b'⟩ := rept_shw I h'.2 r2 q2 (fun t ht => hz t (List.mem_cons_of_mem _ ht)) fun t ht => hz' t (List.mem_cons_of_mem _ ht)
        have hzk := hz _ (List.mem_cons_self ..)
        have hzk' : (tupleText (PyData.shownAll (k.map keyP))).length ≤ sizeLine := by simpa only [PyData.shown] using hzk
        obtain ⟨_, its, rr, o, f1, f2, m, f4⟩ := I.hok _ _ e2
        obtain ⟨c1, c2⟩ := keys_shw k h'.1.1 rr (fun t ht => Nat.le_trans (tupleText_mem_le ht) hzk')
        refine ⟨shwAll_cons (shw_tuple f1 f2 f4 c1 hzk) a1, shwAll_cons a a2, ?_⟩
        simp only [pdt, PyData.depthKv, PyData.depth]
        omega
theorem keys_shw : ∀ (ks : List Key) {us : List Value}, ks.all kshw = true → Vals (ks.map kV) us → (∀ t ∈ PyData.shownAll (ks.map keyP), t.length ≤ sizeLine) →
    ShwAll X.prog X.w s.heap us (ks.map keyP) ∧ PyData.depthAll (ks.map keyP) = 0
  | [], _, h, r, hz => by cases r; exact ⟨shwAll_nil, rfl⟩
  | k :: ks, _, h, r, hz => by
    have h' : kshw k = true ∧ ks.all kshw = true := by simpa using h
    cases r with
    | cons r1 r2 =>
      simp only [List.map_cons, PyData.shownAll] at hz
      obtain ⟨a, b⟩ := keys_shw ks h'.2 r2 fun t ht => hz t (List.mem_cons_of_mem _ ht)
      have kd : (keyP k).depth = 0 := by cases k <;> rfl
      refine ⟨shwAll_cons (shw_key ?_ h'.1 (hz _ (List.mem_cons_self ..))) a, by simp only [List.map_cons, PyData.depthAll]; omega⟩
      cases k with
      | inl i =>
        obtain ⟨t, rfl⟩ := r1
        exact keyIs_int i t
      | inr x =>
        obtain ⟨t, rfl⟩ := r1
        exact keyIs_str x t
end
def rRepr : RDs := fun xs S Q => match xs with
  | [x] => shw 60 (drf S x) = true ∧ (shn (drf S x)).length ≤ sizeLine ∧ Q (.str (shn (drf S x))) S
  | _ => False
theorem c_repr (hg : X.A.guards = some []) (hu : X.A.units + 64 < cLine) : CallR X (.builtin "repr") (ls X.K G rRepr) := by
  intro pins s σ H xs us Q I rv ⟨Y, β, S, ds, Q', o, rs, h, k⟩
  unfold rRepr at h
  split at h
  · rename_i x
    obtain ⟨v, rfl, r⟩ := rs.one
    obtain ⟨h1, h2, q⟩ := h
    have fin := k _ S _ β H (.refl o) (.str _) q
    have r' := o.drf r
    generalize drf S x = y at h1 h2 q fin r'
    cases rv with
    | cons rv rn =>
      cases rn
      obtain ⟨⟨as, bs, rd, _, _, hs⟩, hd⟩ := rep_shw I h1 r' rv h2
      have fin' : ∀ t s', L2.Inv X pins σ H s' → EP X pins σ Q (.str (shn y) t) s' := fun t s' I' => ⟨.str (shn y), H, I', ⟨t, rfl⟩, fin⟩
      cases hy : y with
      | non =>
        subst hy
        cases r'
        cases rv
        exact P.repr_of_none (fin' _ _ (I.tok _))
      | bl b =>
        subst hy
        cases r'
        cases rv
        exact P.repr_of_bool (fin' _ _ (I.tok _))
      | int i =>
        subst hy
        cases r'
        obtain ⟨t, rfl⟩ := rv
        exact P.repr_of_int (by simpa [shw] using h1) (fin' _ _ (I.tok _))
      | str z =>
        subst hy
        cases r'
        obtain ⟨t, rfl⟩ := rv
        exact P.repr_of_str (fin' _ _ (I.tok _)) h2
      | ref m => subst hy; simp [shw] at h1
      | ro m => subst hy; simp [shw] at h1
      | _ =>
        subst hy
        cases r'
        cases rv
        obtain ⟨T, idr, sh⟩ := hs _ rfl
        exact call_repr_slot (by omega) (sh.typeIs s fun _ _ e => e) sh.slotRepr (sh.call X.A.in1 _ s _ hg (by show X.A.units + 1 + _ < cLine; omega) (fun _ _ e => e) fun h' u tk hk => ⟨_, _, rfl, fin' _ _ (I.kept (t' := tk) hk)⟩)
  · exact h.elim
end
end NC
set_option Elab.async false
set_option linter.all false
set_option maxRecDepth 100000
set_option maxHeartbeats 1000000
namespace NC
open PySem PySem.Spec PyProof.Rows L2
open Evl (Ex)
open MeetsSeq SeqAt AutoSeq1
section
variable {X : Cx}
def isN : D → Bool
  | .non => true
  | _ => false
theorem isN_v {K : PySem.W.Frag} {B : Hp} {β : List Addr} {v : V} {d : D} (r : Rep K B β v d) : decide (v = .non) = isN d := by
  cases r <;> rfl
def rIs : RD2 := fun x y S Q => y = .non ∧ Q (.bl (isN x)) S
theorem o_is : OpR X (compareOp .Is) (l2 X.K G rIs) := by
  intro pins s σ H x y v u Q I rx ry ⟨Y, β, S, dx, dy, Q', o, r1, r2, ⟨ey, q⟩, k⟩
  subst ey
  cases r2
  exact op_isN pins s σ H _ _ v u Q I rx ry ⟨rfl, by rw [isN_v r1]; exact k _ S _ β H (.refl o) (.bl _) q⟩
variable {a b c : Expr} {ta tb tc : TD} {pos : Pos}
def rApp : RDm := fun x xs S Q => ∃ n ys y, x = .ref n ∧ xs = [y] ∧ S[n]? = some (some (.lst ys)) ∧ ys.length < sizeLine ∧ Q .non (S.set n (some (.lst (ys ++ [y]))))
theorem ref_at {K : PySem.W.Frag} {Y β : List Addr} {S : Store} {H : Hp} {n : Nat} {v : V} {ys : List D} (o : Ok K G Y β S H) (r : Rep K (hid Y β S H) β v (.ref n)) (h : S[n]? = some (some (.lst ys))) :
    ∃ a us, v = .ref a ∧ β[n]? = some a ∧ H a = some (.lst us) ∧ Reps K (hid Y β S H) β us ys := by
  obtain ⟨a, e1, us, h1, h2⟩ := o.obj n _ h
  cases r with
  | ref e2 =>
    rw [e1] at e2
    cases e2
    exact ⟨a, us, rfl, e1, h1, h2⟩
theorem m_app : MtR X "list.append" (lm X.K G rApp) := by
  intro pins s σ H x vs v us Q I rx rv ⟨Y, β, S, dx, xs, Q', o, r1, rs, ⟨n, ys, y, ex, exs, hS, hl, q⟩, k⟩
  subst ex
  subst exs
  obtain ⟨a, ws, rfl, e1, h1, rr⟩ := ref_at o r1 hS
  obtain ⟨w, rfl, rw1⟩ := rs.one
  have st := o.put hS e1 (rr.append (.cons rw1 .nil))
  exact mt_append pins s σ H _ _ v us Q I rx rv ⟨a, ws, w, rfl, rfl, h1, by rw [rr.len]; exact hl, k _ _ _ _ _ st .non q⟩
theorem de_dnew : PE X (.Dict [] [] pos) (tE X.K G (eC (.dic []))) := pe_dnewK.imp fun σ H Q ⟨Y, β, S, ρ, Q', rl, q, k⟩ => fun p hp =>
  k _ S _ β _ (rl.ok.new _ hp) (.dic (rl.ok.new_at _ hp) .nil) q
def putD (kvs : List (Key × D)) (k : Key) (v : D) : List (Key × D) :=
  if (kvs.any fun p => decide (p.1 = k)) = true then kvs.map (fun p => if p.1 = k then (p.1, v) else p) else kvs ++ [(k, v)]
def kD : Key → D
  | .inl i => .int i
  | .inr x => .str x
def zipD (ps : List (Key × TD)) (ds : List D) : List (Key × D) := List.zipWith (fun p d => (p.1, d)) ps ds
theorem RepK.any {K : PySem.W.Frag} {B : Hp} {β : List Addr} {p : Key → Bool} : ∀ {ds : List (Key × D)} {kvs : List (Key × V)}, RepK K B β kvs ds → (kvs.any fun x => p x.1) = ds.any fun x => p x.1
  | [], _, h => by cases h; rfl
  | d :: ds, _, h => by
    cases h with
    | cons h1 h2 => simp [RepK.any (p := p) h2]
theorem RepK.upd' {K : PySem.W.Frag} {B : Hp} {β : List Addr} {k : Key} {v : V} {d : D} (r : Rep K B β v d) : ∀ {ds : List (Key × D)} {kvs : List (Key × V)}, RepK K B β kvs ds →
    RepK K B β (kvs.map fun x => if x.1 = k then (x.1, v) else x) (ds.map fun x => if x.1 = k then (x.1, d) else x)
  | [], _, h => by cases h; exact .nil
  | (k', e) :: ds, _, h => by
    cases h with
    | cons h1 h2 =>
      rw [List.map_cons, List.map_cons]
      by_cases hk : k' = k
      · rw [if_pos hk, if_pos hk]
        exact .cons r (RepK.upd' r h2)
      · rw [if_neg hk, if_neg hk]
        exact .cons h1 (RepK.upd' r h2)
theorem RepK.snoc {K : PySem.W.Frag} {B : Hp} {β : List Addr} {k : Key} {v : V} {d : D} (r : Rep K B β v d) : ∀ {ds : List (Key × D)} {kvs : List (Key × V)}, RepK K B β kvs ds → RepK K B β (kvs ++ [(k, v)]) (ds ++ [(k, d)])
  | [], _, h => by cases h; exact .cons r .nil
  | _ :: ds, _, h => by
    cases h with
    | cons h1 h2 => exact .cons h1 (RepK.snoc r h2)
theorem RepK.put {K : PySem.W.Frag} {B : Hp} {β : List Addr} {k : Key} {v : V} {d : D} (r : Rep K B β v d) {ds : List (Key × D)} {kvs : List (Key × V)} (h : RepK K B β kvs ds) : RepK K B β (putK kvs k v) (putD ds k d) := by
  have e := h.any (p := fun x => decide (x = k))
  unfold putK putD
  by_cases q : (ds.any fun x => decide (x.1 = k)) = true
  · rw [if_pos (e.trans q), if_pos q]
    exact RepK.upd' r h
  · rw [if_neg (by rw [e]; exact q), if_neg q]
    exact RepK.snoc r h
theorem RepK.all {K : PySem.W.Frag} {B : Hp} {β : List Addr} : ∀ {ps : List (Key × TD)} {vs : List V} {ds : List D} {kvs : List (Key × V)} {kds : List (Key × D)}, Reps K B β vs ds → RepK K B β kvs kds →
    RepK K B β ((List.zipWith (fun (p : Key × TD) v => (p.1, v)) ps vs).foldl (fun acc kv => putK acc kv.1 kv.2) kvs) ((zipD ps ds).foldl (fun acc kv => putD acc kv.1 kv.2) kds)
  | [], _, _, _, _, r, h => by simpa [zipD] using h
  | p :: ps, _, _, _, _, r, h => by
    cases r with
    | nil => simpa [zipD] using h
    | cons r1 r2 => exact RepK.all (ps := ps) r2 (h.put r1)
end
section
variable {A : Around} {s : Shared} {prog : Program} {w : World}
theorem list_dict_declines (l b : Addr) (items : Array Value) (n n2 : Nat) (dd : Option Addr) (sl : Array (Option Value)) (es : Array DictEntry) :
    Meets (Builtin.«list.__eq__» ⟨[.ref l, .ref b], []⟩) (fun _ R s => s.heap.get? l = some { cls := .type "list", dict := dd, data := .seq items n, slots := sl } ∧ s.heap.get? b = some { cls := .type "dict", data := .dict es n2 } ∧ R (.ok (.ret .notImplemented)) s) :=
  .of_wp fun prog w A R s h => by obtain ⟨hp, g, d, tk, os⟩ := s; obtain ⟨hl, hb, h⟩ := h; have f1 := F.sub_dict_list; wp_walk using wpAny_loadPart' hl, wpAny_loadPart' hb; exact ⟨_, rfl, h⟩
theorem dict_list_declines {a b : Addr} {Q : Value → Shared → Prop} {E : Value → Shared → Prop} (ha : s.TypeIs (.ref a) "dict") (hb : s.TypeIs (.ref b) "list") (h : Q .notImplemented s) :
    wpAny (model prog w) A (call (.builtin "dict.__eq__") [.ref a, .ref b]) Q E s := by
  refine wpAny_call_entry F.slot_dict_eq ha F.entry_dict_eq ?_ (F.args_dict_eq_2 _ _)
  refine wpAny_bind (m := Builtin.Dict.dictSlotArgs "__eq__" ⟨[.ref a, .ref b], []⟩) ?_
  unfold Builtin.Dict.dictSlotArgs
  refine wpAny_bind (wpAny_notOrdered_dict ha ?_)
  refine wpAny_bind (m := pure _) (wpAny_pure (wpAny_pure ?_))
  refine wpAny_bind (wpAny_isInstance (T := "list") hb F.sub_list_dict ?_)
  exact wpAny_bind (wpAny_rule (wpAny_pure ⟨_, rfl, h⟩))
theorem eq_dict_list {a b : Addr} {oa : Obj} {items : Array Value} (ha : s.heap.get? a = some oa) (hx : oa.ExactDict) {es : Array DictEntry} {n : Nat} (hd : oa.data = .dict es n) (hb : s.heap.IsList b items) (hu : A.units < cLine) : RcAt A s (.ref a) (.ref b) false := fun prog w E Q h => by
  obtain ⟨⟨cls, dd, data, sl⟩, ho, hc, m, he⟩ := id hb
  simp only at hc he
  subst hc he
  have ta : s.TypeIs (.ref a) "dict" := ⟨oa, ha, hx.1⟩
  have tb : s.TypeIs (.ref b) "list" := ⟨_, ho, rfl⟩
  have ne : a ≠ b := fun e => by
    subst e
    rw [ho] at ha
    cases ha
    exact absurd hx.1 (by simp)
  obtain ⟨ac, ad, adt, asl⟩ := oa
  obtain ⟨x1, x2, x3⟩ := hx
  simp only at x1 x2 x3 hd
  subst x1 x2 x3 hd
  exact rc_eq_decline_or (k := false) ta tb (by decide) F.sub_list_dict F.slot_dict_eq F.slot_list_eq_refl
    (fun _ hq => dict_list_declines ta tb hq)
    (fun _ hq => call_meets F.slot_list_eq_refl tb F.entry_list_eq (F.args_list_eq_2 _ _) (list_dict_declines b a items m n dd sl es) ⟨ho, ha, hq⟩)
    (fun _ hq => wpAny_isSame_ref_other' ne ha ho (by simp) hq) (.inr hu) h
end
def isDict : D → Bool
  | .dic _ => true
  | .dit _ => true
  | _ => false
inductive EqR3 : D → D → Bool → Prop
  | of {x y : D} {b : Bool} : EqR x y b → EqR3 x y b
  | dl {x : D} {ys : List D} : isDict x = true → EqR3 x (.lst ys) false
  | txt {x y : Str} : EqR3 (.str x) (.str y) (decide (x = y))
theorem dec_V {x y : Str} : decide (V.str x = V.str y) = decide (x = y) := by
  by_cases h : x = y
  · rw [h]
    simp
  · rw [decide_eq_false h, decide_eq_false fun e => h (V.str.inj e)]
inductive NeR3 : D → D → Bool → Prop
  | of {x y : D} {b : Bool} : EqR x y b → NeR3 x y b
  | txt {x y : Str} : NeR3 (.str x) (.str y) (decide (x = y))
def rNe3 : RD2 := fun x y S Q => ∃ b, NeR3 (drf S x) (drf S y) b ∧ Q (.bl (!b)) S
theorem op_ne3 {X : Cx} (hu : X.A.units + 64 < cLine) : OpR X (compareOp .NotEq) (l2 X.K G rNe3) := by
  intro pins s σ H x y v u Q I rx ry ⟨Y, β, S, dx, dy, Q', o, r1, r2, ⟨b, h, q⟩, k⟩
  have e1 := o.drf r1
  have e2 := o.drf r2
  generalize hx : drf S dx = x' at h e1
  generalize hy : drf S dy = y' at h e2
  cases h with
  | of h => exact op_ne' hu pins s σ H x y v u Q I rx ry ⟨Y, β, S, dx, dy, Q', o, r1, r2, ⟨b, by rw [hx, hy]; exact h, q⟩, k⟩
  | txt =>
    have fin := k _ S _ β H (.refl o) (.bl _) q
    cases e1
    cases e2
    exact op_ne pins s σ H _ _ v u Q I rx ry ⟨rfl, by rw [dec_V]; exact fin⟩
def rEq3 : RD2 := fun x y S Q => ∃ b, EqR3 (drf S x) (drf S y) b ∧ Q (.bl b) S
theorem op_eq3 {X : Cx} (hu : X.A.units + 64 < cLine) : OpR X (compareOp .Eq) (l2 X.K G rEq3) := by
  intro pins s σ H x y v u Q I rx ry ⟨Y, β, S, dx, dy, Q', o, r1, r2, ⟨b, h, q⟩, k⟩
  have e1 := o.drf r1
  have e2 := o.drf r2
  generalize hx : drf S dx = x' at h e1
  generalize hy : drf S dy = y' at h e2
  cases h with
  | of h => exact op_eq' hu pins s σ H x y v u Q I rx ry ⟨Y, β, S, dx, dy, Q', o, r1, r2, ⟨b, by rw [hx, hy]; exact h, q⟩, k⟩
  | txt =>
    have fin := k _ S _ β H (.refl o) (.bl _) q
    cases e1
    cases e2
    exact op_eq pins s σ H _ _ v u Q I rx ry ⟨rfl, by rw [dec_V]; exact fin⟩
  | dl hd =>
    have fin := k _ S _ β H (.refl o) (.bl false) q
    cases e2 with
    | lst h3 h4 =>
      cases ry
      obtain ⟨its, l, _⟩ := lists_of I h3
      cases x' with
      | dic ks =>
        cases e1 with
        | dic h1 h2 =>
          cases rx
          obtain ⟨_, _, _, _, ob, es, ep, g1, g2, g3, _⟩ := I.hok _ _ h1
          exact eq_dict_list g1 g2 g3 l (by omega) _ _ _ _ ⟨.bl false, H, I, rfl, fin⟩
      | dit ks =>
        cases e1 with
        | dit h1 h2 =>
          cases rx
          obtain ⟨_, _, _, _, ob, es, ep, g1, g2, g3, _⟩ := I.hok _ _ h1
          exact eq_dict_list g1 g2 g3 l (by omega) _ _ _ _ ⟨.bl false, H, I, rfl, fin⟩
      | _ => simp [isDict] at hd
end NC
set_option Elab.async false
set_option linter.all false
set_option maxRecDepth 100000
set_option maxHeartbeats 1000000
namespace NC
open PySem PySem.Spec PyProof.Rows L2
open Evl (Ex)
theorem hid_nil {S : Store} {H : Hp} : hid [] [] S H = H := by
  funext b
  refine hid_of (by simp) fun n o e _ => ?_
  simp at e
theorem ok_nil {K : PySem.W.Frag} {H : Hp} : Ok K ⟨[], []⟩ [] [] [] H := ⟨rfl, List.nodup_nil, fun _ h => (nomatch h), fun _ h => (nomatch h), fun _ h => (nomatch h), fun n o e => by simp at e, fun w h => (nomatch h), ⟨fun p hp => (nomatch hp), fun p hp => (nomatch hp), fun a ha => (nomatch ha)⟩⟩
theorem Reps.ofInts {K : PySem.W.Frag} {B : Hp} {β : List Addr} : ∀ ns : List Int, Reps K B β (ns.map V.int) (ns.map D.int)
  | [] => .nil
  | n :: ns => .cons (.int n) (Reps.ofInts ns)
def TrueAt (r : RDs) (n : Nat) : Prop := ∀ ns : List Int, ns.length ≤ n → r [.ro (ns.map D.int)] [] fun d _ => d = .bl true
theorem top_sp {K : PySem.W.Frag} {r : RDs} {n : Nat} (h : TrueAt r n) {H : Hp} {a : Addr} {ns : List Int} (hl : ns.length ≤ n) (hS : SqL K H a (ns.map V.int)) : lsp K [] r [.ref a] H (fun v _ => v = .bl true) fun _ _ _ => False := by
  refine ⟨[], [], [], [.ro (ns.map D.int)], _, ok_nil, .cons (.ro ?_ (Reps.ofInts ns)) .nil, h ns hl, fun d S v β H' _ r1 e => ?_⟩
  · rw [hid_nil]
    exact hS
  · subst e
    cases r1
    rfl
theorem asked {P : Program} {w : World} {K : PySem.W.Frag} {mg mb : Str → Option Value} {k n : Nat} {fa a : Addr} {fd : FuncData} {x : Str} {r : RDs} {s : Shared} {vs : List Value} {ns : List Int}
    (kin : K.In s.heap) (gl : s.heap.Ns mainGlobals mg) (bl : s.heap.Ns builtinsNs mb) (bb : ∀ z : Str, z ≠ "__name__" → mb z = bootBuiltins z) (lim : s.heap.NoLimit) (gens : s.gens = #[])
    (ha : s.heap.get? a = some { cls := .type "list", data := .seq vs.toArray }) (isInts : IntsAre vs ns) (few : ns.length ≤ n) (small : n ≤ sizeLine) (room : Room k callerA)
    (F : ∀ base : Heap, K.In base → base.Ns mainGlobals mg → FnG P w K mg base CX0 k fa fd [x] (lsp K [] r)) (bind : ∀ (t : Shared) (u : Value), BindsTo t fd ⟨[u], []⟩ [(x, u)]) (ht : TrueAt r n) :
    codeAny (model P w) callerA (.call (.ref fa) ⟨[.ref a], []⟩) (fun z t => z = .ok (.ret (.bool true)) ∧ OldK s.heap t.heap ∧ t.os = s.os ∧ AllBare t.gens) s := by
  have size := isInts.length
  have vals := vals_ints isInts
  have one : ∀ H : Hp, Only H → SqL K H a (ns.map V.int) → HOk P w H s.heap → (∀ b, H b ≠ none → b = a ∧ K.lookup a = none) →
      codeAny (model P w) callerA (.call (.ref fa) ⟨[.ref a], []⟩) (fun z t => z = .ok (.ret (.bool true)) ∧ OldK s.heap t.heap ∧ t.os = s.os ∧ AllBare t.gens) s := by
    intro H only hS hok at_a
    -- what H doesn't track is in the base
    have keep : ∀ {b : Addr} {o : Obj}, s.heap.get? b = some o → (b = a → K.lookup a ≠ none ∨ o.cls ≠ .type "list") → (hidT s.heap H).get? b = some o := fun {b o} e hne => by
      refine hidT_get e (Classical.byContradiction fun q => ?_)
      obtain ⟨eb, kn⟩ := at_a b q
      subst eb
      rcases hne rfl with h | h
      · exact h kn
      · rw [ha] at e
        cases e
        exact h rfl
    have space : ∀ {b : Addr} {m : Str → Option Value}, s.heap.Ns b m → (hidT s.heap H).Ns b m := fun {b m} ⟨o, es, ep, e, d, q⟩ => by
      refine ⟨o, es, ep, keep e fun eb => .inr fun hc => ?_, d, q⟩
      subst eb
      rw [ha] at e
      cases e
      cases d
    have base_in : K.In (hidT s.heap H) := fun b o e => keep (kin b o e) fun eb => .inl (by rw [← eb, e]; simp)
    have module : Mod K mg (hidT s.heap H) := ⟨base_in, space gl, ⟨mb, space bl, bb⟩, by
      obtain ⟨mc, h1, h2⟩ := lim
      exact ⟨mc, space h1, h2⟩⟩
    have env : Env0 P w K mg (hidT s.heap H) callerA [] s H := ⟨rfl, module, fun b o e => of_hidT e, Nat.le_of_eq (hidT_size _ _), trivial, fun b hb => (List.not_mem_nil (show b ∈ ([] : List Addr) from hb)).elim, hok, .of_eq gens⟩
    refine codeAny_mono ((F _ base_in (space gl)).go callerA [] s H ⟨[.ref a], []⟩ [.ref a] [.ref a] _ _ room rfl env (bind s (.ref a)) (.cons rfl .nil) (top_sp ht few hS)) ?_
    rintro (err | fl) t ht
    · exact ht.elim
    · cases fl with
      | ret u =>
        obtain ⟨v, H', os, bare, un, hok', rv, ev⟩ := ht
        have ev' : v = .bl true := ev
        subst ev'
        have eu : u = Value.bool true := rv
        subst eu
        refine ⟨rfl, OldK.of_keep fun b o e => ?_, os, bare⟩
        rcases only b with hn | ⟨ob, xs, hf⟩
        · exact un.keep b o e hn (fun z => (List.not_mem_nil (show b ∈ ([] : List Addr) from z)).elim) (by simp)
        · have before := (hok b _ hf).1
          have after := (hok' b _ (un.frzs b ob _ hf)).1
          rw [e] at before
          cases before
          exact after
      | next => exact ht.elim
      | brk => exact ht.elim
      | cont => exact ht.elim
  cases hk : K.lookup a with
  | some o =>
    have e := kin a o hk
    rw [ha] at e
    cases e
    refine one (fun _ => none) (fun _ => .inl rfl) (.inr ⟨_, vs.toArray, _, hk, rfl, rfl, rfl, ?_, by simpa using vals⟩) (fun b u z => absurd (show (none : Option HO) = some u from z) (by simp)) fun b z => (z rfl).elim
    rw [List.size_toArray, size]
    exact Nat.le_trans few small
  | none =>
    have track : ∀ b u, upd (fun _ => none) a (.frz { cls := .type "list", data := .seq vs.toArray } (.lst (ns.map V.int))) b = some u → b = a ∧ u = .frz { cls := .type "list", data := .seq vs.toArray } (.lst (ns.map V.int)) := fun b u z => by
      by_cases eb : b = a
      · subst eb
        rw [upd_same] at z
        cases z
        exact ⟨rfl, rfl⟩
      · rw [upd_ne eb] at z
        cases z
    refine one (upd (fun _ => none) a (.frz { cls := .type "list", data := .seq vs.toArray } (.lst (ns.map V.int)))) (fun b => ?_) (.inl (.inr ⟨_, upd_same⟩)) (fun b u z => ?_) fun b z => ?_
    · by_cases eb : b = a
      · subst eb
        exact .inr ⟨_, _, upd_same⟩
      · exact .inl (upd_ne eb)
    · obtain ⟨rfl, rfl⟩ := track b u z
      exact ⟨ha, by rw [List.length_map]; exact Nat.le_trans few small, vs, _, vals, ha⟩
    · obtain ⟨u, hu⟩ := Option.ne_none_iff_exists'.mp z
      exact ⟨(track b u hu).1, hk⟩
end NC
set_option Elab.async false
set_option linter.all false
set_option maxRecDepth 100000
set_option maxHeartbeats 1000000
namespace NC
open PySem PySem.Spec PyProof.Rows L2
open Evl (Ex)
section
variable {X : Cx} {e tg iter elt : Expr} {es ifs : List Expr} {x y : Str} {p pos spos py : Pos} {ta te : TD} {tl : TLs} {T id : String} {r : RDs} {i : Nat} {t : Tg} {ts : TSr} {tt : TB} {scope : Scope} {own : List (Str × Nat)}
theorem de_B (hc : CallR X (.builtin id) (ls X.K G r)) (hm : X.mg x = none) (hv : bootBuiltins x = some (.builtin id)) (ha : PA X (e :: es) (tA X.K G tl)) (hg : Gl X x := by rfl) (hn : x ≠ "__name__" := by decide) (hdb : (x == ("__debug__" : Str)) = false := by decide)
    (he : starEach (e :: es) X.env = (false, eval e X.env) :: starEach es X.env := by rfl) (hpl : (backTo pos (starEach es X.env)).any (·.1) = false := by rfl) : PE X (.Call (.Name x p) (e :: es) [] pos) (tE X.K G (eB r tl)) :=
  (pe_callB hc hg hm hv ha hn hdb he hpl).imp fun _ _ _ h => b_lift h
theorem de_Ty (hc : CallR X (.type T) (ls X.K G r)) (hm : X.mg x = none) (hv : bootBuiltins x = some (.type T)) (ha : PA X (e :: es) (tA X.K G tl)) (hg : Gl X x := by rfl) (hn : x ≠ "__name__" := by decide) (hdb : (x == ("__debug__" : Str)) = false := by decide)
    (he : starEach (e :: es) X.env = (false, eval e X.env) :: starEach es X.env := by rfl) (hpl : (backTo pos (starEach es X.env)).any (·.1) = false := by rfl) : PE X (.Call (.Name x p) (e :: es) [] pos) (tE X.K G (eB r tl)) :=
  (pe_callTy hc hg hm hv ha hn hdb he hpl).imp fun _ _ _ h => b_lift h
theorem pe_T (hm : X.mg x = none) (hv : bootBuiltins x = some (.type T)) (hg : Gl X x := by rfl) (hn : x ≠ "__name__" := by decide) (hdb : (x == ("__debug__" : Str)) = false := by decide) : PE X (.Name x p) (tC (.ty T)) := pe_bltn hg hm hv rfl hn hdb
theorem dg_nm (hN : X.N.Nodup) (hi : X.N[i]? = some x) (hx : Loc X.env.scope x) (hf : X.fn x = true ∨ X.env.scope.names.lookup x = some .local) : PG X (.Name x pos) (toG X.K (.nm i)) := by
  unfold toG
  exact pg_name hN hi hx hf
theorem dgs_nil : PGs X [] (toGs X.K []) := by
  unfold toGs
  exact pgs_nil
theorem dgs_cons {tgs : List Tg} (h1 : PG X e (toG X.K t)) (h2 : PGs X es (toGs X.K tgs)) (hs : (assignEach (e :: es) X.env).map (·.2) = assign e X.env :: (assignEach es X.env).map (·.2) := by rfl) : PGs X (e :: es) (toGs X.K (t :: tgs)) := by
  unfold toGs
  exact pgs_cons h1 h2 hs
theorem dg_tp {k : Nat} {tgs : List Tg} (hc : X.calm = true) (h : PGs X es (toGs X.K tgs)) (hn : (assignEach es X.env).length = tgs.length := by rfl) (hst : (assignEach es X.env).findIdx? (·.1) = none := by rfl) : PG X (.Tuple es k pos) (toG X.K (.tp tgs)) := by
  unfold toG
  exact pg_tup hc h hn hst
theorem ds_set (hN : X.N.Nodup) (hi : X.N[i]? = some x) (hx : Loc X.env.scope x) (he : PE X e (tE X.K G ta)) (hs : swapsWith e (some (.Name x py)) pos.line X.env = pure false := by rfl) (hf : X.fn x = true ∨ X.env.scope.names.lookup x = some .local := by first | exact .inl rfl | exact .inr rfl) :
    PS X (.Assign [.Name x py] e pos) (tS X.K G (sAsg (.nm i) ta)) := ds_asg (by
  unfold toG
  exact ps_set hN hi hx he hs hf)
theorem lcS {i : Nat} {te' : TE} {st : Stmt} (h : PS X st (tAsg te' (gName i))) (l : ∀ σ H Q, tE X.K G ta σ H Q → te' σ H Q) : PS X st (tS X.K G (sAsg (.nm i) ta)) := ds_asgOf (by
  unfold toG
  exact h) l
end
section
variable {X : Cx} {k n m : Nat} {f : Addr} {fd : FuncData} {ps ks : List Str} {r : RDs} {x : Str} {p pos : Pos} {e : Expr} {es : List Expr} {kws : List Keyword} {perm : List Nat} {tl tk' : TLs}
end
abbrev rNeg : RD1 := fun x S Q => ∃ i, x = .int i ∧ Q (.int (-i)) S
theorem bt_int : bootBuiltins "int" = some (.type "int") := by decide +kernel
theorem bt_bool : bootBuiltins "bool" = some (.type "bool") := by decide +kernel
theorem bt_list : bootBuiltins "list" = some (.type "list") := by decide +kernel
theorem bt_tuple : bootBuiltins "tuple" = some (.type "tuple") := by decide +kernel
theorem bt_set : bootBuiltins "set" = some (.type "set") := by decide +kernel
theorem bt_abs : bootBuiltins "abs" = some (.builtin "abs") := by decide +kernel
theorem bt_repr : bootBuiltins "repr" = some (.builtin "repr") := by decide +kernel
theorem bt_all : bootBuiltins "all" = some (.builtin "all") := by decide +kernel
theorem bt_any : bootBuiltins "any" = some (.builtin "any") := by decide +kernel
theorem bt_isinstance : bootBuiltins "isinstance" = some (.builtin "isinstance") := by decide +kernel
theorem _root_.L2.Room.u65 {k : Nat} {A : Around} (r : Room k A) : A.units + 65 < cLine := by
  have := r.un
  omega
end NC
set_option Elab.async false
set_option linter.all false
set_option maxRecDepth 100000
set_option maxHeartbeats 1000000
namespace NC
open PySem PySem.Spec PyProof.Rows L2
theorem cut {su sv : TSd} {N : DN} {ρ : Rho} {S : Store} (P : Rho → Store → Prop) (h : ∀ N' : DN, N'.rt = N.rt → (∀ ρ' S', P ρ' S' → N'.nx ρ' S') → su N' ρ S) (k : ∀ ρ' S', P ρ' S' → sv N ρ' S') : sSeq su sv N ρ S := h _ rfl k
section
variable {ρ : Rho} {S : Store} {Q : QD} {N : DN} {ta tb tc : TD} {tt tu : TB} {tl tk : TLs} {su sv : TSd} {r r' : RD2} {r1 : RD1} {rs : RDs} {rm : RDm} {QB : Bool → Store → Prop} {QL : List D → Store → Prop} {i j n m : Nat} {d : D} {t : Tg} {T : String} {pm : List Nat} {ts : TSr} {te : TD} {vs : List Nat} {lo hi : TOd} {xs : List D} {QO : Option Int → Store → Prop} {QI : List D → (Store → Prop) → Store → Prop}
theorem ap_runD : runD n su xs S Q = su { nx := fun _ S' => Q .non S', rt := Q } (startD n xs) S := rfl
theorem ap_sSeq : sSeq su sv N ρ S = su { N with nx := sv N } ρ S := rfl
theorem ap_sIf : sIf tt su sv N ρ S = tt ρ S fun c S1 => if c = true then su N ρ S1 else sv N ρ S1 := rfl
theorem ap_sNil : sNil N ρ S = N.nx ρ S := rfl
theorem ap_sRet : sRet ta N ρ S = ta ρ S N.rt := rfl
theorem ap_sAsg : sAsg t ta N ρ S = ta ρ S fun d S1 => ∃ ρ', bindT t d ρ = some ρ' ∧ N.nx ρ' S1 := rfl
theorem ap_sDrop : sDrop ta N ρ S = ta ρ S fun _ S1 => N.nx ρ S1 := rfl
theorem ap_sPut : sPut tb tc ta N ρ S = ta ρ S fun d S1 => tb ρ S1 fun o S2 => tc ρ S2 fun k S3 => ∃ n i ds j, o = .ref n ∧ k = .int i ∧ S3[n]? = some (some (.lst ds)) ∧ ixN ds.length i = some j ∧ N.nx ρ (S3.set n (some (.lst (ds.set j d)))) := rfl
theorem ap_sPar : sPar i j tl N ρ S = tl ρ S fun ds S1 => ∃ d e, ds = [d, e] ∧ N.nx ((ρ.set i (some d)).set j (some e)) S1 := rfl
theorem ap_nm : bindT (.nm i) d ρ = some (ρ.set i (some d)) := by unfold bindT; rfl
theorem ap_eVar : eVar i ρ S Q = ∃ d, ρ[i]? = some (some d) ∧ Q d S := rfl
theorem ap_eC : eC d ρ S Q = Q d S := rfl
theorem ap_eOp : eOp r ta tb ρ S Q = ta ρ S fun x S1 => tb ρ S1 fun y S2 => r x y S2 Q := rfl
theorem ap_eChain : eChain r r' ta tb tc ρ S Q = ta ρ S fun x S1 => tb ρ S1 fun y S2 => r x y S2 fun z S3 => ∃ k, z = .bl k ∧ if k = true then tc ρ S3 fun w S4 => r' y w S4 Q else Q (.bl false) S3 := rfl
theorem ap_eB : eB rs tl ρ S Q = tl ρ S fun xs S1 => rs xs S1 Q := rfl
theorem ap_eUn : eUn r1 ta ρ S Q = ta ρ S fun x S1 => r1 x S1 Q := rfl
theorem ap_eTup : eTup tl ρ S Q = tl ρ S fun xs S1 => xs.length ≤ sizeLine ∧ Q (.tup xs) S1 := rfl
theorem ap_eLst : eLst tl ρ S Q = tl ρ S fun xs S1 => xs.length ≤ sizeLine ∧ Q (.lst xs) S1 := rfl
theorem ap_eLstM : eLstM tl ρ S Q = tl ρ S fun xs S1 => xs.length ≤ sizeLine ∧ Q (.ref S1.length) (S1 ++ [some (.lst xs)]) := rfl
theorem ap_eAnd : eAnd ta tb ρ S Q = ta ρ S fun x S1 => ∃ c, x = .bl c ∧ if c = true then tb ρ S1 Q else Q (.bl false) S1 := rfl
theorem ap_eOr : eOr ta tb ρ S Q = ta ρ S fun x S1 => ∃ c, x = .bl c ∧ if c = true then Q (.bl true) S1 else tb ρ S1 Q := rfl
theorem ap_eNot : eNot ta ρ S Q = ta ρ S fun x S1 => ∃ c, x = .bl c ∧ Q (.bl (!c)) S1 := rfl
theorem ap_eIf : eIf tt ta tb ρ S Q = tt ρ S fun c S1 => if c = true then ta ρ S1 Q else tb ρ S1 Q := rfl
theorem ap_bOf : bOf ta ρ S QB = ta ρ S fun x S1 => ∃ c, x = .bl c ∧ QB c S1 := rfl
theorem ap_bAnd : bAnd tt tu ρ S QB = tt ρ S fun c S1 => if c = true then tu ρ S1 QB else QB false S1 := rfl
theorem ap_bOr : bOr tt tu ρ S QB = tt ρ S fun c S1 => if c = true then QB true S1 else tu ρ S1 QB := rfl
theorem ap_bNot : bNot tt ρ S QB = tt ρ S fun c S1 => QB (!c) S1 := rfl
theorem ap_bYes : bYes ρ S QB = QB true S := rfl
theorem ap_aNil : aNil ρ S QL = QL [] S := rfl
theorem ap_aCons : aCons ta tl ρ S QL = ta ρ S fun x S1 => tl ρ S1 fun xs S2 => QL (x :: xs) S2 := rfl
theorem ap_eCall : eCall rs tl ρ S Q = tl ρ S fun xs S1 => rs xs S1 Q := rfl
theorem ap_eCallKw : eCallKw rs n m pm tl tk ρ S Q = tl ρ S fun xs S1 => tk ρ S1 fun ys S2 => xs.length = n ∧ ys.length = m ∧ rs (pick pm (xs ++ ys) .non) S2 Q := rfl
theorem ap_eCut : eCut ta lo hi ρ S Q = ta ρ S fun x S1 => lo ρ S1 fun l S2 => hi ρ S2 fun u S3 => rCut x l u S3 Q := rfl
theorem ap_oNone : oNone ρ S QO = QO none S := rfl
theorem ap_oSome : oSome ta ρ S QO = ta ρ S fun x S1 => ∃ i, x = .int i ∧ QO (some i) S1 := rfl
theorem ap_eM : eM T rm ta tl ρ S Q = ta ρ S fun x S1 => tyM T (drf S1 x) ∧ tl ρ S1 fun xs S2 => rm x xs S2 Q := rfl
theorem ap_sSq : sSq ta ρ S QI = ta ρ S fun x S1 => ∃ xs, seqOf (drf S1 x) = some xs ∧ QI xs (fun S' => drf S' x = drf S1 x) S1 := rfl
theorem ap_sRange1 : sRange1 tl ρ S QI = tl ρ S fun xs S1 => ∃ n : Int, xs = [.int n] ∧ -(2 ^ 62) ≤ n ∧ n < 2 ^ 62 ∧ QI (rangeD 0 n) (fun _ => True) S1 := rfl
theorem ap_sRange2 : sRange2 tl ρ S QI = tl ρ S fun xs S1 => ∃ m n : Int, xs = [.int m, .int n] ∧ (-(2 ^ 62) ≤ m ∧ m < 2 ^ 62 ∧ -(2 ^ 62) ≤ n ∧ n < 2 ^ 62) ∧ QI (rangeD m n) (fun _ => True) S1 := rfl
theorem ap_sEnum : sEnum ta ρ S QI = aCons ta aNil ρ S fun ds S1 => ∃ d xs, ds = [d] ∧ drf S1 d = .lst xs ∧ QI (enumD xs) (fun S' => drf S' d = drf S1 d) S1 := rfl
theorem ap_eIsi : eIsi T ta ρ S Q = ta ρ S fun x S1 => ∃ b, isiD (drf S1 x) T = some b ∧ Q (.bl b) S1 := rfl
def Lc1 (t : Tg) (tt : TB) (te : TD) (vs : List Nat) (ρ : Rho) (items : List D) (stays : Store → Prop) (S1 : Store) (R : List D → Store → Prop) : Prop := ∃ I : Nat → List D → Store → Prop, I 0 [] S1 ∧ (∀ i acc S', I i acc S' → stays S') ∧ items.length ≤ sizeLine ∧
  (∀ i d acc S', items[i]? = some d → I i acc S' → ∃ ρ2, bindT t d (wipeD ρ vs) = some ρ2 ∧ tt ρ2 S' fun b S2 => if b = true then te ρ2 S2 fun y S3 => I (i + 1) (acc ++ [y]) S3 else I (i + 1) acc S2) ∧ ∀ acc S', I items.length acc S' → R acc S'
theorem ap_eLc : eLc ts t tt te vs ρ S Q = ts ρ S fun items stays S1 => Lc1 t tt te vs ρ items stays S1 fun acc S' => Q (.lst acc) S' := rfl
theorem ap_eLcM : eLcM ts t tt te vs ρ S Q = ts ρ S fun items stays S1 => Lc1 t tt te vs ρ items stays S1 fun acc S' => Q (.ref S'.length) (S' ++ [some (.lst acc)]) := rfl
def For1 (t : Tg) (su : TSd) (N : DN) (ρ : Rho) (items : List D) (stays : Store → Prop) (S1 : Store) : Prop := ∃ I : Nat → Rho → Store → Prop, I 0 ρ S1 ∧ (∀ i ρ' S', I i ρ' S' → stays S') ∧
  (∀ i d ρ' S', items[i]? = some d → I i ρ' S' → ∃ ρ'', bindT t d ρ' = some ρ'' ∧ su { N with nx := I (i + 1), ct := I (i + 1), bk := N.nx } ρ'' S') ∧ ∀ ρ' S', I items.length ρ' S' → N.nx ρ' S'
theorem ap_sFor : sFor ts t su N ρ S = ts ρ S fun items stays S1 => For1 t su N ρ items stays S1 := rfl
end
def jar (cells : List Int) (at_ rest : Int) : SO := .lst [.lst (cells.map .int), .int at_, .int rest]
def Urn (k : Nat) (o : SO) : Prop := ∃ (cells : List Int) (at_ rest : Int), o = jar cells at_ rest ∧ 0 ≤ at_ ∧ at_ ≤ k ∧ 0 ≤ rest ∧ cells.length ≤ 63
theorem Urn.mono {k j : Nat} {o : SO} (h : Urn k o) (l : k ≤ j) : Urn j o := by
  obtain ⟨c, a, r, e, h1, h2, h3, h4⟩ := h
  exact ⟨c, a, r, e, h1, by omega, h3, h4⟩
def rDraw : RDs := fun xs S Q => ∃ (k : Nat) (o : SO) (T : Store) (many : Int), xs = [.ref 0, .int many] ∧ S = some o :: T ∧ Urn k o ∧ k < 1000000 ∧ 0 < many ∧ many.natAbs.log2 < 9000 ∧
  ∀ (o' : SO) (n : Int), Urn (k + 1) o' → 0 ≤ n → n < many → Q (.int n) (some o' :: T)
theorem rDraw_len (xs : List D) (S : Store) (Q : QD) (h : rDraw xs S Q) : xs.length = 2 := by
  obtain ⟨_, _, _, _, rfl, _⟩ := h
  rfl
def drawB (c1 c2 m1 c3 m2 c4 m3 : Int) : TSd := (sSeq (sIf (bOf (eOp rGt (eOp rIx2 (eVar 0) (eC (.int 2))) (eC (.int 0))))
    (sSeq (sAsg (.nm 5) (eB rInt1 (aCons (eOp rIx2 (eVar 0) (eC (.int 2))) aNil)))
    (sSeq (sPut (eVar 0) (eC (.int 2)) (eOp rDiv (eVar 5) (eVar 1)))
    (sRet (eOp rMod (eB rInt1 (aCons (eVar 5) aNil)) (eVar 1)))))
    sNil)
    (sSeq (sAsg (.nm 2) (eOp rIx2 (eVar 0) (eC (.int 1))))
    (sSeq (sPut (eVar 0) (eC (.int 1)) (eOp rAdd (eVar 2) (eC (.int 1))))
    (sSeq (sAsg (.nm 3) (eOp rAdd (eOp rMulI (eC (.int c1)) (eVar 2)) (eC (.int c2))))
    (sSeq (sIf (bOf (eOp rNe3 (eOp rIx2 (eVar 0) (eC (.int 0))) (eLst aNil)))
    (sAsg (.nm 3) (eOp rIx2 (eOp rIx2 (eVar 0) (eC (.int 0))) (eOp rMod (eB rInt1 (aCons (eVar 2) aNil)) (eB rLen (aCons (eOp rIx2 (eVar 0) (eC (.int 0))) aNil)))))
    sNil)
    (sSeq (sIf (bAnd (bOf (eOp rLt (eVar 2) (eB rLen (aCons (eOp rIx2 (eVar 0) (eC (.int 0))) aNil)))) (bOf (eOp rGe (eB rAbs (aCons (eVar 3) aNil)) (eOp rPow (eC (.int 10)) (eC (.int 18))))))
    (sSeq (sAsg (.nm 5) (eOp rAdd (eOp rMulI (eC (.int 2)) (eOp rSub (eB rAbs (aCons (eVar 3) aNil)) (eOp rPow (eC (.int 10)) (eC (.int 18))))) (eB rInt1 (aCons (eOp rLt (eVar 3) (eC (.int 0))) aNil))))
    (sSeq (sPut (eVar 0) (eC (.int 2)) (eOp rDiv (eB rInt1 (aCons (eVar 5) aNil)) (eVar 1)))
    (sRet (eOp rMod (eB rInt1 (aCons (eVar 5) aNil)) (eVar 1)))))
    sNil)
    (sSeq (sAsg (.nm 4) (eOp rMod (eB rInt1 (aCons (eOp rPow (eOp rAdd (eOp rAdd (eOp rMod (eB rInt1 (aCons (eVar 3) aNil)) (eC (.int m1))) (eOp rMulI (eC (.int c3)) (eVar 2))) (eC (.int c2))) (eC (.int 5))) aNil)) (eC (.int m2))))
    (sSeq (sAsg (.nm 4) (eOp rMod (eB rInt1 (aCons (eOp rPow (eOp rAdd (eOp rAdd (eOp rMulI (eVar 4) (eOp rAdd (eOp rMulI (eC (.int 2)) (eVar 2)) (eC (.int c4)))) (eOp rMulI (eOp rMulI (eC (.int c1)) (eVar 2)) (eVar 2))) (eC (.int c3))) (eC (.int 3))) aNil)) (eC (.int m3))))
    (sRet (eOp rMod (eB rInt1 (aCons (eOp rDiv (eVar 4) (eC (.int 64))) aNil)) (eVar 1)))))))))))
def small17 (c : Int) : Bool := decide (0 ≤ c) && decide (c < 262144)
def small31 (c : Int) : Bool := decide (0 < c) && decide (c < 2147483648)
theorem drf_jar {cells : List Int} {a r : Int} {T : Store} : drf (some (jar cells a r) :: T) (.ref 0) = .lst [.lst (cells.map .int), .int a, .int r] := rfl
theorem ix_jar {cells : List Int} {a r : Int} {T : Store} {Q : QD} {i : Nat} {d : D} (h : ([.lst (cells.map .int), .int a, .int r] : List D)[i]? = some d) (q : Q d (some (jar cells a r) :: T)) : rIx2 (.ref 0) (.int (i : Int)) (some (jar cells a r) :: T) Q :=
  ⟨_, _, d, by rw [drf_jar]; rfl, rfl, atI_nat h, q⟩
theorem ne_nil {x : D} {xs : List D} {S : Store} {Q : QD} (h : drf S x = .lst xs) (q : Q (.bl (!xs.isEmpty)) S) : rNe3 x (.lst []) S Q := by
  cases xs with
  | nil => exact ⟨true, by rw [h]; exact .of (.data (x := .lst []) (y := .lst []) rfl rfl), q⟩
  | cons y ys => exact ⟨false, by rw [h]; exact .of (.len (by simp)), q⟩
theorem len_seq {x : D} {xs : List D} {S : Store} {Q : QD} (h : seqOf (drf S x) = some xs) (q : Q (.int xs.length) S) : rLen [x] S Q := by
  unfold rLen
  cases hd : drf S x with
  | str z => rw [hd] at h; cases h
  | _ =>
    simp only [hd]
    exact ⟨xs, by rw [hd] at h; exact h, q⟩
theorem int2 {P : Int → Int → Prop} {g : Int → Int → D} {i j : Int} {S : Store} {Q : QD} (p : P i j) (q : Q (g i j) S) : r2I P g (.int i) (.int j) S Q := ⟨i, j, rfl, rfl, p, q⟩
theorem add_int {i j : Int} {S : Store} {Q : QD} (q : Q (.int (i + j)) S) : rAdd (.int i) (.int j) S Q := q
theorem ix_of {x d : D} {xs : List D} {i : Nat} {S : Store} {Q : QD} (h : seqOf (drf S x) = some xs) (e : xs[i]? = some d) (q : Q d S) : rIx2 x (.int (i : Int)) S Q := ⟨_, _, d, h, rfl, atI_nat e, q⟩
theorem ix_at {x d : D} {xs : List D} {i : Int} {S : Store} {Q : QD} (h : seqOf (drf S x) = some xs) (h0 : 0 ≤ i) (e : xs[i.toNat]? = some d) (q : Q d S) : rIx2 x (.int i) S Q := by
  have := ix_of (Q := Q) h e q
  rwa [Int.toNat_of_nonneg h0] at this
theorem log_of {m : Int} (h0 : 0 < m) (h : m ≤ 10 ^ 100) : m.natAbs.log2 < 9000 := by
  have h2 : m.natAbs ≠ 0 := by omega
  have h1 : m.natAbs < 2 ^ 400 := Nat.lt_of_le_of_lt (show m.natAbs ≤ 10 ^ 100 by omega) (by decide +kernel)
  have h3 := (Nat.log2_lt h2 (k := 400)).mpr h1
  omega
set_option maxHeartbeats 4000000 in
theorem draw_run {c1 c2 m1 c3 m2 c4 m3 : Int} (hc : (small17 c1 && small17 c2 && small31 m1 && small17 c3 && small31 m2 && small17 c4 && small31 m3) = true) (xs : List D) (S : Store) (Q : QD) (h : rDraw xs S Q) : runD 6 (drawB c1 c2 m1 c3 m2 c4 m3) xs S Q := by
  obtain ⟨k, o, T, many, rfl, rfl, ⟨cells, a, r, rfl, ha, hak, hr, hcl⟩, hk, hm0, hm1, q⟩ := h
  have hlog := hm1
  simp only [small17, small31, Bool.and_eq_true, decide_eq_true_eq] at hc
  obtain ⟨⟨⟨⟨⟨⟨⟨c10, c11⟩, c20, c21⟩, m10, m11⟩, c30, c31⟩, m20, m21⟩, c40, c41⟩, m30, m31⟩ := hc
  have done : ∀ (a' r' i : Int), 0 ≤ a' → a' ≤ k + 1 → 0 ≤ r' → Q (.int (i % many)) (some (jar cells a' r') :: T) := fun a' r' i h1 h2 h3 =>
    q _ _ ⟨cells, a', r', rfl, h1, by omega, h3, hcl⟩ (Int.emod_nonneg _ (by omega)) (Int.emod_lt_of_pos _ hm0)
  have dv : ∀ i : Int, 0 ≤ i → 0 ≤ i / many := fun i h => Int.ediv_nonneg h (by omega)
  unfold drawB
  show sSeq _ _ _ _ _
  refine cut (fun ρ' S' => ρ' = startD 6 [.ref 0, .int many] ∧ S' = some (jar cells a r) :: T) (fun N' hrt hnx => ?_) (fun ρ' S' hP => ?_)
  · simp only [ap_runD, ap_sSeq, ap_sIf, ap_sNil, ap_sRet, ap_sAsg, ap_sDrop, ap_sPut, ap_sPar, ap_nm, ap_eVar, ap_eC, ap_eOp, ap_eChain, ap_eB, ap_eUn, ap_eTup, ap_eLst, ap_eLstM, ap_eAnd, ap_eOr, ap_eNot, ap_eIf, ap_bOf, ap_bAnd, ap_bOr, ap_bNot, ap_bYes, ap_aNil, ap_aCons, ap_eCall, ap_eCallKw, ap_eCut, ap_oNone, ap_oSome, ap_eM, ap_sSq, ap_sRange1, ap_sRange2, ap_sEnum, ap_eIsi, ap_eLc, ap_eLcM, ap_sFor, startD, List.map_cons, List.map_nil, List.length_cons, List.length_nil, List.getElem?_cons_zero, List.getElem?_cons_succ, List.set_cons_zero, List.set_cons_succ, List.replicate, List.cons_append, List.nil_append, Option.some.injEq, exists_eq_left', Option.bind_some, Nat.sub_self, Nat.reduceAdd, Nat.reduceSub, Nat.reduceLeDiff]
    refine ix_jar (i := 2) rfl (int2 trivial ⟨_, rfl, ?_⟩)
    by_cases hr0 : 0 < r
    · simp only [hr0, decide_true, if_true]
      refine ix_jar (i := 2) rfl ?_
      simp only [ap_runD, ap_sSeq, ap_sIf, ap_sNil, ap_sRet, ap_sAsg, ap_sDrop, ap_sPut, ap_sPar, ap_nm, ap_eVar, ap_eC, ap_eOp, ap_eChain, ap_eB, ap_eUn, ap_eTup, ap_eLst, ap_eLstM, ap_eAnd, ap_eOr, ap_eNot, ap_eIf, ap_bOf, ap_bAnd, ap_bOr, ap_bNot, ap_bYes, ap_aNil, ap_aCons, ap_eCall, ap_eCallKw, ap_eCut, ap_oNone, ap_oSome, ap_eM, ap_sSq, ap_sRange1, ap_sRange2, ap_sEnum, ap_eIsi, ap_eLc, ap_eLcM, ap_sFor, startD, List.map_cons, List.map_nil, List.length_cons, List.length_nil, List.getElem?_cons_zero, List.getElem?_cons_succ, List.set_cons_zero, List.set_cons_succ, List.replicate, List.cons_append, List.nil_append, Option.some.injEq, exists_eq_left', Option.bind_some, Nat.sub_self, Nat.reduceAdd, Nat.reduceSub, Nat.reduceLeDiff, rInt1]
      refine int2 ⟨hm0, hlog⟩ ⟨0, 2, _, 2, rfl, rfl, rfl, rfl, int2 hm0 ?_⟩
      rw [hrt]
      exact done a (r / many) r ha (by omega) (dv r (by omega))
    · simp only [hr0, decide_false, Bool.false_eq_true, if_false]
      exact hnx _ _ ⟨rfl, rfl⟩
  obtain ⟨rfl, rfl⟩ := hP
  refine cut (fun ρ' S' => ρ' = [some (.ref 0), some (.int many), some (.int a), none, none, none] ∧ S' = some (jar cells a r) :: T) (fun N' hrt hnx => ?_) (fun ρ' S' hP => ?_)
  · simp only [ap_runD, ap_sSeq, ap_sIf, ap_sNil, ap_sRet, ap_sAsg, ap_sDrop, ap_sPut, ap_sPar, ap_nm, ap_eVar, ap_eC, ap_eOp, ap_eChain, ap_eB, ap_eUn, ap_eTup, ap_eLst, ap_eLstM, ap_eAnd, ap_eOr, ap_eNot, ap_eIf, ap_bOf, ap_bAnd, ap_bOr, ap_bNot, ap_bYes, ap_aNil, ap_aCons, ap_eCall, ap_eCallKw, ap_eCut, ap_oNone, ap_oSome, ap_eM, ap_sSq, ap_sRange1, ap_sRange2, ap_sEnum, ap_eIsi, ap_eLc, ap_eLcM, ap_sFor, startD, List.map_cons, List.map_nil, List.length_cons, List.length_nil, List.getElem?_cons_zero, List.getElem?_cons_succ, List.set_cons_zero, List.set_cons_succ, List.replicate, List.cons_append, List.nil_append, Option.some.injEq, exists_eq_left', Option.bind_some, Nat.sub_self, Nat.reduceAdd, Nat.reduceSub, Nat.reduceLeDiff]
    exact ix_jar (i := 1) rfl (hnx _ _ ⟨rfl, rfl⟩)
  obtain ⟨rfl, rfl⟩ := hP
  refine cut (fun ρ' S' => ρ' = [some (.ref 0), some (.int many), some (.int a), none, none, none] ∧ S' = some (jar cells (a + 1) r) :: T) (fun N' hrt hnx => ?_) (fun ρ' S' hP => ?_)
  · simp only [ap_runD, ap_sSeq, ap_sIf, ap_sNil, ap_sRet, ap_sAsg, ap_sDrop, ap_sPut, ap_sPar, ap_nm, ap_eVar, ap_eC, ap_eOp, ap_eChain, ap_eB, ap_eUn, ap_eTup, ap_eLst, ap_eLstM, ap_eAnd, ap_eOr, ap_eNot, ap_eIf, ap_bOf, ap_bAnd, ap_bOr, ap_bNot, ap_bYes, ap_aNil, ap_aCons, ap_eCall, ap_eCallKw, ap_eCut, ap_oNone, ap_oSome, ap_eM, ap_sSq, ap_sRange1, ap_sRange2, ap_sEnum, ap_eIsi, ap_eLc, ap_eLcM, ap_sFor, startD, List.map_cons, List.map_nil, List.length_cons, List.length_nil, List.getElem?_cons_zero, List.getElem?_cons_succ, List.set_cons_zero, List.set_cons_succ, List.replicate, List.cons_append, List.nil_append, Option.some.injEq, exists_eq_left', Option.bind_some, Nat.sub_self, Nat.reduceAdd, Nat.reduceSub, Nat.reduceLeDiff]
    exact add_int ⟨0, 1, _, 1, rfl, rfl, rfl, rfl, hnx _ _ ⟨rfl, rfl⟩⟩
  obtain ⟨rfl, rfl⟩ := hP
  refine cut (fun ρ' S' => ∃ c : Int, ρ' = [some (.ref 0), some (.int many), some (.int a), some (.int c), none, none] ∧ S' = some (jar cells (a + 1) r) :: T) (fun N' hrt hnx => ?_) (fun ρ' S' hP => ?_)
  · simp only [ap_runD, ap_sSeq, ap_sIf, ap_sNil, ap_sRet, ap_sAsg, ap_sDrop, ap_sPut, ap_sPar, ap_nm, ap_eVar, ap_eC, ap_eOp, ap_eChain, ap_eB, ap_eUn, ap_eTup, ap_eLst, ap_eLstM, ap_eAnd, ap_eOr, ap_eNot, ap_eIf, ap_bOf, ap_bAnd, ap_bOr, ap_bNot, ap_bYes, ap_aNil, ap_aCons, ap_eCall, ap_eCallKw, ap_eCut, ap_oNone, ap_oSome, ap_eM, ap_sSq, ap_sRange1, ap_sRange2, ap_sEnum, ap_eIsi, ap_eLc, ap_eLcM, ap_sFor, startD, List.map_cons, List.map_nil, List.length_cons, List.length_nil, List.getElem?_cons_zero, List.getElem?_cons_succ, List.set_cons_zero, List.set_cons_succ, List.replicate, List.cons_append, List.nil_append, Option.some.injEq, exists_eq_left', Option.bind_some, Nat.sub_self, Nat.reduceAdd, Nat.reduceSub, Nat.reduceLeDiff]
    exact int2 (.inl (.inl ⟨by omega, by omega⟩)) (add_int (hnx _ _ ⟨_, rfl, rfl⟩))
  obtain ⟨c, rfl, rfl⟩ := hP
  refine cut (fun ρ' S' => ∃ c : Int, ρ' = [some (.ref 0), some (.int many), some (.int a), some (.int c), none, none] ∧ S' = some (jar cells (a + 1) r) :: T) (fun N' hrt hnx => ?_) (fun ρ' S' hP => ?_)
  · simp only [ap_runD, ap_sSeq, ap_sIf, ap_sNil, ap_sRet, ap_sAsg, ap_sDrop, ap_sPut, ap_sPar, ap_nm, ap_eVar, ap_eC, ap_eOp, ap_eChain, ap_eB, ap_eUn, ap_eTup, ap_eLst, ap_eLstM, ap_eAnd, ap_eOr, ap_eNot, ap_eIf, ap_bOf, ap_bAnd, ap_bOr, ap_bNot, ap_bYes, ap_aNil, ap_aCons, ap_eCall, ap_eCallKw, ap_eCut, ap_oNone, ap_oSome, ap_eM, ap_sSq, ap_sRange1, ap_sRange2, ap_sEnum, ap_eIsi, ap_eLc, ap_eLcM, ap_sFor, startD, List.map_cons, List.map_nil, List.length_cons, List.length_nil, List.getElem?_cons_zero, List.getElem?_cons_succ, List.set_cons_zero, List.set_cons_succ, List.replicate, List.cons_append, List.nil_append, Option.some.injEq, exists_eq_left', Option.bind_some, Nat.sub_self, Nat.reduceAdd, Nat.reduceSub, Nat.reduceLeDiff]
    refine ix_jar (i := 0) rfl ⟨Nat.zero_le _, ne_nil rfl ⟨_, rfl, ?_⟩⟩
    cases hcs : cells with
    | nil => exact hnx _ _ ⟨_, rfl, by rw [hcs]⟩
    | cons z zs =>
      simp only [List.map_cons, List.isEmpty_cons, Bool.not_false, if_true]
      refine ix_jar (i := 0) rfl ?_
      simp only [ap_runD, ap_sSeq, ap_sIf, ap_sNil, ap_sRet, ap_sAsg, ap_sDrop, ap_sPut, ap_sPar, ap_nm, ap_eVar, ap_eC, ap_eOp, ap_eChain, ap_eB, ap_eUn, ap_eTup, ap_eLst, ap_eLstM, ap_eAnd, ap_eOr, ap_eNot, ap_eIf, ap_bOf, ap_bAnd, ap_bOr, ap_bNot, ap_bYes, ap_aNil, ap_aCons, ap_eCall, ap_eCallKw, ap_eCut, ap_oNone, ap_oSome, ap_eM, ap_sSq, ap_sRange1, ap_sRange2, ap_sEnum, ap_eIsi, ap_eLc, ap_eLcM, ap_sFor, startD, List.map_cons, List.map_nil, List.length_cons, List.length_nil, List.getElem?_cons_zero, List.getElem?_cons_succ, List.set_cons_zero, List.set_cons_succ, List.replicate, List.cons_append, List.nil_append, Option.some.injEq, exists_eq_left', Option.bind_some, Nat.sub_self, Nat.reduceAdd, Nat.reduceSub, Nat.reduceLeDiff, rInt1]
      have hp : (0 : Int) < ((D.int z :: zs.map D.int).length : Int) := by
        simp
      refine ix_jar (i := 0) rfl (len_seq rfl (int2 hp ?_))
      have hlt := Int.emod_lt_of_pos a hp
      have hge := Int.emod_nonneg a (show ((D.int z :: zs.map D.int).length : Int) ≠ 0 by omega)
      have hl : (a % ((D.int z :: zs.map D.int).length : Int)).toNat < (z :: zs).length := by
        simp at hlt hge ⊢
        omega
      refine ix_at (d := .int ((z :: zs)[(a % ((D.int z :: zs.map D.int).length : Int)).toNat])) rfl hge ?_ (hnx _ _ ⟨_, rfl, by rw [hcs]⟩)
      show ((z :: zs).map D.int)[(a % ((D.int z :: zs.map D.int).length : Int)).toNat]? = _
      rw [List.getElem?_map, List.getElem?_eq_getElem hl]
      rfl
  obtain ⟨c, rfl, rfl⟩ := hP
  refine cut (fun ρ' S' => ρ' = [some (.ref 0), some (.int many), some (.int a), some (.int c), none, none] ∧ S' = some (jar cells (a + 1) r) :: T) (fun N' hrt hnx => ?_) (fun ρ' S' hP => ?_)
  · simp only [ap_runD, ap_sSeq, ap_sIf, ap_sNil, ap_sRet, ap_sAsg, ap_sDrop, ap_sPut, ap_sPar, ap_nm, ap_eVar, ap_eC, ap_eOp, ap_eChain, ap_eB, ap_eUn, ap_eTup, ap_eLst, ap_eLstM, ap_eAnd, ap_eOr, ap_eNot, ap_eIf, ap_bOf, ap_bAnd, ap_bOr, ap_bNot, ap_bYes, ap_aNil, ap_aCons, ap_eCall, ap_eCallKw, ap_eCut, ap_oNone, ap_oSome, ap_eM, ap_sSq, ap_sRange1, ap_sRange2, ap_sEnum, ap_eIsi, ap_eLc, ap_eLcM, ap_sFor, startD, List.map_cons, List.map_nil, List.length_cons, List.length_nil, List.getElem?_cons_zero, List.getElem?_cons_succ, List.set_cons_zero, List.set_cons_succ, List.replicate, List.cons_append, List.nil_append, Option.some.injEq, exists_eq_left', Option.bind_some, Nat.sub_self, Nat.reduceAdd, Nat.reduceSub, Nat.reduceLeDiff]
    refine ix_jar (i := 0) rfl (len_seq rfl (int2 trivial ⟨_, rfl, ?_⟩))
    by_cases h1 : a < ((cells.map D.int).length : Int)
    · simp only [h1, decide_true, if_true]
      simp only [ap_runD, ap_sSeq, ap_sIf, ap_sNil, ap_sRet, ap_sAsg, ap_sDrop, ap_sPut, ap_sPar, ap_nm, ap_eVar, ap_eC, ap_eOp, ap_eChain, ap_eB, ap_eUn, ap_eTup, ap_eLst, ap_eLstM, ap_eAnd, ap_eOr, ap_eNot, ap_eIf, ap_bOf, ap_bAnd, ap_bOr, ap_bNot, ap_bYes, ap_aNil, ap_aCons, ap_eCall, ap_eCallKw, ap_eCut, ap_oNone, ap_oSome, ap_eM, ap_sSq, ap_sRange1, ap_sRange2, ap_sEnum, ap_eIsi, ap_eLc, ap_eLcM, ap_sFor, startD, List.map_cons, List.map_nil, List.length_cons, List.length_nil, List.getElem?_cons_zero, List.getElem?_cons_succ, List.set_cons_zero, List.set_cons_succ, List.replicate, List.cons_append, List.nil_append, Option.some.injEq, exists_eq_left', Option.bind_some, Nat.sub_self, Nat.reduceAdd, Nat.reduceSub, Nat.reduceLeDiff, rAbs]
      refine int2 ⟨by decide, by decide, by decide⟩ (int2 trivial ⟨_, rfl, ?_⟩)
      by_cases h2 : (10 : Int) ^ (18 : Int).toNat ≤ (if c < 0 then -c else c)
      · simp only [h2, decide_true, if_true]
        simp only [ap_runD, ap_sSeq, ap_sIf, ap_sNil, ap_sRet, ap_sAsg, ap_sDrop, ap_sPut, ap_sPar, ap_nm, ap_eVar, ap_eC, ap_eOp, ap_eChain, ap_eB, ap_eUn, ap_eTup, ap_eLst, ap_eLstM, ap_eAnd, ap_eOr, ap_eNot, ap_eIf, ap_bOf, ap_bAnd, ap_bOr, ap_bNot, ap_bYes, ap_aNil, ap_aCons, ap_eCall, ap_eCallKw, ap_eCut, ap_oNone, ap_oSome, ap_eM, ap_sSq, ap_sRange1, ap_sRange2, ap_sEnum, ap_eIsi, ap_eLc, ap_eLcM, ap_sFor, startD, List.map_cons, List.map_nil, List.length_cons, List.length_nil, List.getElem?_cons_zero, List.getElem?_cons_succ, List.set_cons_zero, List.set_cons_succ, List.replicate, List.cons_append, List.nil_append, Option.some.injEq, exists_eq_left', Option.bind_some, Nat.sub_self, Nat.reduceAdd, Nat.reduceSub, Nat.reduceLeDiff, rInt1]
        refine int2 ⟨by decide, by decide, by decide⟩ (int2 trivial (int2 (.inl (.inl ⟨by decide, by decide⟩)) (int2 trivial (add_int ?_))))
        generalize hx : 2 * ((if c < 0 then -c else c) - (10 : Int) ^ (18 : Int).toNat) + (if decide (c < 0) = true then 1 else 0) = x
        have hx0 : 0 ≤ x := by
          rw [← hx]
          have : (0 : Int) ≤ (if decide (c < 0) = true then 1 else 0) := by split <;> decide
          omega
        refine int2 ⟨hm0, hlog⟩ ⟨0, 2, _, 2, rfl, rfl, rfl, rfl, int2 hm0 ?_⟩
        rw [hrt]
        exact done (a + 1) (x / many) x (by omega) (by omega) (dv x hx0)
      · simp only [h2, decide_false, Bool.false_eq_true, if_false]
        exact hnx _ _ ⟨rfl, rfl⟩
    · simp only [h1, decide_false, Bool.false_eq_true, if_false]
      exact hnx _ _ ⟨rfl, rfl⟩
  obtain ⟨rfl, rfl⟩ := hP
  have big : ∀ x y : Int, 0 ≤ x → 0 ≤ y → 0 ≤ x * y := fun x y => Int.mul_nonneg
  have ca : 0 ≤ c3 * a ∧ c3 * a < 262144 * 1000001 := ⟨big _ _ c30 ha, Int.lt_of_le_of_lt (Int.mul_le_mul_of_nonneg_right (by omega : c3 ≤ 262143) ha) (by omega)⟩
  have cb : 0 ≤ c1 * a ∧ c1 * a < 262144 * 1000001 := ⟨big _ _ c10 ha, Int.lt_of_le_of_lt (Int.mul_le_mul_of_nonneg_right (by omega : c1 ≤ 262143) ha) (by omega)⟩
  refine cut (fun ρ' S' => ∃ x : Int, 0 ≤ x ∧ x < m2 ∧ ρ' = [some (.ref 0), some (.int many), some (.int a), some (.int c), some (.int x), none] ∧ S' = some (jar cells (a + 1) r) :: T) (fun N' hrt hnx => ?_) (fun ρ' S' hP => ?_)
  · simp only [ap_runD, ap_sSeq, ap_sIf, ap_sNil, ap_sRet, ap_sAsg, ap_sDrop, ap_sPut, ap_sPar, ap_nm, ap_eVar, ap_eC, ap_eOp, ap_eChain, ap_eB, ap_eUn, ap_eTup, ap_eLst, ap_eLstM, ap_eAnd, ap_eOr, ap_eNot, ap_eIf, ap_bOf, ap_bAnd, ap_bOr, ap_bNot, ap_bYes, ap_aNil, ap_aCons, ap_eCall, ap_eCallKw, ap_eCut, ap_oNone, ap_oSome, ap_eM, ap_sSq, ap_sRange1, ap_sRange2, ap_sEnum, ap_eIsi, ap_eLc, ap_eLcM, ap_sFor, startD, List.map_cons, List.map_nil, List.length_cons, List.length_nil, List.getElem?_cons_zero, List.getElem?_cons_succ, List.set_cons_zero, List.set_cons_succ, List.replicate, List.cons_append, List.nil_append, Option.some.injEq, exists_eq_left', Option.bind_some, Nat.sub_self, Nat.reduceAdd, Nat.reduceSub, Nat.reduceLeDiff, rInt1]
    have e1 := Int.emod_nonneg c (show m1 ≠ 0 by omega)
    have e2 := Int.emod_lt_of_pos c m10
    refine int2 m10 (int2 (.inl (.inl ⟨by omega, by omega⟩)) (add_int (add_int (int2 ⟨by decide, by decide, by omega⟩ (int2 m20 ?_)))))
    exact hnx _ _ ⟨_, Int.emod_nonneg _ (by omega), Int.emod_lt_of_pos _ m20, rfl, rfl⟩
  obtain ⟨x, x0, x1, rfl, rfl⟩ := hP
  refine cut (fun ρ' S' => ∃ x : Int, 0 ≤ x ∧ x < m3 ∧ ρ' = [some (.ref 0), some (.int many), some (.int a), some (.int c), some (.int x), none] ∧ S' = some (jar cells (a + 1) r) :: T) (fun N' hrt hnx => ?_) (fun ρ' S' hP => ?_)
  · simp only [ap_runD, ap_sSeq, ap_sIf, ap_sNil, ap_sRet, ap_sAsg, ap_sDrop, ap_sPut, ap_sPar, ap_nm, ap_eVar, ap_eC, ap_eOp, ap_eChain, ap_eB, ap_eUn, ap_eTup, ap_eLst, ap_eLstM, ap_eAnd, ap_eOr, ap_eNot, ap_eIf, ap_bOf, ap_bAnd, ap_bOr, ap_bNot, ap_bYes, ap_aNil, ap_aCons, ap_eCall, ap_eCallKw, ap_eCut, ap_oNone, ap_oSome, ap_eM, ap_sSq, ap_sRange1, ap_sRange2, ap_sEnum, ap_eIsi, ap_eLc, ap_eLcM, ap_sFor, startD, List.map_cons, List.map_nil, List.length_cons, List.length_nil, List.getElem?_cons_zero, List.getElem?_cons_succ, List.set_cons_zero, List.set_cons_succ, List.replicate, List.cons_append, List.nil_append, Option.some.injEq, exists_eq_left', Option.bind_some, Nat.sub_self, Nat.reduceAdd, Nat.reduceSub, Nat.reduceLeDiff, rInt1]
    have f1 : 0 ≤ x * (2 * a + c4) ∧ x * (2 * a + c4) ≤ 2147483648 * 3000000 := ⟨big _ _ x0 (by omega), Int.mul_le_mul (by omega) (by omega) (by omega) (by omega)⟩
    have f2 : 0 ≤ c1 * a * a ∧ c1 * a * a ≤ 262144 * 1000001 * 1000001 := ⟨big _ _ cb.1 ha, Int.mul_le_mul (by omega) (by omega) ha (by omega)⟩
    refine int2 (.inl (.inl ⟨by omega, by omega⟩)) (add_int (int2 (.inl (.inl ⟨by omega, by omega⟩)) (int2 (.inl (.inl ⟨by omega, by omega⟩)) (int2 (.inl (.inl ⟨by omega, by omega⟩)) (add_int (add_int (int2 ⟨by decide, by decide, by omega⟩ (int2 m30 ?_))))))))
    exact hnx _ _ ⟨_, Int.emod_nonneg _ (by omega), Int.emod_lt_of_pos _ m30, rfl, rfl⟩
  obtain ⟨x, x0, x1, rfl, rfl⟩ := hP
  simp only [ap_runD, ap_sSeq, ap_sIf, ap_sNil, ap_sRet, ap_sAsg, ap_sDrop, ap_sPut, ap_sPar, ap_nm, ap_eVar, ap_eC, ap_eOp, ap_eChain, ap_eB, ap_eUn, ap_eTup, ap_eLst, ap_eLstM, ap_eAnd, ap_eOr, ap_eNot, ap_eIf, ap_bOf, ap_bAnd, ap_bOr, ap_bNot, ap_bYes, ap_aNil, ap_aCons, ap_eCall, ap_eCallKw, ap_eCut, ap_oNone, ap_oSome, ap_eM, ap_sSq, ap_sRange1, ap_sRange2, ap_sEnum, ap_eIsi, ap_eLc, ap_eLcM, ap_sFor, startD, List.map_cons, List.map_nil, List.length_cons, List.length_nil, List.getElem?_cons_zero, List.getElem?_cons_succ, List.set_cons_zero, List.set_cons_succ, List.replicate, List.cons_append, List.nil_append, Option.some.injEq, exists_eq_left', Option.bind_some, Nat.sub_self, Nat.reduceAdd, Nat.reduceSub, Nat.reduceLeDiff, rInt1]
  exact int2 ⟨by decide, by decide⟩ (int2 hm0 (done (a + 1) r (x / 64) (by omega) (by omega) hr))
theorem lc_pure {items : List D} {stays : Store → Prop} {S : Store} {t : Tg} {tt : TB} {te : TD} {vs : List Nat} {ρ : Rho} {R : List D → Store → Prop} (f : D → Option D) (hs : stays S) (hl : items.length ≤ sizeLine)
    (step : ∀ d ∈ items, ∃ ρ2, bindT t d (wipeD ρ vs) = some ρ2 ∧ ∀ (Q : QD) (Q0 : Store → Prop), (∀ y, f d = some y → Q y S) → (f d = none → Q0 S) → tt ρ2 S fun b S2 => if b = true then te ρ2 S2 Q else Q0 S2)
    (k : R (items.filterMap f) S) : Lc1 t tt te vs ρ items stays S R := by
  refine ⟨fun i acc S' => acc = (items.take i).filterMap f ∧ S' = S, ⟨rfl, rfl⟩, fun i acc S' h => h.2 ▸ hs, hl, ?_, fun acc S' h => ?_⟩
  · rintro i d acc S' hd ⟨rfl, rfl⟩
    obtain ⟨ρ2, e, q⟩ := step d (List.mem_of_getElem? hd)
    have et : items.take (i + 1) = items.take i ++ [d] := by
      rw [List.take_add_one, hd]
      rfl
    refine ⟨ρ2, e, q _ _ (fun y h => ⟨?_, rfl⟩) fun h => ⟨?_, rfl⟩⟩
    · rw [et, List.filterMap_append, List.filterMap_cons, h]
      rfl
    · rw [et, List.filterMap_append, List.filterMap_cons, h]
      simp
  · rw [h.1, h.2, List.take_length]
    exact k
theorem lc_map {items : List D} {stays : Store → Prop} {S : Store} {t : Tg} {te : TD} {vs : List Nat} {ρ : Rho} {R : List D → Store → Prop} (f : D → D) (hs : stays S) (hl : items.length ≤ sizeLine)
    (step : ∀ d ∈ items, ∃ ρ2, bindT t d (wipeD ρ vs) = some ρ2 ∧ ∀ Q : QD, Q (f d) S → te ρ2 S Q) (k : R (items.map f) S) : Lc1 t bYes te vs ρ items stays S R := by
  have e : items.filterMap (fun d => some (f d)) = items.map f := by
    rw [List.filterMap_eq_map']
  refine lc_pure (fun d => some (f d)) hs hl (fun d hd => ?_) (by rw [e]; exact k)
  obtain ⟨ρ2, e, q⟩ := step d hd
  exact ⟨ρ2, e, fun Q Q0 h1 _ => q Q (h1 _ rfl)⟩
def rUrn : RDs := fun xs S Q => ∃ ns : List Int, xs = [.ro (ns.map .int)] ∧ S = [] ∧ ns.length ≤ 63 ∧ ∀ o, Urn 0 o → Q (.ref 0) [some o]
theorem eq_nil {x : D} {xs : List D} {S : Store} {Q : QD} (h : drf S x = .lst xs) (q : Q (.bl xs.isEmpty) S) : rEq3 x (.lst []) S Q := by
  cases xs with
  | nil => exact ⟨true, by rw [h]; exact .of (.data (x := .lst []) (y := .lst []) rfl rfl), q⟩
  | cons y ys => exact ⟨false, by rw [h]; exact .of (.len (by simp)), q⟩
theorem eq_int {i j : Int} {S : Store} {Q : QD} (q : Q (.bl (decide (i = j))) S) : rEq3 (.int i) (.int j) S Q := by
  refine ⟨_, .of (.data (x := .int i) (y := .int j) rfl rfl), ?_⟩
  have e : eqd (.int i) (.int j) = decide (i = j) := by
    show (i == j) = _
    rw [Bool.eq_iff_iff]
    simp
  rw [e]
  exact q
theorem ne_str {x y : Str} {S : Store} {Q : QD} (q : Q (.bl (!decide (x = y))) S) : rNe3 (.str x) (.str y) S Q := ⟨_, .txt, q⟩
theorem drf_shw {n : Nat} {d : D} {S : Store} (h : shw n d = true) : drf S d = d := by
  cases d with
  | ref m => cases n <;> simp [shw] at h
  | _ => rfl
theorem ty_shw {n : Nat} {d : D} (h : shw n d = true) : ∃ t, tyD d = some t := by
  cases d with
  | ref m => cases n <;> simp [shw] at h
  | kt m => cases n <;> simp [shw] at h
  | obj m => cases n <;> simp [shw] at h
  | fnc m => cases n <;> simp [shw] at h
  | _ => exact ⟨_, rfl⟩
def isNum : D → Bool
  | .int _ => true
  | _ => false
def isTr : D → Bool
  | .bl _ => true
  | _ => false
def isLst : D → Bool
  | .lst _ => true
  | .ro _ => true
  | _ => false
def isTup : D → Bool
  | .tup _ => true
  | .kt _ => true
  | _ => false
theorem kit_int : ∀ t ∈ ["NoneType", "bool", "int", "str", "list", "tuple", "dict"], kitB t "int" = some (t == "int" || t == "bool") := by decide +kernel
theorem kit_bool : ∀ t ∈ ["NoneType", "bool", "int", "str", "list", "tuple", "dict"], kitB t "bool" = some (t == "bool") := by decide +kernel
theorem kit_list : ∀ t ∈ ["NoneType", "bool", "int", "str", "list", "tuple", "dict"], kitB t "list" = some (t == "list") := by decide +kernel
theorem kit_tuple : ∀ t ∈ ["NoneType", "bool", "int", "str", "list", "tuple", "dict"], kitB t "tuple" = some (t == "tuple") := by decide +kernel
theorem isi_int {d : D} {t : String} (h : tyD d = some t) : isiD d "int" = some (isNum d || isTr d) := by
  cases d <;> cases h
  · exact kit_int "NoneType" (by simp)
  · exact kit_int "bool" (by simp)
  · exact kit_int "int" (by simp)
  · exact kit_int "str" (by simp)
  · exact kit_int "list" (by simp)
  · exact kit_int "tuple" (by simp)
  · exact kit_int "list" (by simp)
  · exact kit_int "dict" (by simp)
  · exact kit_int "dict" (by simp)
theorem isi_bool {d : D} {t : String} (h : tyD d = some t) : isiD d "bool" = some (isTr d) := by
  cases d <;> cases h
  · exact kit_bool "NoneType" (by simp)
  · exact kit_bool "bool" (by simp)
  · exact kit_bool "int" (by simp)
  · exact kit_bool "str" (by simp)
  · exact kit_bool "list" (by simp)
  · exact kit_bool "tuple" (by simp)
  · exact kit_bool "list" (by simp)
  · exact kit_bool "dict" (by simp)
  · exact kit_bool "dict" (by simp)
theorem isi_list {d : D} {t : String} (h : tyD d = some t) : isiD d "list" = some (isLst d) := by
  cases d <;> cases h
  · exact kit_list "NoneType" (by simp)
  · exact kit_list "bool" (by simp)
  · exact kit_list "int" (by simp)
  · exact kit_list "str" (by simp)
  · exact kit_list "list" (by simp)
  · exact kit_list "tuple" (by simp)
  · exact kit_list "list" (by simp)
  · exact kit_list "dict" (by simp)
  · exact kit_list "dict" (by simp)
theorem isi_tuple {d : D} {t : String} (h : tyD d = some t) : isiD d "tuple" = some (isTup d) := by
  cases d <;> cases h
  · exact kit_tuple "NoneType" (by simp)
  · exact kit_tuple "bool" (by simp)
  · exact kit_tuple "int" (by simp)
  · exact kit_tuple "str" (by simp)
  · exact kit_tuple "list" (by simp)
  · exact kit_tuple "tuple" (by simp)
  · exact kit_tuple "list" (by simp)
  · exact kit_tuple "dict" (by simp)
  · exact kit_tuple "dict" (by simp)
def tyV : D → Option String
  | .obj _ _ => some "object"
  | d => tyD d
theorem tyV_of {d : D} {t : String} (h : tyD d = some t) : tyV d = some t := by
  cases d with
  | obj => cases h
  | _ => exact h
theorem tyV_or {d : D} {t : String} (h : tyV d = some t) : tyD d = some t ∨ ∃ C fs, d = .obj C fs := by
  cases d with
  | obj C fs => exact .inr ⟨C, fs, rfl⟩
  | _ => exact .inl h
theorem isiV_int {d : D} {t : String} (h : tyV d = some t) : isiD d "int" = some (isNum d || isTr d) := by
  rcases tyV_or h with h | ⟨C, fs, rfl⟩
  · exact isi_int h
  · rfl
theorem isiV_bool {d : D} {t : String} (h : tyV d = some t) : isiD d "bool" = some (isTr d) := by
  rcases tyV_or h with h | ⟨C, fs, rfl⟩
  · exact isi_bool h
  · rfl
theorem isiV_list {d : D} {t : String} (h : tyV d = some t) : isiD d "list" = some (isLst d) := by
  rcases tyV_or h with h | ⟨C, fs, rfl⟩
  · exact isi_list h
  · rfl
theorem isiV_tuple {d : D} {t : String} (h : tyV d = some t) : isiD d "tuple" = some (isTup d) := by
  rcases tyV_or h with h | ⟨C, fs, rfl⟩
  · exact isi_tuple h
  · rfl
def widKey : Key → Nat
  | .inl i => (toString i).length
  | .inr x => (reprText x).length
def widKeys : List Key → Nat
  | [] => 0
  | k :: ks => widKey k + 2 + widKeys ks
mutual
def wid : D → Nat
  | .non => 4
  | .bl _ => 5
  | .int i => (toString i).length
  | .str x => (reprText x).length
  | .lst xs => wids xs + 3
  | .tup xs => wids xs + 3
  | .ro xs => wids xs + 3
  | .kt xs => wids xs + 3
  | .dic kvs => widk kvs + 3
  | .dit kvs => widt kvs + 3
  | .obj _ _ => 4
  | .fnc _ => 4
  | .ref _ => 4
def wids : List D → Nat
  | [] => 0
  | d :: ds => wid d + 2 + wids ds
def widk : List (Key × D) → Nat
  | [] => 0
  | (k, d) :: ds => widKey k + wid d + 4 + widk ds
def widt : List (List Key × D) → Nat
  | [] => 0
  | (k, d) :: ds => widKeys k + 3 + wid d + 4 + widt ds
end
theorem keyP_wid (k : Key) : (keyP k).shown.length ≤ widKey k := by
  cases k with
  | inl i =>
    exact Nat.le_of_eq (PySem.ofString_length (toString i))
  | inr x => exact Nat.le_refl _
theorem keyPs_wid : ∀ ks : List Key, ((PyData.shownAll (ks.map keyP)).map (·.length)).sum + 2 * ks.length ≤ widKeys ks
  | [] => Nat.le_refl _
  | k :: ks => by
    have h1 := keyP_wid k
    have h2 := keyPs_wid ks
    simp only [List.map_cons, PyData.shownAll, List.sum_cons, List.length_cons, widKeys]
    omega
theorem shownAll_len : ∀ xs : List PyData, (PyData.shownAll xs).length = xs.length
  | [] => rfl
  | x :: xs => by simp only [PyData.shownAll, List.length_cons, shownAll_len xs]
theorem pds_len (xs : List D) : (pds xs).length = xs.length := by rw [pds_map, List.length_map]
theorem pdk_len : ∀ xs : List (Key × D), (pdk xs).length = xs.length
  | [] => rfl
  | (k, d) :: xs => by simp only [pdk, List.length_cons, pdk_len xs]
theorem pdt_len : ∀ xs : List (List Key × D), (pdt xs).length = xs.length
  | [] => rfl
  | (k, d) :: xs => by simp only [pdt, List.length_cons, pdt_len xs]
mutual
theorem shn_wid : ∀ d : D, (pd d).shown.length ≤ wid d
  | .non => Nat.le_refl 4
  | .bl b => by cases b <;> decide
  | .int i => by
    simp only [wid]
    exact Nat.le_of_eq (PySem.ofString_length (toString i))
  | .str x => Nat.le_refl _
  | .ref n => Nat.le_refl 4
  | .obj C n => Nat.le_refl 4
  | .fnc _ => Nat.le_refl 4
  | .lst xs => by
    have h1 := shns_wid xs
    have h2 := listText_len_le (PyData.shownAll (pds xs))
    rw [shownAll_len, pds_len] at h2
    simp only [pd, PyData.shown, wid]
    omega
  | .ro xs => by
    have h1 := shns_wid xs
    have h2 := listText_len_le (PyData.shownAll (pds xs))
    rw [shownAll_len, pds_len] at h2
    simp only [pd, PyData.shown, wid]
    omega
  | .kt xs => by
    have h1 := shns_wid xs
    have h2 := tupleText_len_le (PyData.shownAll (pds xs))
    rw [shownAll_len, pds_len] at h2
    simp only [pd, PyData.shown, wid]
    omega
  | .tup xs => by
    have h1 := shns_wid xs
    have h2 := tupleText_len_le (PyData.shownAll (pds xs))
    rw [shownAll_len, pds_len] at h2
    simp only [pd, PyData.shown, wid]
    omega
  | .dic xs => by
    have h1 := shnk_wid xs
    have h2 := dictText_len_le (PyData.shownKv (pdk xs))
    rw [PyData.shownKv_length, pdk_len] at h2
    simp only [pd, PyData.shown, wid]
    omega
  | .dit xs => by
    have h1 := shnt_wid xs
    have h2 := dictText_len_le (PyData.shownKv (pdt xs))
    rw [PyData.shownKv_length, pdt_len] at h2
    simp only [pd, PyData.shown, wid]
    omega
theorem shns_wid : ∀ xs : List D, ((PyData.shownAll (pds xs)).map (·.length)).sum + 2 * xs.length ≤ wids xs
  | [] => Nat.le_refl _
  | d :: ds => by
    have h1 := shn_wid d
    have h2 := shns_wid ds
    simp only [pds, PyData.shownAll, List.map_cons, List.sum_cons, List.length_cons, wids]
    omega
theorem shnk_wid : ∀ xs : List (Key × D), ((PyData.shownKv (pdk xs)).map (·.length)).sum + 2 * xs.length ≤ widk xs
  | [] => Nat.le_refl _
  | (k, d) :: ds => by
    have h1 := shn_wid d
    have h2 := shnk_wid ds
    have h3 := keyP_wid k
    have e2 : ((keyP k).shown ++ ": " ++ (pd d).shown).length = (keyP k).shown.length + 2 + (pd d).shown.length := by
      rw [strLen_append, strLen_append]
      rfl
    simp only [pdk, PyData.shownKv, List.map_cons, List.sum_cons, List.length_cons, widk]
    omega
theorem shnt_wid : ∀ xs : List (List Key × D), ((PyData.shownKv (pdt xs)).map (·.length)).sum + 2 * xs.length ≤ widt xs
  | [] => Nat.le_refl _
  | (k, d) :: ds => by
    have h1 := shn_wid d
    have h2 := shnt_wid ds
    have h3 := keyPs_wid k
    have h4 := tupleText_len_le (PyData.shownAll (k.map keyP))
    rw [shownAll_len, List.length_map] at h4
    have e2 : ((PyData.tuple (k.map keyP)).shown ++ ": " ++ (pd d).shown).length = (PyData.tuple (k.map keyP)).shown.length + 2 + (pd d).shown.length := by
      rw [strLen_append, strLen_append]
      rfl
    have e3 : (PyData.tuple (k.map keyP)).shown.length ≤ widKeys k + 3 := by
      simp only [PyData.shown]
      omega
    simp only [pdt, PyData.shownKv, List.map_cons, List.sum_cons, List.length_cons, widt]
    omega
end
theorem wids_le {w : Nat} : ∀ {ds : List D}, (∀ d ∈ ds, wid d ≤ w) → wids ds ≤ ds.length * (w + 2)
  | [], _ => Nat.zero_le _
  | d :: ds, h => by
    have h1 := h d (List.mem_cons_self ..)
    have h2 := wids_le fun x hx => h x (List.mem_cons_of_mem _ hx)
    simp only [wids, List.length_cons, Nat.add_mul, Nat.one_mul]
    omega
theorem wid_int {i : Int} {k : Nat} (hk : 0 < k) (h : i.natAbs < 10 ^ k) : wid (.int i) ≤ k + 1 := int_text_length_le10 hk h
theorem repr_of {x y : D} {S : Store} {Q : QD} {w : Nat} (e : drf S x = y) (h : shw 60 y = true) (hw : wid y ≤ w) (hl : w ≤ sizeLine) (q : Q (.str (shn y)) S) : rRepr [x] S Q := by
  subst e
  exact ⟨h, Nat.le_trans (shn_wid _) (Nat.le_trans hw hl), q⟩
theorem repr_bl {b : Bool} {S : Store} {Q : QD} (q : Q (.str (shn (.bl b))) S) : rRepr [.bl b] S Q := repr_of (y := .bl b) (w := 5) rfl rfl (Nat.le_refl _) (by decide) q
theorem shws_all {n : Nat} : ∀ {ds : List D}, shws n ds = true ↔ ∀ d ∈ ds, shw n d = true
  | [] => by simp [shws]
  | d :: ds => by simp [shws, shws_all (n := n) (ds := ds)]
theorem shw_int' {n : Nat} {i : Int} {k : Nat} (h : i.natAbs < 10 ^ k) (hk : k ≤ 570) : shw n (.int i) = true := by
  have h1 : i.natAbs < 2 ^ 1920 := Nat.lt_of_lt_of_le h (Nat.le_trans (Nat.pow_le_pow_right (by decide) hk) (by decide +kernel))
  have h2 : i.natAbs.log2 < 1920 := by
    by_cases h0 : i.natAbs = 0
    · rw [h0]
      decide
    · exact (Nat.log2_lt h0).mpr h1
  cases n <;> simpa [shw] using h2
end NC
set_option Elab.async false
set_option linter.all false
set_option maxRecDepth 100000
set_option maxHeartbeats 1000000
namespace NC
open PySem PySem.Spec PyProof.Rows L2
section
variable {ρ : Rho} {S : Store} {Q : QD} {N : DN} {ta tb tc : TD} {tt tu : TB} {tl tk : TLs} {su sv : TSd} {r r' : RD2} {r1 : RD1} {rs : RDs} {rm : RDm} {QB : Bool → Store → Prop} {QL : List D → Store → Prop} {i j n m : Nat} {d x : D} {t : Tg} {T T1 T2 : String} {pm : List Nat} {ts : TSr} {te : TD} {vs : List Nat} {lo hi : TOd} {xs ys : List D} {QO : Option Int → Store → Prop} {QI : List D → (Store → Prop) → Store → Prop} {b : Bool} {a : Int}
theorem i_runD (h : su { nx := fun _ S' => Q .non S', rt := Q } (startD n xs) S) : runD n su xs S Q := h
theorem i_sSeq (h : su { N with nx := sv N } ρ S) : sSeq su sv N ρ S := h
theorem i_sIf (h : tt ρ S fun c S1 => if c = true then su N ρ S1 else sv N ρ S1) : sIf tt su sv N ρ S := h
theorem i_sNil (h : N.nx ρ S) : sNil N ρ S := h
theorem i_sRet (h : ta ρ S N.rt) : sRet ta N ρ S := h
theorem i_sAsg (h : ta ρ S fun d S1 => ∃ ρ', bindT t d ρ = some ρ' ∧ N.nx ρ' S1) : sAsg t ta N ρ S := h
theorem i_sDrop (h : ta ρ S fun _ S1 => N.nx ρ S1) : sDrop ta N ρ S := h
theorem i_sPut (h : ta ρ S fun d S1 => tb ρ S1 fun o S2 => tc ρ S2 fun k S3 => ∃ n i ds j, o = .ref n ∧ k = .int i ∧ S3[n]? = some (some (.lst ds)) ∧ ixN ds.length i = some j ∧ N.nx ρ (S3.set n (some (.lst (ds.set j d))))) : sPut tb tc ta N ρ S := h
theorem i_sPar (h : tl ρ S fun ds S1 => ∃ d e, ds = [d, e] ∧ N.nx ((ρ.set i (some d)).set j (some e)) S1) : sPar i j tl N ρ S := h
theorem i_eVar (h : ρ[i]? = some (some d)) (q : Q d S) : eVar i ρ S Q := ⟨d, h, q⟩
theorem i_eVarX (h : ∃ d, ρ[i]? = some (some d) ∧ Q d S) : eVar i ρ S Q := h
theorem i_eC (h : Q d S) : eC d ρ S Q := h
theorem i_eOp (h : ta ρ S fun x S1 => tb ρ S1 fun y S2 => r x y S2 Q) : eOp r ta tb ρ S Q := h
theorem i_eChain (h : ta ρ S fun x S1 => tb ρ S1 fun y S2 => r x y S2 fun z S3 => ∃ k, z = .bl k ∧ if k = true then tc ρ S3 fun w S4 => r' y w S4 Q else Q (.bl false) S3) : eChain r r' ta tb tc ρ S Q := h
theorem i_eB (h : tl ρ S fun xs S1 => rs xs S1 Q) : eB rs tl ρ S Q := h
theorem i_eUn (h : ta ρ S fun x S1 => r1 x S1 Q) : eUn r1 ta ρ S Q := h
theorem i_eTup (h : tl ρ S fun xs S1 => xs.length ≤ sizeLine ∧ Q (.tup xs) S1) : eTup tl ρ S Q := h
theorem i_eLst (h : tl ρ S fun xs S1 => xs.length ≤ sizeLine ∧ Q (.lst xs) S1) : eLst tl ρ S Q := h
theorem i_eLstM (h : tl ρ S fun xs S1 => xs.length ≤ sizeLine ∧ Q (.ref S1.length) (S1 ++ [some (.lst xs)])) : eLstM tl ρ S Q := h
theorem i_eAnd (h : ta ρ S fun x S1 => ∃ c, x = .bl c ∧ if c = true then tb ρ S1 Q else Q (.bl false) S1) : eAnd ta tb ρ S Q := h
theorem i_eOr (h : ta ρ S fun x S1 => ∃ c, x = .bl c ∧ if c = true then Q (.bl true) S1 else tb ρ S1 Q) : eOr ta tb ρ S Q := h
theorem i_eNot (h : ta ρ S fun x S1 => ∃ c, x = .bl c ∧ Q (.bl (!c)) S1) : eNot ta ρ S Q := h
theorem i_eIf (h : tt ρ S fun c S1 => if c = true then ta ρ S1 Q else tb ρ S1 Q) : eIf tt ta tb ρ S Q := h
theorem i_bOf (h : ta ρ S fun x S1 => ∃ c, x = .bl c ∧ QB c S1) : bOf ta ρ S QB := h
theorem i_bAnd (h : tt ρ S fun c S1 => if c = true then tu ρ S1 QB else QB false S1) : bAnd tt tu ρ S QB := h
theorem i_bOr (h : tt ρ S fun c S1 => if c = true then QB true S1 else tu ρ S1 QB) : bOr tt tu ρ S QB := h
theorem i_bNot (h : tt ρ S fun c S1 => QB (!c) S1) : bNot tt ρ S QB := h
theorem i_bYes (h : QB true S) : bYes ρ S QB := h
theorem i_aNil (h : QL [] S) : aNil ρ S QL := h
theorem i_aCons (h : ta ρ S fun x S1 => tl ρ S1 fun xs S2 => QL (x :: xs) S2) : aCons ta tl ρ S QL := h
theorem i_eCall (h : tl ρ S fun xs S1 => rs xs S1 Q) : eCall rs tl ρ S Q := h
theorem i_eCallKw (h : tl ρ S fun xs S1 => tk ρ S1 fun ys S2 => xs.length = n ∧ ys.length = m ∧ rs (pick pm (xs ++ ys) .non) S2 Q) : eCallKw rs n m pm tl tk ρ S Q := h
theorem i_eCut (h : ta ρ S fun x S1 => lo ρ S1 fun l S2 => hi ρ S2 fun u S3 => rCut x l u S3 Q) : eCut ta lo hi ρ S Q := h
theorem i_oNone (h : QO none S) : oNone ρ S QO := h
theorem i_oSome (h : ta ρ S fun x S1 => ∃ i, x = .int i ∧ QO (some i) S1) : oSome ta ρ S QO := h
theorem i_eM (h : ta ρ S fun x S1 => tyM T (drf S1 x) ∧ tl ρ S1 fun xs S2 => rm x xs S2 Q) : eM T rm ta tl ρ S Q := h
theorem i_sSq (h : ta ρ S fun x S1 => ∃ xs, seqOf (drf S1 x) = some xs ∧ QI xs (fun S' => drf S' x = drf S1 x) S1) : sSq ta ρ S QI := h
theorem i_sRange1 (h : tl ρ S fun xs S1 => ∃ n : Int, xs = [.int n] ∧ -(2 ^ 62) ≤ n ∧ n < 2 ^ 62 ∧ QI (rangeD 0 n) (fun _ => True) S1) : sRange1 tl ρ S QI := h
theorem i_sRange2 (h : tl ρ S fun xs S1 => ∃ m n : Int, xs = [.int m, .int n] ∧ (-(2 ^ 62) ≤ m ∧ m < 2 ^ 62 ∧ -(2 ^ 62) ≤ n ∧ n < 2 ^ 62) ∧ QI (rangeD m n) (fun _ => True) S1) : sRange2 tl ρ S QI := h
theorem i_sEnum (h : aCons ta aNil ρ S fun ds S1 => ∃ d xs, ds = [d] ∧ drf S1 d = .lst xs ∧ QI (enumD xs) (fun S' => drf S' d = drf S1 d) S1) : sEnum ta ρ S QI := h
theorem i_eIsi (h : ta ρ S fun x S1 => ∃ b, isiD (drf S1 x) T = some b ∧ Q (.bl b) S1) : eIsi T ta ρ S Q := h
theorem i_eIsi2 (h : ta ρ S fun x S1 => ∃ b c, isiD (drf S1 x) T1 = some b ∧ isiD (drf S1 x) T2 = some c ∧ Q (.bl (b || c)) S1) : eIsi2 T1 T2 ta ρ S Q := h
theorem i_eLc (h : ts ρ S fun items stays S1 => Lc1 t tt te vs ρ items stays S1 fun acc S' => Q (.lst acc) S') : eLc ts t tt te vs ρ S Q := h
theorem i_eLcM (h : ts ρ S fun items stays S1 => Lc1 t tt te vs ρ items stays S1 fun acc S' => Q (.ref S'.length) (S' ++ [some (.lst acc)])) : eLcM ts t tt te vs ρ S Q := h
theorem i_sFor (h : ts ρ S fun items stays S1 => For1 t su N ρ items stays S1) : sFor ts t su N ρ S := h
theorem i_bl {P : Bool → Prop} (h : P b) : ∃ c, D.bl b = .bl c ∧ P c := ⟨b, rfl, h⟩
theorem i_int {P : Int → Prop} (h : P a) : ∃ c, D.int a = .int c ∧ P c := ⟨a, rfl, h⟩
theorem i_nm {P : Rho → Prop} (h : P (ρ.set i (some d))) : ∃ ρ', bindT (.nm i) d ρ = some ρ' ∧ P ρ' := ⟨_, by unfold bindT; rfl, h⟩
theorem i_one {P : D → Prop} (h : P d) : ∃ x, [d] = [x] ∧ P x := ⟨d, rfl, h⟩
theorem i_two {P : D → D → Prop} (h : P d x) : ∃ y z, [d, x] = [y, z] ∧ P y z := ⟨d, x, rfl, h⟩
theorem i_rng {P : Int → Prop} (h : P a) : ∃ n : Int, [D.int a] = [.int n] ∧ P n := ⟨a, rfl, h⟩
theorem i_len0 {P : Prop} (h : P) : ([] : List D).length ≤ sizeLine ∧ P := ⟨Nat.zero_le _, h⟩
theorem i_len1 {P : Prop} {l : List D} (hl : (d :: l).length ≤ 100) (h : P) : (d :: l).length ≤ sizeLine ∧ P := ⟨Nat.le_trans hl (by decide), h⟩
theorem i_int1 (h : Q (.int a) S) : rInt1 [.int a] S Q := h
theorem i_intb (h : Q (.int (if b then 1 else 0)) S) : rInt1 [.bl b] S Q := h
theorem i_abs (h : Q (.int (if a < 0 then -a else a)) S) : rAbs [.int a] S Q := h
theorem i_add {c : Int} (h : Q (.int (a + c)) S) : rAdd (.int a) (.int c) S Q := h
theorem i_sub {c : Int} (h : Q (.int (a - c)) S) : rSub (.int a) (.int c) S Q := int2 trivial h
theorem i_lt {c : Int} (h : Q (.bl (decide (a < c))) S) : rLt (.int a) (.int c) S Q := int2 trivial h
theorem i_le {c : Int} (h : Q (.bl (decide (a ≤ c))) S) : rLe (.int a) (.int c) S Q := int2 trivial h
theorem i_gt {c : Int} (h : Q (.bl (decide (c < a))) S) : rGt (.int a) (.int c) S Q := int2 trivial h
theorem i_ge {c : Int} (h : Q (.bl (decide (c ≤ a))) S) : rGe (.int a) (.int c) S Q := int2 trivial h
theorem i_eqi {c : Int} (h : Q (.bl (decide (a = c))) S) : rEq3 (.int a) (.int c) S Q := eq_int h
theorem i_is (h : Q (.bl (isN x)) S) : rIs x .non S Q := ⟨rfl, h⟩
theorem i_nes {x y : Str} (h : Q (.bl (!decide (x = y))) S) : rNe3 (.str x) (.str y) S Q := ne_str h
theorem i_rbl (h : Q (.str (shn (.bl b))) S) : rRepr [.bl b] S Q := repr_bl h
end
theorem rangeD_len (lo hi : Int) : (rangeD lo hi).length = (hi - lo).toNat := by
  unfold rangeD
  rw [List.length_map, List.length_range]
theorem iteT {A B : Prop} (h : A) : if true = true then A else B := by rw [if_pos rfl]; exact h
theorem iteF {A B : Prop} (h : B) : if false = true then A else B := by rw [if_neg (by decide)]; exact h
theorem ite_by {c : Bool} {A B : Prop} (h1 : c = true → A) (h2 : c = false → B) : if c = true then A else B := by
  cases c with
  | true => exact iteT (h1 rfl)
  | false => exact iteF (h2 rfl)
theorem drf_ty {d : D} {t : String} {S : Store} (h : tyD d = some t) : drf S d = d := by
  cases d with
  | ref m => cases h
  | _ => rfl
theorem drf_tyV {d : D} {t : String} {S : Store} (h : tyV d = some t) : drf S d = d := by
  rcases tyV_or h with h | ⟨C, fs, rfl⟩
  · exact drf_ty h
  · rfl
theorem seq_lt {d : D} : (isLst d || isTup d) = true → ∃ ys, seqOf d = some ys := by
  cases d with
  | lst xs => exact fun _ => ⟨xs, rfl⟩
  | tup xs => exact fun _ => ⟨xs, rfl⟩
  | ro xs => exact fun _ => ⟨xs, rfl⟩
  | kt xs => exact fun _ => ⟨xs, rfl⟩
  | _ => exact fun h => nomatch h
theorem seq_no {d : D} : (isLst d || isTup d) = false → seqOf d = none := by
  cases d with
  | lst xs => exact fun h => nomatch h
  | tup xs => exact fun h => nomatch h
  | ro xs => exact fun h => nomatch h
  | kt xs => exact fun h => nomatch h
  | _ => exact fun _ => rfl
theorem len_sub {α : Type} [DecidableEq α] : ∀ {l m : List α}, l.Nodup → (∀ x ∈ l, x ∈ m) → l.length ≤ m.length
  | [], _, _, _ => Nat.zero_le _
  | x :: l, m, hn, hs => by
    have hx := hs x (List.mem_cons_self ..)
    have hn' := List.nodup_cons.mp hn
    have h := len_sub (l := l) (m := m.erase x) hn'.2 fun y hy => by
      have hne : y ≠ x := fun e => hn'.1 (e ▸ hy)
      exact (List.mem_erase_of_ne hne).mpr (hs y (List.mem_cons_of_mem _ hy))
    rw [List.length_erase_of_mem hx] at h
    have : 0 < m.length := List.length_pos_of_mem hx
    rw [List.length_cons]
    omega
theorem dup_short {α : Type} [DecidableEq α] : ∀ {m : List α}, ¬ m.Nodup → ∃ m' : List α, m'.length < m.length ∧ ∀ x ∈ m, x ∈ m'
  | [], h => (h List.nodup_nil).elim
  | x :: t, h => by
    by_cases hx : x ∈ t
    · exact ⟨t, by simp, fun y hy => (List.mem_cons.mp hy).elim (fun e => e ▸ hx) id⟩
    · have ht : ¬ t.Nodup := fun q => h (List.nodup_cons.mpr ⟨hx, q⟩)
      obtain ⟨m', h1, h2⟩ := dup_short ht
      refine ⟨x :: m', by simpa using h1, fun y hy => ?_⟩
      rcases List.mem_cons.mp hy with e | e
      · rw [e]
        exact List.mem_cons_self ..
      · exact List.mem_cons_of_mem _ (h2 y e)
theorem nodup_len {α : Type} [DecidableEq α] {l m : List α} (hl : l.Nodup) (h : ∀ x, x ∈ l ↔ x ∈ m) : l.length = m.length ↔ m.Nodup := by
  constructor
  · intro e
    refine Classical.byContradiction fun hm => ?_
    obtain ⟨m', h1, h2⟩ := dup_short hm
    have := len_sub hl fun x hx => h2 x ((h x).mp hx)
    omega
  · intro hm
    exact Nat.le_antisymm (len_sub hl fun x hx => (h x).mp hx) (len_sub hm fun x hx => (h x).mpr hx)
theorem eqv_ints : ∀ p q : List Int, PyData.eqvAll (pds (p.map .int)) (pds (q.map .int)) = decide (p = q)
  | [], [] => rfl
  | [], _ :: _ => rfl
  | _ :: _, [] => rfl
  | a :: p, b :: q => by
    have h := eqv_ints p q
    show ((a == b) && PyData.eqvAll (pds (p.map .int)) (pds (q.map .int))) = _
    rw [h, Bool.eq_iff_iff]
    simp
theorem fl_ints {n : Nat} : ∀ p : List Int, fls n (p.map .int) = true
  | [] => by simp [fls]
  | a :: p => by
    have h := fl_ints (n := n) p
    cases n <;> simpa [fls, fl] using h
theorem eqd_tups (p q : List Int) : eqd (.tup (p.map .int)) (.tup (q.map .int)) = decide (p = q) := by
  have := eqv_ints p q
  exact this
theorem cut_to {l : List D} {i : Nat} : cutD l none (some (i : Int)) = l.take i := by
  unfold cutD
  rw [HT.sIx_none, HT.sIx_nat, List.drop_zero, Nat.sub_zero]
  by_cases h : i ≤ l.length
  · rw [Nat.min_eq_left h]
  · rw [Nat.min_eq_right (by omega), List.take_length, List.take_of_length_le (by omega)]
theorem drf_ref {S : Store} {n : Nat} {ds : List D} (h : S[n]? = some (some (.lst ds))) : drf S (.ref n) = .lst ds := by
  simp only [drf, h]
end NC
set_option Elab.async false
set_option linter.all false
set_option maxRecDepth 100000
set_option maxHeartbeats 1000000
namespace NC
open PySem PySem.Spec PyProof.Rows L2
open Evl (Ex)
abbrev Exn := Addr × List (Str × D)
abbrev XD := Exn → Store → Prop
abbrev RDx := List D → Store → QD → XD → Prop
abbrev NoX : XD := fun _ _ => False
theorem Since.join {w : W0} {Y Y' : List Addr} {β β' : List Addr} {S S' : Store} {H H' : Hp} (a : Since w Y β S H) (b : Since ⟨Y, β, S, H⟩ Y' β' S' H') : Since w Y' β' S' H' :=
  ⟨a.pre.trans b.pre, a.ex.trans b.ex, fun c hc => ⟨(b.ext c (a.ext c hc).1).1, (a.ext c hc).2.trans (b.ext c (a.ext c hc).1).2⟩, fun c h => b.trk c (a.trk c h)⟩
def WD (K : PySem.W.Frag) (T : List (Addr × Str)) (w0 : W0) (ED : XD) : XK := fun cls d H' => ∃ (C dd : Addr) (fs : List (Str × V)) (es : List (Str × D)) (Y β : List Addr) (S : Store),
  cls = .ref C ∧ d = some dd ∧ Ok K ⟨[w0], T⟩ Y β S H' ∧ hid Y β S H' dd = some (.xd fs) ∧ RepF K (hid Y β S H') β fs es ∧ ED (C, es) S
theorem WD.up {K : PySem.W.Frag} {T : List (Addr × Str)} {w0 : W0} {ED : XD} {Y β : List Addr} {S : Store} {H H' : Hp} {cls : Value} {d : Option Addr} (h : WD K T ⟨Y, β, S, H⟩ ED cls d H') (s : Since w0 Y β S H) : WD K T w0 ED cls d H' := by
  obtain ⟨C, dd, fs, es, Y', β', S', e1, e2, o, hd, hf, q⟩ := h
  exact ⟨C, dd, fs, es, Y', β', S', e1, e2, ⟨o.len, o.nd, o.out, o.trk, o.xtrk, o.obj, fun w hw => by rw [List.mem_singleton.mp hw]; exact s.join (o.gh _ (List.mem_singleton.mpr rfl)), o.tb⟩, hd, hf, q⟩
def lspx (K : PySem.W.Frag) (T : List (Addr × Str)) (r : RDx) : Sp := fun vs H Q E => ∃ Y β S xs Q' E', Ok K ⟨[], T⟩ Y β S H ∧ Reps K (hid Y β S H) β vs xs ∧ r xs S Q' E' ∧ out K ⟨[], T⟩ Y β S H Q' Q ∧ ∀ cls d H', WD K T ⟨Y, β, S, H⟩ E' cls d H' → E cls d H'
section
variable {L : List W0} {X : Cx} {k : Nat} {f : Addr} {fd : FuncData} {ps ks : List Str} {x : Str} {p pos : Pos} {e : Expr} {es : List Expr} {kws : List Keyword} {n m : Nat} {perm : List Nat} {r : RDx} {tl tk' : TLs} {ED : XD} {w0 : W0} {T : List (Addr × Str)}
def eCallX (r : RDx) (ED : XD) (tl : TLs) : TD := fun ρ S Q => tl ρ S fun xs S1 => r xs S1 Q ED
theorem passX (tk : Takes X (fun cls d _ H => WD X.K T w0 ED cls d H)) : Passes (L2.CX X.prog X.w) X (WD X.K T w0 ED) := passes_call tk fun _ _ _ _ h => h
theorem passN : Passes (L2.CX X.prog X.w) X (fun _ _ _ => False) := fun _ _ _ _ _ _ _ c => by
  obtain ⟨_, _, _, _, _, _, _, _, _, _, _, _, z⟩ := c
  exact z.elim
theorem de_callX (tk : Takes X (fun cls d _ H => WD X.K T w0 ED cls d H)) (F : FnG X.prog X.w X.K X.mg X.base (L2.CX X.prog X.w) k f fd ps (lspx X.K T r)) (hr : Room k X.A) (hgd : X.A.guards = some []) (hm : X.mg x = some (.ref f)) (hk : PySem.W.keepIn X.K (.ref f) = true) (hb : Binds X.K fd ps [])
    (ha : PA X (e :: es) (tA X.K ⟨w0 :: L, T⟩ tl)) (hg : Gl X x := by rfl) (hdb : (x == ("__debug__" : Str)) = false := by decide) (he : starEach (e :: es) X.env = (false, eval e X.env) :: starEach es X.env := by rfl) (hpl : (backTo pos (starEach es X.env)).any (·.1) = false := by rfl) :
    PE X (.Call (.Name x p) (e :: es) [] pos) (tE X.K ⟨w0 :: L, T⟩ (eCallX r ED tl)) :=
  (pe_callG F hr hgd hg hm hk hb .nil (passX tk) ha hdb he hpl).imp fun σ H Q ⟨Y, β, S, ρ, Q', rl, q, kk⟩ => ⟨Y, β, S, ρ, _, rl, q, fun xs S1 vs β1 H1 s1 r1 q1 => by
    show lspx X.K T r (vs ++ []) H1 Q _
    rw [List.append_nil]
    exact ⟨Y, β1, S1, xs, Q', ED, s1.ok.free, r1, q1, fun z S3 w β3 H3 s3 r3 q3 => kk z S3 w β3 H3 (s1.trans (s3.back s1.ok)) r3 q3, fun cls d H' h => h.up (s1.ok.gh w0 (List.mem_cons_self ..))⟩⟩
theorem de_callN {G : Gh} (F : FnG X.prog X.w X.K X.mg X.base (L2.CX X.prog X.w) k f fd ps (lspx X.K G.T r)) (hr : Room k X.A) (hgd : X.A.guards = some []) (hm : X.mg x = some (.ref f)) (hk : PySem.W.keepIn X.K (.ref f) = true) (hb : Binds X.K fd ps [])
    (ha : PA X (e :: es) (tA X.K G tl)) (hg : Gl X x := by rfl) (hdb : (x == ("__debug__" : Str)) = false := by decide) (he : starEach (e :: es) X.env = (false, eval e X.env) :: starEach es X.env := by rfl) (hpl : (backTo pos (starEach es X.env)).any (·.1) = false := by rfl) :
    PE X (.Call (.Name x p) (e :: es) [] pos) (tE X.K G (eCallX r NoX tl)) :=
  (pe_callG F hr hgd hg hm hk hb .nil passN ha hdb he hpl).imp fun σ H Q ⟨Y, β, S, ρ, Q', rl, q, kk⟩ => ⟨Y, β, S, ρ, _, rl, q, fun xs S1 vs β1 H1 s1 r1 q1 => by
    show lspx X.K G.T r (vs ++ []) H1 Q _
    rw [List.append_nil]
    exact ⟨Y, β1, S1, xs, Q', NoX, s1.ok.free, r1, q1, fun z S3 w β3 H3 s3 r3 q3 => kk z S3 w β3 H3 (s1.trans (s3.back s1.ok)) r3 q3, fun cls d H' ⟨_, _, _, _, _, _, _, _, _, _, _, _, z⟩ => z.elim⟩⟩
end
section
variable {P : Program} {w : World} {K : PySem.W.Frag} {mg : Str → Option Value} {base : Heap} {k : Nat} {f : Addr} {fd : FuncData} {ps N : List Str} {r : RDx} {x qual : Str} {st : Stmt} {tb : XD → TSd} {T : List (Addr × Str)}
def runX (n : Nat) (tb : XD → TSd) : RDx := fun xs S Q E => tb E { nx := fun _ S' => Q .non S', rt := Q } (startD n xs) S
theorem def_okx (F : Fun K x qual st f fd) (Sc : FnScope N ps (defScope st)) (hl : ∀ xs S Q E, r xs S Q E → xs.length = ps.length)
    (hb : ∀ (cdv : Value) (A : Around) (outer : List Env) (s : Shared) (H : Hp) (E : XK) (w0 : W0) (ED : XD), Room k (A.deeper (envOfC qual (defScope st) s.heap.objs.size f cdv)) → A.guards = some [] →
      Takes (cxOf (L2.CX P w) P w K mg base N qual (defScope st) f cdv A outer s H E) (fun cls d _ H => WD K T w0 ED cls d H) →
      PSs (cxOf (L2.CX P w) P w K mg base N qual (defScope st) f cdv A outer s H E) (defBody st) (tS K ⟨[w0], T⟩ (tb ED)))
    (hr : ∀ xs S Q E, r xs S Q E → runX N.length tb xs S Q E) : FnG P w K mg base (L2.CX P w) (k + 1) f fd ps (lspx K T r) := by
  refine fnG_of F Sc (fun vs H Q E h => ?_) fun cdv A outer s H vs Q E room grd h => ?_
  · obtain ⟨Y, β, S, xs, Q', E', o, rr, q, _⟩ := h
    rw [rr.len]
    exact hl _ _ _ _ q
  · obtain ⟨Y, β, S, xs, Q', E', o, rr, q, kk, kx⟩ := h
    refine ⟨tS K ⟨[⟨Y, β, S, H⟩], T⟩ (tb E'), hb cdv A outer s H E ⟨Y, β, S, H⟩ E' room grd ((takes_of rfl rfl rfl rfl).imp fun c d σ H' h => kx c d H' h), ?_⟩
    exact ⟨Y, β, S, _, _, start_rel o.mind rr, hr xs S Q' E' q, ⟨fun ρ' S' σ' β' H' s' r' q' => kk .non S' .non β' H' s'.free .non q', fun d S' v β' H' s' r' q' => kk d S' v β' H' s'.free r' q', fun _ _ _ _ _ _ _ z => z.elim, fun _ _ _ _ _ _ _ z => z.elim⟩⟩
end
section
variable {L : List W0} {X : Cx} {e : Expr} {ta : TD} {ED : XD} {w0 : W0} {T : List (Addr × Str)} {C : Addr} {nm : Str} {pos : Pos}
end
end NC
set_option Elab.async false
set_option linter.all false
set_option maxRecDepth 100000
set_option maxHeartbeats 1000000
namespace NC
open PySem PySem.Spec PyProof.Rows L2
open Evl (Ex)
theorem excH_ok {P : Program} {w : World} {H : Hp} {h : Heap} {a C dd : Addr} {o : Obj} {vs : Array Value} (e : h.get? a = some o) (hc : o.cls = .ref C) (hd : o.dict = some dd) (hv : o.data = .fields vs) : ObjOk P w H h a (excH a C dd) :=
  ⟨⟨o, vs, e, hc, hd, hv⟩, ⟨o, e⟩, fun h1 h2 ⟨o1, v1, q1, q2⟩ k => ⟨o1, v1, k _ q1, q2⟩⟩
theorem tell {X : Cx} {pins : List (Addr × Obj)} {σ : L2.St} {H : Hp} {s : Shared} {a : Addr} {ob : HO} {o : Obj} {vs : Array Value} (I : L2.Inv X pins σ H s) (hn : H a = none) (he : s.heap.get? a = some o) (hv : o.data = .fields vs) (hok : ∀ H', ObjOk X.prog X.w H' s.heap a ob)
    (hs : ∀ z, X.s_0.heap.get? a ≠ some z) (hl : a ≠ X.env.locals) (hp : ∀ p ∈ X.pn ++ pins, p.1 ≠ a) (hot : ∀ y, ob ≠ .own y) : L2.Inv X pins σ (upd H a ob) s := by
  have ne : ∀ {b : Addr} {u : HO}, H b = some u → b ≠ a := fun {b u} h e => by
    rw [e, hn] at h
    cases h
  refine ⟨I.ok, I.os, I.bare, ⟨I.base.keep, I.base.slot, fun b u h1 h2 h3 => ?_, I.base.there, fun b xs h => ?_, fun b u xs h => ?_, fun b ps h => ?_⟩, I.loc, I.cell, ?_, fun y c h => ?_, fun p hm => ?_, fun b u h => ?_, I.len⟩
  · have hb : b ≠ a := fun e => hs u (e ▸ h1)
    rw [upd_ne hb]
    exact I.base.free b u h1 h2 h3
  · have := I.base.tups b xs h
    rw [upd_ne (ne this)]
    exact this
  · have := I.base.frzs b u xs h
    rw [upd_ne (ne this)]
    exact this
  · obtain ⟨more, this⟩ := I.base.tbls b ps h
    exact ⟨more, by rw [upd_ne (ne this)]; exact this⟩
  · rw [upd_ne (Ne.symm hl)]
    exact I.free
  · obtain ⟨w', o', e1, e2⟩ := I.cell y c h
    have hc : c ≠ a := fun e => by
      rw [e, he] at e1
      cases e1
      rw [hv] at e2
      cases e2
    rw [upd_ne hc]
    exact I.freeC y c h
  · obtain ⟨e1, e2, e3⟩ := I.pin p hm
    exact ⟨e1, by rw [upd_ne (hp p hm)]; exact e2, e3⟩
  · by_cases hb : b = a
    · subst hb
      rw [upd_same] at h
      cases h
      exact hok _
    · rw [upd_ne hb] at h
      exact (I.hok b u h).stay (fun c z _ q => q) (fun c q => by rw [upd_ne (ne q)]; exact q) fun c xs q => by rw [upd_ne (ne q)]; exact q
structure Cl where
  c : Value
  nm : Option Nat
  ts : Addr → Addr → Addr → TS
abbrev offSlot (i : Nat) (D' : Ends) : Ends := { nx := fun σ2 H2 => D'.nx (σ2.set i none) H2, rt := D'.rt, bk := fun σ2 H2 => D'.bk (σ2.set i none) H2, ct := fun σ2 H2 => D'.ct (σ2.set i none) H2 }
def Cl.run (x : Cl) (D' : Ends) (a C dd : Addr) (σ' : L2.St) (H' : Hp) : Prop := match x.nm with
  | none => x.ts a C dd D' σ' H'
  | some i => x.ts a C dd (offSlot i D') (σ'.set i (some (.ref a))) H'
def wC (K : PySem.W.Frag) (n : Nat) (Wout : WX) (D' : Ends) : List Cl → WX
  | [] => Wout
  | x :: r => fun cls d σ H => ∃ b, PySem.W.exmOne K cls x.c = some b ∧
      (b = true → ∃ C dd, cls = .ref C ∧ d = some dd ∧ ∀ (a : Addr) (σ' : L2.St), H a = none → σ'.length = n → x.run D' a C dd σ' (upd H a (excH a C dd))) ∧ (b = false → wC K n Wout D' r cls d σ H)
inductive HdsC (X : Cx) : List ExceptHandler → List Cl → Prop
  | nil : HdsC X [] []
  | cons {x : Str} {c : Value} {ts : Addr → Addr → Addr → TS} {b₀ : Stmt} {suite : List Stmt} {np pos' : Pos} {hds : List ExceptHandler} {l : List Cl} (hc : Names X x c)
      (hsu : ∀ (a C dd : Addr) (pn : List (Addr × Obj)), PSs (X.suite a pn) (b₀ :: suite) (ts a C dd)) (r : HdsC X hds l) : HdsC X (.ExceptHandler (some (.Name x np)) none (b₀ :: suite) pos' :: hds) (⟨c, none, ts⟩ :: l)
  | consAs {x n : Str} {i : Nat} {c : Value} {ts : Addr → Addr → Addr → TS} {b₀ : Stmt} {suite : List Stmt} {np pos' : Pos} {hds : List ExceptHandler} {l : List Cl} (hc : Names X x c) (hi : X.N[i]? = some n) (hln : X.env.kindOf n = some .local)
      (hsu : ∀ (a C dd : Addr) (pn : List (Addr × Obj)), PSs (X.suite a pn) (b₀ :: suite) (ts a C dd)) (r : HdsC X hds l) : HdsC X (.ExceptHandler (some (.Name x np)) (some n) (b₀ :: suite) pos' :: hds) (⟨c, some i, ts⟩ :: l)
section
variable {X : Cx} {pins : List (Addr × Obj)} {σ : L2.St} {H : Hp} {s : Shared} {a : Addr}
theorem inSuite (I : L2.Inv X pins σ H s) (a : Addr) : L2.Inv (X.suite a (X.pn ++ pins)) [] σ H s :=
  ⟨I.ok.suite _ _, I.os, I.bare, I.base, I.loc, I.cell, I.free, I.freeC, fun p hp => I.pin p (by rw [List.append_nil] at hp; exact hp), I.hok, I.len⟩
theorem outSuite {pn' : List (Addr × Obj)} (I : L2.Inv (X.suite a (X.pn ++ pins)) pn' σ H s) (ok : X.Ok) : L2.Inv X pins σ H s :=
  ⟨ok, I.os, I.bare, I.base, I.loc, I.cell, I.free, I.freeC, fun p hp => I.pin p (List.mem_append_left _ hp), I.hok, I.len⟩
variable {body : List Stmt} {hd₀ : ExceptHandler} {hds : List ExceptHandler} {cl : List Cl} {pos : Pos} {tb : WX → TS} {Wout : WX}
theorem ps_tryC (hst : X.stack = X.env :: X.outer) (hfr0 : X.env.frame = some X.env.locals) (hex : X.ex = []) (hN : X.N.Nodup) (tk : Takes X Wout)
    (hb : ∀ (W : WX) (pn : List (Addr × Obj)) (xe : Value → Shared → Prop), Takes (X.tr pn xe) W → PassesOwn (model X.prog X.w) X.A X.env xe → PSs (X.tr pn xe) body (tb W))
    (hh : HdsC X (hd₀ :: hds) cl) : PS X (.Try body (hd₀ :: hds) [] [] pos) (fun D' σ H => tb (wC X.K X.N.length Wout D' cl) D' σ H) := by
  refine ⟨fun pins s σ H D' I h => ?_⟩
  have good := I.ok
  have frames : X.A.frames = some (X.env :: X.outer) := by rw [good.frames, hst]
  refine wpAny_Try_except ?_
  refine wpAny_mono ((hb (wC X.K X.N.length Wout D' cl) (X.pn ++ pins) (fun e s₁ => wpAny (model X.prog X.w) X.A (noteFrame e X.env) (fun _ s₂ => wpAny (model X.prog X.w) X.A (setFlight e none) (fun _ s₃ =>
    wpAny (model X.prog X.w) X.A (handleBy e X.env (hd₀ :: hds)) (SP X pins D') X.xe s₃) X.xe s₂) X.xe s₁) (fun u s' flew => ?_) PassesOwn.looking).run [] s σ H D' (I.toTry _) h) (fun fl s1 done => ?_) (fun e s1 he => he)
  · obtain ⟨a, B, sI, pins', σ', H', cls, d, rfl, J', ground, up, sky, noA, hos, gens, wish⟩ := flew
    have J : L2.Inv X pins σ' H' sI := J'.ofTry good
    rw [hst] at sky
    show wpAny (model X.prog X.w) X.A (noteFrame (.ref a) X.env) _ _ _
    refine Sky.land Zc.steady frames hfr0 sky fun h3 fly3 up3 => ?_
    have J3 : L2.Inv X pins σ' H' { s' with heap := h3 } := J.landed ground fly3.1 (up.trans up3) hos gens
    obtain ⟨oe3, vs3, he3, hz3, hd3⟩ := fly3.there
    have offFrames : a ∉ frs (X.env :: X.outer) := fun hm => by
      obtain ⟨_, o', e', hnf⟩ := fly3.2.2.1.mem hm
      rw [he3] at e'
      cases e'
      exact hnf _ hd3
    have notLoc : a ≠ X.env.locals := fun z => offFrames (List.mem_filterMap.mpr ⟨X.env, List.mem_cons_self, by rw [hfr0, z]⟩)
    have offB : B.get? a = none := fly3.2.1
    have inB : ∀ {b : Addr} {o : Obj}, sI.heap.get? b = some o → b ∉ frs X.stack → b ≠ a := fun {b o} e hb eq => by
      have := ground b o e hb
      rw [eq, offB] at this
      cases this
    have offS : ∀ z, X.s_0.heap.get? a ≠ some z := fun z e => by
      obtain ⟨o', e1⟩ := J.base.there a z e (by rw [hex]; simp)
      exact inB e1 (by rw [hst]; exact offFrames) rfl
    have offPins : ∀ p ∈ X.pn ++ pins, p.1 ≠ a := fun p hp => by
      obtain ⟨e1, _, e3, e4, _⟩ := J.pin p hp
      refine inB e1 fun hm => ?_
      rw [hst] at hm
      obtain ⟨en, hen, q⟩ := List.mem_filterMap.mp hm
      rcases List.mem_cons.mp hen with z | z
      · rw [z, hfr0] at q
        exact e3 (Option.some.inj q).symm
      · exact e4 (List.mem_filterMap.mpr ⟨en, z, q⟩)
    have S3 := inSuite J3 a
    have tested : ∀ {x : Str} {np : Pos} {c : Value}, Names X x c → ∀ {Q : Value → Shared → Prop} {E : Value → Shared → Prop}, Q c { s' with heap := h3 } → wpAny (model X.prog X.w) (X.A.mark (some (.ref a))) (eval (.Name x np) X.env) Q E { s' with heap := h3 } := fun {x np c} hc {Q E} q => by
      obtain ⟨hg, hdbg, hm | ⟨hm, hv, hnn⟩⟩ := hc
      · exact ld_glob (X := X.suite a (X.pn ++ pins)) S3 hg hm q hdbg
      · exact ld_blt (X := X.suite a (X.pn ++ pins)) S3 hg hm hv q hnn hdbg
    have kind : PySem.W.Looks (model X.prog X.w) h3 (typeOf (.ref a)) cls := fun A Q E s k q => wpAny_typeOf_ref (k _ _ he3) (by rw [hz3.1]; exact q)
    -- the object told of, in a suite
    have enter : ∀ {C dd : Addr} {h4 : Heap}, cls = .ref C → d = some dd → HandSPX.FlyingZ B (X.env :: X.outer) a (Zc cls d) h4 → h3.UpToSlots h4 → L2.Inv (X.suite a (X.pn ++ pins)) [] σ' (upd H' a (excH a C dd)) { s' with heap := h4 } := fun {C dd h4} ec ed fly4 up4 => by
      have J4 : L2.Inv X pins σ' H' { s' with heap := h4 } := J.landed ground fly4.1 ((up.trans up3).trans up4) hos gens
      obtain ⟨oe4, vs4, he4, hz4, hd4⟩ := fly4.there
      exact inSuite (tell J4 noA he4 hd4 (fun H2 => excH_ok he4 (hz4.1.trans ec) (hz4.2.trans ed) hd4) offS notLoc offPins fun y z => by unfold excH at z; cases z) a
    have walk : ∀ {hs' : List ExceptHandler} {cl' : List Cl}, HdsC X hs' cl' → wC X.K X.N.length Wout D' cl' cls d σ' H' → wpAny (model X.prog X.w) X.A (handleBy (.ref a) X.env hs') (SP X pins D') X.xe { s' with heap := h3 } := by
      intro hs' cl' hk
      induction hk with
      | nil =>
        intro q
        refine wpAny_handleBy_nil ?_
        obtain ⟨_, _, _, ob, fv, tb', oT, tv, g1, g2, g3, g4, _⟩ := id fly3
        unfold PySem.passOn
        refine wpAny_bind (wpAny_field g1 g3 g4 ?_)
        rw [if_neg (show ¬ ((Value.ref tb' == Value.none) = true) from by simp)]
        have on : wpAny (model X.prog X.w) X.A (setFlight (.ref a) X.env.frame) (fun _ s4 => wpAny (model X.prog X.w) X.A (throw (.ref a) : Sem Flow) (SP X pins D') X.xe s4) X.xe { s' with heap := h3 } := by
          rw [hfr0]
          refine HandSPX.setFlight_upZ fly3 fun h4 held4 up4 => wpAny_throw (tk _ _ ?_)
          exact ⟨a, B, sI, pins, σ', H', cls, d, rfl, J, ground, (up.trans up3).trans up4, .inr (.inr (by rw [hst]; exact held4)), noA, hos, gens, q⟩
        first
          | exact wpAny_bind (wpAny_pure (wpAny_bind on))
          | exact wpAny_bind on
      | cons hc hsu _ ih =>
        intro q
        obtain ⟨b, hb1, yes, no⟩ := q
        refine wpAny_handleBy_cons (codeAny_handlers_test ?_) (by intro z; cases z)
        refine tested hc ((PySem.W.exm_one (M := model X.prog X.w) J3.kIn kind hb1).here ?_)
        cases b with
        | false => exact ih (no rfl)
        | true =>
          obtain ⟨C, dd, ec, ed, run⟩ := yes rfl
          refine codeAny_handlers_suite ?_
          refine HandSPX.lands_againZ fly3 fun h4 fly4 up4 => ?_
          refine wpAny_mono ((hsu a C dd (X.pn ++ pins)).run [] _ _ _ _ (enter ec ed fly4 up4) (run a σ' noA J.len)) (fun fl s6 done => ?_) (fun _ _ z => False.elim z)
          cases fl with
          | ret u =>
            obtain ⟨v6, σ6, H6, S6, r6, q6⟩ := done
            exact ⟨_, _, _, outSuite S6 good, r6, q6⟩
          | next => exact let ⟨σ6, H6, S6, q6⟩ := done; ⟨_, _, outSuite S6 good, q6⟩
          | brk => exact let ⟨σ6, H6, S6, q6⟩ := done; ⟨_, _, outSuite S6 good, q6⟩
          | cont => exact let ⟨σ6, H6, S6, q6⟩ := done; ⟨_, _, outSuite S6 good, q6⟩
      | @consAs x n i c ts b₀ suite np pos' hds2 l2 hc hi hln hsu _ ih =>
        intro q
        obtain ⟨b, hb1, yes, no⟩ := q
        refine wpAny_handleBy_cons (codeAny_handlers_test ?_) (by intro z; cases z)
        refine tested hc ((PySem.W.exm_one (M := model X.prog X.w) J3.kIn kind hb1).here ?_)
        cases b with
        | false => exact ih (no rfl)
        | true =>
          obtain ⟨C, dd, ec, ed, run⟩ := yes rfl
          refine codeAny_handlers_suite_as ?_
          refine HandSPX.lands_againZ fly3 fun h4 fly4 up4 => ?_
          refine store_ok (X := X.suite a (X.pn ++ pins)) (v := .ref a) (enter ec ed fly4 up4) hN hi (.inl hln) rfl (fun s5 S5 => ?_) (.inr hln)
          refine wpAny_mono ((hsu a C dd (X.pn ++ pins)).run [] s5 _ _ _ S5 (run a σ' noA J.len)) (fun fl s6 done => ?_) (fun _ _ z => False.elim z)
          have gone : ∀ {σ6 : L2.St} {H6 : Hp} {Q : Shared → Prop}, L2.Inv (X.suite a (X.pn ++ pins)) [] σ6 H6 s6 → (∀ s7, L2.Inv X pins (σ6.set i none) H6 s7 → Q s7) →
              wpAny (model X.prog X.w) X.A (do bindName X.env n .none; unbindBehindTheSuite X.env n pos') (fun _ s7 => Q s7) X.xe s6 := fun {σ6 H6 Q} S6 hq => gone_ok (outSuite S6 good) hN hi hln hq
          cases fl with
          | ret u =>
            obtain ⟨v6, σ6, H6, S6, r6, q6⟩ := done
            exact gone S6 fun s7 J7 => ⟨_, _, _, J7, r6, q6⟩
          | next => exact let ⟨σ6, H6, S6, q6⟩ := done; gone S6 fun s7 J7 => ⟨_, _, J7, q6⟩
          | brk => exact let ⟨σ6, H6, S6, q6⟩ := done; gone S6 fun s7 J7 => ⟨_, _, J7, q6⟩
          | cont => exact let ⟨σ6, H6, S6, q6⟩ := done; gone S6 fun s7 J7 => ⟨_, _, J7, q6⟩
    exact walk hh wish
  · cases fl with
    | next => exact let ⟨σ', H', J', q⟩ := done; wpAny_execs_nil ⟨σ', H', J'.ofTry good, q⟩
    | brk => exact let ⟨σ', H', J', q⟩ := done; ⟨σ', H', J'.ofTry good, q⟩
    | cont => exact let ⟨σ', H', J', q⟩ := done; ⟨σ', H', J'.ofTry good, q⟩
    | ret u => exact let ⟨v, σ', H', J', r, q⟩ := done; ⟨v, σ', H', J'.ofTry good, r, q⟩
end
section
variable {K : PySem.W.Frag} {G : Gh} {Y Y2 β β2 : List Addr} {S S2 : Store} {H H2 : Hp}
theorem Ok.land (o0 : Ok K G Y β S H) (o : Ok K ⟨[⟨Y, β, S, H⟩], G.T⟩ Y2 β2 S2 H2) : Step K G Y β S H β2 S2 H2 ∧ Ex (hid Y2 β2 S2 H2) (hid Y β2 S2 H2) := by
  have sn := o.gh _ (List.mem_singleton.mpr rfl)
  have sub : ∀ a ∈ Y, a ∈ Y2 := fun a ha => (sn.ext a ha).1
  have ex : Ex (hid Y2 β2 S2 H2) (hid Y β2 S2 H2) := fun b u h => by
    unfold hid at h ⊢
    split at h
    · cases h
    · rename_i hn
      rw [if_neg]
      · exact h
      · rintro (h' | h')
        · exact hn (.inl (sub b h'))
        · exact hn (.inr h')
  have ex2 : Ex (hid Y β S H) (hid Y β2 S2 H2) := sn.ex.trans ex
  have ext : ∀ a ∈ Y, Kept H H2 a := fun a ha => (sn.ext a ha).2
  refine ⟨⟨sn.pre, ex2, ext, sn.trk, ⟨o.len, o.nd, fun a ha hY => o.out a ha (sub a hY), o.trk, fun a ha => o.xtrk a (sub a ha), fun n so e => ?_, fun w hw => (o0.gh w hw).on sn.pre ex2 ext sn.trk, ⟨o.tb.tabs, o0.tb.hid, fun a ha => o.tb.nt a (sub a ha)⟩⟩⟩, ex⟩
  obtain ⟨a, e1, r⟩ := o.obj n so e
  exact ⟨a, e1, r.keep ex (.refl _) fun _ => rfl⟩
theorem Rel.off {ρ : Rho} {σ : L2.St} (r : Rel K G Y β S ρ σ H) (j : Nat) : Rel K G Y β S (ρ.set j none) (σ.set j none) H := by
  refine ⟨r.ok, by rw [List.length_set, List.length_set]; exact r.len, fun i e h => ?_⟩
  by_cases hj : j = i
  · subst hj
    by_cases hl : j < ρ.length
    · rw [List.getElem?_set_self hl] at h
      cases h
    · rw [List.getElem?_eq_none (by simpa using hl)] at h
      cases h
  · rw [List.getElem?_set_ne hj] at h ⊢
    exact r.get i e h
theorem Rel.blank {σ : L2.St} {n : Nat} (o : Ok K G Y β S H) (hl : σ.length = n) : Rel K G Y β S (List.replicate n none) σ H := ⟨o, by rw [List.length_replicate]; exact hl.symm, fun i d e => by
  rw [List.getElem?_replicate] at e
  split at e <;> cases e⟩
end
structure ClD where
  c : Value
  nm : Option Nat
  td : TSd
abbrev offD (i : Nat) (N : DN) : DN := { nx := fun ρ S => N.nx (ρ.set i none) S, rt := N.rt, bk := fun ρ S => N.bk (ρ.set i none) S, ct := fun ρ S => N.ct (ρ.set i none) S }
def ClD.run (x : ClD) (n : Nat) (N : DN) (ex : Exn) (S : Store) : Prop := match x.nm with
  | none => x.td N (List.replicate n none) (S ++ [some (.exc ex.1 ex.2)])
  | some i => x.td (offD i N) ((List.replicate n none).set i (some (.ref S.length))) (S ++ [some (.exc ex.1 ex.2)])
def handle (K : PySem.W.Frag) (n : Nat) (EDo : XD) (N : DN) : List ClD → XD
  | [] => EDo
  | x :: r => fun ex S => ∃ b, PySem.W.exmOne K (.ref ex.1) x.c = some b ∧ (b = true → x.run n N ex S) ∧ (b = false → handle K n EDo N r ex S)
def sTry (K : PySem.W.Frag) (n : Nat) (EDo : XD) (tb : XD → TSd) (cl : List ClD) : TSd := fun N ρ S => tb (handle K n EDo N cl) N ρ S
inductive HdsD (X : Cx) (G : Gh) : List ExceptHandler → List ClD → Prop
  | nil : HdsD X G [] []
  | cons {x : Str} {c : Value} {td : TSd} {b₀ : Stmt} {suite : List Stmt} {np pos' : Pos} {hds : List ExceptHandler} {l : List ClD} (hc : Names X x c)
      (hsu : ∀ (a : Addr) (pn : List (Addr × Obj)), PSs (X.suite a pn) (b₀ :: suite) (tS X.K G td)) (r : HdsD X G hds l) : HdsD X G (.ExceptHandler (some (.Name x np)) none (b₀ :: suite) pos' :: hds) (⟨c, none, td⟩ :: l)
  | consAs {x n : Str} {i : Nat} {c : Value} {td : TSd} {b₀ : Stmt} {suite : List Stmt} {np pos' : Pos} {hds : List ExceptHandler} {l : List ClD} (hc : Names X x c) (hi : X.N[i]? = some n) (hln : X.env.kindOf n = some .local)
      (hsu : ∀ (a : Addr) (pn : List (Addr × Obj)), PSs (X.suite a pn) (b₀ :: suite) (tS X.K G td)) (r : HdsD X G hds l) : HdsD X G (.ExceptHandler (some (.Name x np)) (some n) (b₀ :: suite) pos' :: hds) (⟨c, some i, td⟩ :: l)
section
variable {X : Cx} {G : Gh} {hds : List ExceptHandler} {cl : List ClD}
theorem HdsD.toC (h : HdsD X G hds cl) : HdsC X hds (cl.map fun x => ⟨x.c, x.nm, fun _ _ _ => tS X.K G x.td⟩) := by
  induction h with
  | nil => exact .nil
  | cons hc hsu _ ih => exact .cons hc (fun a _ _ pn => hsu a pn) ih
  | consAs hc hi hln hsu _ ih => exact .consAs hc hi hln (fun a _ _ pn => hsu a pn) ih
variable {body : List Stmt} {hd₀ : ExceptHandler} {pos : Pos} {tb : XD → TSd} {Wout : WX} {EDo : XD}
theorem ds_try (hst : X.stack = X.env :: X.outer) (hfr0 : X.env.frame = some X.env.locals) (hex : X.ex = []) (hN : X.N.Nodup) (tk : Takes X Wout)
    (hout : ∀ Y β S H, Ok X.K G Y β S H → ∀ cls d σ2 H2, WD X.K G.T ⟨Y, β, S, H⟩ EDo cls d H2 → Wout cls d σ2 H2)
    (hb : ∀ (w0 : W0) (ED : XD) (pn : List (Addr × Obj)) (xe : Value → Shared → Prop), Takes (X.tr pn xe) (fun cls d _ H => WD X.K G.T w0 ED cls d H) → PassesOwn (model X.prog X.w) X.A X.env xe → PSs (X.tr pn xe) body (tS X.K ⟨w0 :: G.w, G.T⟩ (tb ED)))
    (hh : HdsD X G (hd₀ :: hds) cl) : PS X (.Try body (hd₀ :: hds) [] [] pos) (tS X.K G (sTry X.K X.N.length EDo tb cl)) := by
  refine (ps_tryC (tb := fun W D' σ H => ∃ (w0 : W0) (ED : XD), (∀ cls d σ2 H2, WD X.K G.T w0 ED cls d H2 → W cls d σ2 H2) ∧ tS X.K ⟨w0 :: G.w, G.T⟩ (tb ED) D' σ H) hst hfr0 hex hN tk
    (fun W pn xe tk' po => ⟨fun pins s σ H D' I ⟨w0, ED, hw, q⟩ => (hb w0 ED pn xe (tk'.imp fun cls d σ2 H2 h => hw cls d σ2 H2 h) po).run pins s σ H D' I q⟩) hh.toC).imp ?_
  rintro D' σ H ⟨Y, β, S, ρ, N, rl, q, l⟩
  refine ⟨⟨Y, β, S, H⟩, handle X.K X.N.length EDo N cl, ?_, Y, β, S, ρ, N, ⟨rl.ok.mind, rl.len, rl.get⟩, q, ⟨fun ρ' S' σ' β' H' s' r' => l.nx ρ' S' σ' β' H' (s'.free.back rl.ok) ⟨(s'.free.back rl.ok).ok, r'.len, r'.get⟩, fun d S' v β' H' s' => l.rt d S' v β' H' (s'.free.back rl.ok),
    fun ρ' S' σ' β' H' s' r' => l.bk ρ' S' σ' β' H' (s'.free.back rl.ok) ⟨(s'.free.back rl.ok).ok, r'.len, r'.get⟩, fun ρ' S' σ' β' H' s' r' => l.ct ρ' S' σ' β' H' (s'.free.back rl.ok) ⟨(s'.free.back rl.ok).ok, r'.len, r'.get⟩⟩⟩
  intro cls d σ2 H2 hw
  obtain ⟨C, dd, fs, es, Y2, β2, S2, rfl, rfl, o2, hdd, hf, hq⟩ := hw
  clear hh q
  induction cl with
  | nil => exact hout Y β S H rl.ok _ _ σ2 H2 ⟨C, dd, fs, es, Y2, β2, S2, rfl, rfl, o2, hdd, hf, hq⟩
  | cons x r ih =>
    obtain ⟨b, hb1, yes, no⟩ := hq
    refine ⟨b, hb1, fun eb => ⟨C, dd, rfl, rfl, fun a σ' ha hl => ?_⟩, fun eb => ih (no eb)⟩
    obtain ⟨s1, ex1⟩ := rl.ok.land o2
    have s2 := s1.ok.catch (p := a) (C := C) ha (ex1 _ _ hdd) (hf.mono ex1 (.refl _))
    have s12 := s1.trans s2
    have blank : Rel X.K G Y (β2 ++ [a]) (S2 ++ [some (.exc C es)]) (List.replicate X.N.length none) σ' (upd H2 a (excH a C dd)) := Rel.blank s2.ok hl
    have run := yes eb
    have l2' := l.step s12
    obtain ⟨xc, xn, xt⟩ := x
    cases xn with
    | none => exact ⟨Y, _, _, _, N, blank, run, l2'⟩
    | some i =>
      refine ⟨Y, _, _, _, offD i N, blank.set (v := .ref a) (d := .ref S2.length) (.ref ?_) i, run, ⟨fun ρ' S' σ3 β' H' s' r' => l2'.nx _ S' _ β' H' s' (r'.off i), l2'.rt, fun ρ' S' σ3 β' H' s' r' => l2'.bk _ S' _ β' H' s' (r'.off i), fun ρ' S' σ3 β' H' s' r' => l2'.ct _ S' _ β' H' s' (r'.off i)⟩⟩
      rw [← s1.ok.len, List.getElem?_append_right (Nat.le_refl _), Nat.sub_self]
      rfl
end
end NC
set_option Elab.async false
set_option linter.all false
set_option maxRecDepth 100000
set_option maxHeartbeats 1000000
namespace NC
open PySem PySem.Spec PyProof.Rows L2
open Evl (Ex)
theorem fnH_ok {P : Program} {w : World} {H : Hp} {h : Heap} {a : Addr} {o : Obj} (e : h.get? a = some o) : ObjOk P w H h a (fnH a o) := ⟨e, ⟨o, e⟩, fun _ _ q k => k _ q⟩
theorem fnH_at {P : Program} {w : World} {H : Hp} {h : Heap} {a : Addr} {o : Obj} (hok : HOk P w H h) (e : H a = some (fnH a o)) : h.get? a = some o := by
  have z : ObjOk P w H h a (.ext fun h => h.get? a = some o) := hok a _ e
  exact z.1
abbrev lamN (X : Cx) : Str := X.env.qual ++ "<lambda>"
abbrev lamC (X : Cx) (sc : Scope) : List (Str × Addr) := cloFrom X.env.cells sc.names []
abbrev lamO (X : Cx) (ps : Arguments) (b : Expr) (sc : Scope) (pm : Value) (c' : Addr) (ct : Value) : Obj := PySem.W.kla_obj "<lambda>" (lamN X) ps b sc (lamC X sc) pm c' ct
theorem among_more {pos : Pos} {cv : Value} (l r : List Value) (h : TriplesOk l) (e : codeAmong pos l = some cv) : codeAmong pos (l ++ r) = some cv := by
  fun_induction TriplesOk l with
  | case1 => simp [codeAmong] at e
  | case2 a t b u x rest ih =>
    simp only [List.cons_append, codeAmong] at e ⊢
    split at e
    · rename_i q
      rw [if_pos q]
      exact e
    · rename_i q
      rw [if_neg q]
      exact ih h e
  | case3 l h1 h2 => exact h.elim
section
variable {X : Cx} {pins : List (Addr × Obj)} {σ : L2.St} {H : Hp} {s : Shared}
theorem lam_made {T : List (Addr × Str)} {c P : Addr} {ps : Arguments} {b : Expr} {sc : Scope} {pos : Pos} {E Q : Value → Shared → Prop} (I : L2.Inv X pins σ H s) (B : LamX.TabB X.base X.mg c P) (hc : X.env.code = .ref c)
    (inT : (P, lamN X) ∈ T) (one : ∀ p ∈ T, p.1 = P → p.2 = lamN X) (hT : LamX.Tabs T H) (nd : defaultsOf ps X.env = ([], [])) (fr : ∀ y ∈ sc.names, y.2 = .free → ∃ c, X.env.cells.lookup y.1 = some c)
    (k : ∀ (f c' : Addr) (pm ct : Value) (H1 : Hp) (s' : Shared), L2.Inv X pins σ (upd H1 f (fnH f (lamO X ps b sc pm c' ct))) s' → H1 f = none → (∀ a o, a ≠ P → H a = some o → H1 a = some o) → (∃ q, H1 P = some (.tbl q) ∧ LamX.TabS H1 P (lamN X) ∧ codeAmong pos q.toList = some (.ref c')) →
      LamX.Tabs T H1 → Q (.ref f) s') :
    wpAny (model X.prog X.w) X.A (eval (.Lambda ps b sc pos) X.env) Q E s := by
  obtain ⟨tb, hP, tri, am⟩ := hT _ inT
  apply PySem.W.kla_eval nd
  have bi := B.bm.keeps I.bk
  have atP := I.hok P _ hP
  cases hit : codeAmong pos tb.toList with
  | some cv =>
    obtain ⟨c', rfl, known⟩ := am pos cv hit
    refine PySem.W.kla_makeFunctionHit (P := P) (c := c) (mg := X.mg) (closure_ok fr) I.ok.glob (I.mod.glob.keeps I.bk) hc (B.code.keeps I.bk) atP tri hit bi ?_
    intro ct h1 tk keep size
    have new : H h1.objs.size = none := I.hok.fresh size
    exact k _ c' _ ct H _ ((I.kept (t' := tk) keep).laid (t' := tk) (fun a o e => Heap.get?_push_of_some _ e) (Nat.le_refl _) (fnH_ok (Heap.get?_push_size _ rfl))) new (fun _ _ _ e => e) ⟨_, hP, hT _ inT, hit⟩ hT
  | none =>
    refine PySem.W.kla_makeFunction (P := P) (c := c) (mg := X.mg) (closure_ok fr) I.ok.glob (I.mod.glob.keeps I.bk) hc (B.code.keeps I.bk) atP tri hit B.gP bi ?_
    intro c' ct h1 tk but ge lt rc tab
    obtain ⟨c2, oc, fs, t, e2, ho, hd, hq⟩ := rc
    cases e2
    have nc : H c' = none := I.hok.fresh ge
    have J := LamX.inv_table (q := lamN X) (more := #[rawInt pos.line, rawInt pos.col, .ref c']) (t' := tk) I hP (fun a o ha e => but a o ha e) tab ge ⟨oc, fs, t, ho, hd, hq⟩
    have size : s.heap.objs.size ≤ h1.objs.size := Nat.le_trans ge (Nat.le_of_lt lt)
    have J2 := J.laid (t' := tk) (a := h1.objs.size) (h' := h1.push (lamO X ps b sc ((X.mg "__name__").getD .none) c' ct)) (o := fnH h1.objs.size (lamO X ps b sc ((X.mg "__name__").getD .none) c' ct)) (fun a o e => Heap.get?_push_of_some _ e) (Nat.le_refl _) (fnH_ok (Heap.get?_push_size _ rfl))
    have ncP : P ≠ c' := fun e => by
      rw [e, nc] at hP
      cases hP
    have grown : ∀ a o, a ≠ P → H a = some o → upd (upd H P (.tbl (tb ++ #[rawInt pos.line, rawInt pos.col, .ref c']))) c' (LamX.CodeO c' (lamN X)) a = some o := fun a o ha e => by
      have : a ≠ c' := fun z => by
        rw [z, nc] at e
        cases e
      rw [upd_ne this, upd_ne ha]
      exact e
    have tabP : upd (upd H P (.tbl (tb ++ #[rawInt pos.line, rawInt pos.col, .ref c']))) c' (LamX.CodeO c' (lamN X)) P = some (.tbl (tb ++ #[rawInt pos.line, rawInt pos.col, .ref c'])) := by rw [upd_ne ncP, upd_same]
    have el : (tb ++ #[rawInt pos.line, rawInt pos.col, Value.ref c']).toList = tb.toList ++ [rawInt pos.line, rawInt pos.col, .ref c'] := by simp
    have notP : ∀ {d : Addr} {q : Str}, H d = some (LamX.CodeO d q) → d ≠ P := fun {d q} e z => by
      rw [z, hP] at e
      exact LamX.codeO_ne _ (Option.some.inj e).symm
    have allT : LamX.Tabs T (upd (upd H P (.tbl (tb ++ #[rawInt pos.line, rawInt pos.col, .ref c']))) c' (LamX.CodeO c' (lamN X))) := by
      intro p hp
      by_cases hp1 : p.1 = P
      · rw [one p hp hp1, hp1]
        refine ⟨_, tabP, ?_, ?_⟩
        · rw [el]
          exact TriplesOk_snoc _ _ _ _ tri
        · intro pos' cv e
          rw [el] at e
          cases LamX.among_app _ tri e with
          | inl z =>
            obtain ⟨d, rfl, e2⟩ := am pos' cv z
            exact ⟨d, rfl, grown _ _ (notP e2) e2⟩
          | inr z => exact ⟨c', z, upd_same⟩
      · obtain ⟨q, a1, a2, a3⟩ := hT p hp
        refine ⟨q, grown _ _ hp1 a1, a2, fun pos' cv e => ?_⟩
        obtain ⟨d, e1, e2⟩ := a3 pos' cv e
        exact ⟨d, e1, grown _ _ (notP e2) e2⟩
    exact k _ c' _ ct _ _ J2 (J.hok.fresh (Nat.le_refl _)) grown ⟨_, tabP, allT _ inT, by rw [el]; exact codeAmong_snoc _ tri hit⟩ allT
end
abbrev cxH (X : Cx) (N : List Str) (q : Str) (sc : Scope) (g : Addr) (cd : Value) (s : Shared) (H : Hp) : Cx := cxOf (L2.CX X.prog X.w) X.prog X.w X.K X.mg X.base N q sc g cd X.A X.stack s H fun _ _ _ => False
section
variable {X : Cx} {σ : L2.St} {H : Hp} {s : Shared}
theorem pe_ask {P : Addr} {q : Array Value} {lpos : Pos} {Ng : List Str} {qg : Str} {sg : Scope} {g f c' : Addr} {cdg pm ct : Value} {ps : Arguments} {b : Expr} {sc : Scope} {k i : Nat} {a : Str} {pn : List (Addr × Obj)} {xe : Value → Shared → Prop} {W : WX} {E : XK} {tb : TE} {p1 p2 : Pos} {pins : List (Addr × Obj)}
    (I : L2.Inv X pins σ H s) (hP : H P = some (.tbl q)) (hq : codeAmong lpos q.toList = some (.ref c')) (tri : TriplesOk q.toList) (L : LamX.LamS X.env.scope sc) (hbind : bindArgs (PySem.W.kla_fn "<lambda>" (lamN X) ps b sc (lamC X sc) pm (.ref c') ct) ⟨[], []⟩ = pure [])
    (tk : Takes ((cxH X Ng qg sg g cdg s H).tr pn xe) W) (hW : ∀ cls d σ' H', E cls d H' → W cls d σ' H') (hr : Room (k + 1) (X.A.deeper (envOfC qg sg s.heap.objs.size g cdg))) (hg : X.A.guards = some [])
    (hbody : ∀ (A : Around) (outer : List Env) (s : Shared) (H : Hp), Room k (A.deeper (LamX.lamEnv X sc s.heap.objs.size f c')) → A.guards = some [] → PE (LamX.lamCx X A outer s H E sc f c') b tb)
    (hN : Ng[i]? = some a) (hv : Vis sg a) (hd : (a == ("__debug__" : Str)) = false := by decide) (hcd : (a == ("__classdict__" : Str)) = false := by decide) :
    PE ((cxH X Ng qg sg g cdg s H).tr pn xe) (.Call (.Name a p1) [] [] p2)
      (fun σZ HZ Q => σZ[i]? = some (some (.ref f)) ∧ HZ f = some (fnH f (lamO X ps b sc pm c' ct)) ∧ LamX.TabS HZ P (lamN X) ∧ tb σ HZ Q) := by
  constructor
  rintro pinsZ sZ σZ HZ Q IZ ⟨at_i, at_f, at_t, ht⟩
  apply wpAny_Call_Name_kw
  refine thn ((pe_var (pos := p1) (i := i) hN hv hd hcd).run pinsZ sZ σZ HZ (fun v H1 => v = .ref f ∧ H1 = HZ) IZ ⟨.ref f, at_i, rfl, rfl⟩) ?_
  rintro u s1 ⟨v, H1, I1, rv, rfl, rfl⟩
  obtain rfl : u = Value.ref f := rv
  have obj := fnH_at I1.hok at_f
  apply PySem.W.callWith_F0 ⟨_, _, _, _, obj⟩
  have un : Un (frs X.stack) [] H H1 s.heap s1.heap := I1.base
  obtain ⟨oc, fs, t, e1, e2, e3⟩ : ∃ oc fs t, s1.heap.get? c' = some oc ∧ oc.data = .fields fs ∧ fs[1]? = some (Value.str (lamN X) t) := by
    obtain ⟨ps', z1, z2, z3⟩ := at_t
    obtain ⟨more, z4⟩ := un.tbls P q hP
    rw [z4] at z1
    cases z1
    obtain ⟨d, y1, y2⟩ := z3 lpos (.ref c') (by rw [Array.toList_append]; exact among_more _ _ tri hq)
    cases y1
    exact (I1.hok c' _ y2).1
  have run : codeAny (model X.prog X.w) (X.A.deeper (envOfC qg sg s.heap.objs.size g cdg)) (.call (.ref f) ⟨[], []⟩) (CR (L2.CX X.prog X.w) (envOfC qg sg s.heap.objs.size g cdg :: X.stack) X.prog X.w H1 s1 Q E) s1 := by
    apply PySem.W.kla_callFunE hr.depth obj rfl L.co L.gen rfl ⟨c', oc, fs, t, rfl, e1, e2, e3⟩
    rw [hbind]
    apply wpAny_pure
    refine wpAny_newFunctionEnv (fun y hy => (L.own y hy).2) (fun y hy => nomatch hy) ?_ L.kind
    intro h1 hns but
    refine ⟨I1.nolimit.fresh _ but, ?_⟩
    have keep : ∀ a o, s1.heap.get? a = some o → h1.get? a = some o := fun a o e => but.extBut a o (Nat.ne_of_lt (Heap.lt_size e)) (Heap.get?_push_of_some _ e)
    have J := LamX.lam_start2 (tk := s1.toks + ([] : List (Str × Value)).length) (f := f) (c' := c') (E := E) (outer := envOfC qg sg s.heap.objs.size g cdg :: X.stack) I L I1.env0 hr.hd un hns keep
    apply PySem.W.kla_codeExpr
    refine wpAny_mono ((hbody _ _ s1 H1 (hr.deeper _) hg).run [] _ _ H1 Q J ht) ?_ fun e s' z => z
    rintro v s' ⟨w', H', J', r, q⟩
    exact ⟨w', H', J'.os, J'.bare, J'.base, J'.hok, r, q⟩
  apply wpAny_call
  refine codeAny_mono run ?_
  rintro (e | fl) s' hq
  · exact passes_call tk hW pinsZ σZ H1 s1 e s' I1 hq
  · cases fl with
    | ret u => exact I1.after hq
    | next => exact hq.elim
    | brk => exact hq.elim
    | cont => exact hq.elim
end
structure Fnk where
  n : Nat
  f : Addr
  o : Obj
abbrev AskD := XD → Store → QD → Prop
def eAsk (tl : AskD) (ED : XD) (κ : Fnk) : TD := fun ρ S Q => ρ[0]? = some (some (.ref κ.n)) ∧ S[κ.n]? = some (some (.fn κ.f κ.o)) ∧ tl ED S Q
def eHear (n : Nat) (bh : AskD → Fnk → TSd) (te : XD → TD) : TD := fun ρ S Q => ∀ κ : Fnk, κ.n = S.length → bh (fun ED S' Q' => te ED ρ S' Q') κ { nx := fun _ S' => Q .non S', rt := Q } (startD n [.ref S.length]) (S ++ [some (.fn κ.f κ.o)])
def HearOk (P : Program) (w : World) (K : PySem.W.Frag) (mg : Str → Option Value) (base : Heap) (T : List (Addr × Str)) (k : Nat) (g : Addr) (qual : Str) (N : List Str) (st : Stmt) (a : Str) (bh : AskD → Fnk → TSd) : Prop :=
  ∀ (cdv : Value) (A : Around) (outer : List Env) (s : Shared) (H : Hp) (L : List W0) (κ : Fnk) (tl : AskD), Room k (A.deeper (envOfC qual (defScope st) s.heap.objs.size g cdv)) → A.guards = some [] →
    (∀ (w0 : W0) (ED : XD) (pn : List (Addr × Obj)) (xe : Value → Shared → Prop) (p1 p2 : Pos), Takes ((cxOf (L2.CX P w) P w K mg base N qual (defScope st) g cdv A outer s H fun _ _ _ => False).tr pn xe) (fun cls d _ H => WD K T w0 ED cls d H) →
      PE ((cxOf (L2.CX P w) P w K mg base N qual (defScope st) g cdv A outer s H fun _ _ _ => False).tr pn xe) (.Call (.Name a p1) [] [] p2) (tE K ⟨w0 :: L, T⟩ (eAsk tl ED κ))) →
    PSs (cxOf (L2.CX P w) P w K mg base N qual (defScope st) g cdv A outer s H fun _ _ _ => False) (defBody st) (tS K ⟨L, T⟩ (bh tl κ))
theorem Ok.tabled {K : PySem.W.Frag} {G : Gh} {Y β : List Addr} {S : Store} {H H1 : Hp} {P : Addr} {q : Str} (o : Ok K G Y β S H) (inT : (P, q) ∈ G.T) (keep : ∀ a u, a ≠ P → H a = some u → H1 a = some u) (tab : ∃ ps, H1 P = some (.tbl ps)) (all : LamX.Tabs G.T H1) : Step K G Y β S H β S H1 := by
  obtain ⟨ps, hP, _, _⟩ := o.tb.tabs _ inT
  have hY : P ∈ Y := o.tb.hid _ inT
  have tr : ∀ a, H a ≠ none → H1 a ≠ none := fun a h => by
    by_cases e : a = P
    · subst e
      obtain ⟨ps', h'⟩ := tab
      rw [h']
      simp
    · cases h2 : H a with
      | none => exact (h h2).elim
      | some u =>
        rw [keep a u e h2]
        simp
  have same : ∀ a, a ≠ P → H a ≠ none → H1 a = H a := fun a e h => by
    cases h2 : H a with
    | none => exact (h h2).elim
    | some u => rw [keep a u e h2]
  have ex : Ex (hid Y β S H) (hid Y β S H1) := fun a u h => by
    unfold hid at h ⊢
    split at h
    · cases h
    · rename_i hn
      rw [if_neg hn]
      exact keep a u (fun e => hn (.inl (e ▸ hY))) h
  have ext : ∀ a ∈ Y, Kept H H1 a := fun a ha => by
    by_cases e : a = P
    · subst e
      exact .inr ⟨⟨ps, hP⟩, tab⟩
    · exact .inl (same a e (o.xtrk a ha))
  refine ⟨.refl _, ex, ext, tr, ⟨o.len, o.nd, o.out, fun a ha => tr a (o.trk a ha), fun a ha => tr a (o.xtrk a ha), fun n so e => ?_, fun w hw => (o.gh w hw).on (.refl _) ex ext tr, ⟨all, o.tb.hid, fun a ha us e => by
    rcases ext a ha with z | ⟨_, ps', z⟩
    · exact o.tb.nt a ha us (z ▸ e)
    · rw [z] at e
      cases e⟩⟩⟩
  obtain ⟨a, e1, r⟩ := o.obj n so e
  exact ⟨a, e1, r.keep ex (.refl _) (same a fun z => o.out a (List.mem_of_getElem? e1) (z ▸ hY))⟩
theorem de_hear {X : Cx} {G : Gh} {k : Nat} {x a qual : Str} {g c P : Addr} {fd : FuncData} {st : Stmt} {N : List Str} {bh : AskD → Fnk → TSd} {te : XD → TD} {ps : Arguments} {b : Expr} {sc : Scope} {p lpos pos : Pos}
    (F : Fun X.K x qual st g fd) (Sc : FnScope N [a] (defScope st)) (hb : L2.Binds X.K fd [a] []) (hm : X.mg x = some (.ref g)) (hk : PySem.W.keepIn X.K (.ref g) = true) (hh : HearOk X.prog X.w X.K X.mg X.base G.T (k + 1) g qual N st a bh)
    (B : LamX.TabB X.base X.mg c P) (hc : X.env.code = .ref c) (inT : (P, lamN X) ∈ G.T) (one : ∀ p ∈ G.T, p.1 = P → p.2 = lamN X) (hr : Room (k + 2) X.A) (hgd : X.A.guards = some []) (L : LamX.LamS X.env.scope sc) (nd : defaultsOf ps X.env = ([], []))
    (hbind : ∀ (q : Str) (cl : List (Str × Addr)) (pm cv ct : Value), bindArgs (PySem.W.kla_fn "<lambda>" q ps b sc cl pm cv ct) ⟨[], []⟩ = pure []) (hN : N[0]? = some a) (hv : Vis (defScope st) a)
    (hbody : ∀ (A : Around) (outer : List Env) (s : Shared) (H : Hp) (E : XK) (f c' : Addr) (w0 : W0) (L : List W0) (ED : XD), Room k (A.deeper (LamX.lamEnv X sc s.heap.objs.size f c')) → A.guards = some [] →
      Takes (LamX.lamCx X A outer s H E sc f c') (fun cls d _ H => WD X.K G.T w0 ED cls d H) → PE (LamX.lamCx X A outer s H E sc f c') b (tE X.K ⟨w0 :: L, G.T⟩ (te ED)))
    (hg : Gl X x := by rfl) (hdb : (x == ("__debug__" : Str)) = false := by decide) (hd : (a == ("__debug__" : Str)) = false := by decide) (hcd : (a == ("__classdict__" : Str)) = false := by decide) :
    PE X (.Call (.Name x p) [.Lambda ps b sc lpos] [] pos) (tE X.K G (eHear N.length bh te)) := by
  obtain ⟨oc, od, dV, kV, doc, pm, an, cdv, ct, osl, rfl, lk, hcode⟩ := F.ex
  constructor
  rintro pins s σ H Q I ⟨Y, β, S, ρ, Q', rl, q, kk⟩
  apply wpAny_Call_Name_kw
  refine ld_glob I hg hm ?_ hdb
  apply PySem.W.callWith_K (h₀ := X.base) I.ok.mod.kin hk _ rfl rfl
  refine Calls.spliced_cons (lam_made I B hc inT one rl.ok.tb.tabs nd (L.has I.ok) ?_)
  intro f c' pm' ct' H1 s' I1 hf keep ⟨tb, tabP, tabs, hit⟩ T1
  refine Calls.spliced_nil ⟨I1.kIn, ?_⟩
  have s1 := rl.ok.tabled inT keep ⟨tb, tabP⟩ T1
  have s2 := s1.ok.alloc' (p := f) (ob := fnH f (lamO X ps b sc pm' c' ct')) (so := .fn f (lamO X ps b sc pm' c' ct')) hf fun _ _ _ _ => ⟨rfl, upd_same⟩
  have s12 := s1.trans s2
  have rl2 := rl.step s12
  have tri : TriplesOk tb.toList := by
    obtain ⟨tb', e1, e2, _⟩ := tabs
    rw [tabP] at e1
    cases e1
    exact e2
  have tabP2 : upd H1 f (fnH f (lamO X ps b sc pm' c' ct')) P = some (.tbl tb) := by
    rw [upd_ne, tabP]
    rintro rfl
    rw [hf] at tabP
    cases tabP
  have n0 : (β ++ [f])[S.length]? = some f := by
    rw [← rl.ok.len, List.getElem?_append_right (Nat.le_refl _), Nat.sub_self]
    rfl
  have hrun : codeAny (model X.prog X.w) X.A (.call (.ref g) ⟨[.ref f], []⟩) (CR (L2.CX X.prog X.w) X.stack X.prog X.w (upd H1 f (fnH f (lamO X ps b sc pm' c' ct'))) s' Q fun _ _ _ => False) s' := by
    have bnd := hb s' [.ref f] I1.kIn rfl
    apply codeAny_call_function hr.depth (I1.kIn _ _ lk) rfl Sc.co Sc.gen rfl (PySem.W.codeRec_of I1.kIn hcode)
    apply bnd
    refine wpAny_newFunctionEnv_cells Sc.kind (fun y hy => ?_) ?_
    · rcases Sc.par y.1 (List.of_mem_zip (show (y.1, y.2) ∈ [a].zip [Value.ref f] from hy)).1 with z | z
      · exact .inl z
      · exact .inr ⟨z, PySem.W.cellsFrom_some _ _ _ (.inl z)⟩
    rintro env rfl s3 inc
    refine ⟨I1.nolimit.keeps inc.toInCall.keep, codeAny_func ?_⟩
    have J := inv_start (CX := L2.CX X.prog X.w) (E := fun _ _ _ => False) (f := g) (cd := cdv) (qual := qual) (vs := [V.ref f]) Sc hr.hd I1.env0 rfl (.cons rfl .nil) inc
    let κ : Fnk := ⟨S.length, f, lamO X ps b sc pm' c' ct'⟩
    have w1 := s12.ok.free.mind
    have body := hh cdv X.A X.stack s' (upd H1 f (fnH f (lamO X ps b sc pm' c' ct'))) [⟨Y, β ++ [f], S ++ [some (.fn f (lamO X ps b sc pm' c' ct'))], upd H1 f (fnH f (lamO X ps b sc pm' c' ct'))⟩] κ (fun ED S' Q' => te ED ρ S' Q') (hr.deeper _) hgd ?_
    · have go := body.run [] s3 (L2.start N [V.ref f]) (upd H1 f (fnH f (lamO X ps b sc pm' c' ct'))) { nx := fun _ H' => Q .non H', rt := Q } J ⟨Y, _, _, _, _, start_rel w1 (.cons (.ref n0) .nil), q κ rfl, ⟨fun ρ' S' σ' β' H' st' r' q' => kk .non S' .non β' H' (s12.trans (st'.free.back s12.ok)) .non q', fun d S' v β' H' st' r' q' => kk d S' v β' H' (s12.trans (st'.free.back s12.ok)) r' q', fun _ _ _ _ _ _ _ z => z.elim, fun _ _ _ _ _ _ _ z => z.elim⟩⟩
      refine wpAny_mono go ?_ fun e s' z => z
      rintro fl s4 hs
      cases fl with
      | ret u =>
        obtain ⟨v, σ', H', J', rv, q'⟩ := hs
        exact ⟨v, H', J'.os, J'.bare, J'.base, J'.hok, rv, q'⟩
      | next =>
        obtain ⟨σ', H', J', q'⟩ := hs
        exact ⟨.non, H', J'.os, J'.bare, J'.base, J'.hok, rfl, q'⟩
      | brk => exact (hs.choose_spec.choose_spec.2).elim
      | cont => exact (hs.choose_spec.choose_spec.2).elim
    · intro w0 ED pn xe p1 p2 tk
      refine (pe_ask (E := fun cls d H => WD X.K G.T w0 ED cls d H) (i := 0) (pm := pm') (ct := ct') I1 tabP2 hit tri L (hbind _ _ _ _ _) tk (fun _ _ _ _ h => h) (hr.deeper _) hgd (fun A outer s5 H5 room gd => hbody A outer s5 H5 _ f c' w0 [⟨Y, β ++ [f], S ++ [some (.fn f (lamO X ps b sc pm' c' ct'))], upd H1 f (fnH f (lamO X ps b sc pm' c' ct'))⟩] ED room gd (takes_of rfl rfl rfl rfl)) hN hv hd hcd).imp ?_
      rintro σZ HZ QZ ⟨YZ, βZ, SZ, ρZ, Q2, rZ, ⟨e1, e2, q2⟩, kZ⟩
      obtain ⟨v, ev, rv⟩ := rZ.get 0 _ e1
      obtain ⟨b', eb, rfl, hfn⟩ := rZ.ok.obj _ _ e2
      have ev' : v = .ref b' := by
        cases rv with
        | ref h =>
          rw [eb] at h
          cases h
          rfl
      refine ⟨by rw [ev, ev'], hfn, rZ.ok.tb.tabs _ inT, YZ, βZ, SZ, ρ, Q2, ⟨rZ.ok, rl2.len, fun i d e => ?_⟩, q2, kZ⟩
      obtain ⟨v2, ev2, rv2⟩ := rl2.get i d e
      have sn := rZ.ok.gh _ (List.mem_cons_of_mem _ (List.mem_cons_self ..))
      exact ⟨v2, ev2, rv2.mono sn.ex sn.pre⟩
  refine wpAny_call (codeAny_mono hrun ?_)
  rintro (e | fl) s4 hq
  · obtain ⟨_, _, _, _, _, _, _, _, _, _, _, _, z⟩ := hq
    exact z.elim
  · cases fl with
    | ret u => exact I1.after hq
    | next => exact hq.elim
    | brk => exact hq.elim
    | cont => exact hq.elim
end NC
set_option Elab.async false
set_option linter.all false
set_option maxRecDepth 100000
set_option maxHeartbeats 4000000
namespace NC
open PySem PySem.Spec PyProof.Rows L2
open Evl (Ex)
section
open PySem.Calls
variable {prog : Program} {w : World} {A : Around} {E : Value → Shared → Prop} {s : Shared} {K : PySem.W.Frag} {x D : Addr} {ox : Obj} {od : Option Obj}
theorem classFound (T : L2.ExcC K D) : PySem.W.findObj K D od "__class__" = some (.bind (.builtin "getset_descriptor.__get__") (.builtin "object.__class__")) := by
  obtain ⟨cd, known, _⟩ := PySem.W.any_some T.hd
  simp [PySem.W.findObj, known, T.ha, T.hn, T.ht]
theorem classAsked {Q : Option Value → Shared → Prop} (T : L2.ExcC K D) (kin : K.In s.heap) (J : PySem.W.InstAt s.heap x ox D od) (k : Q (some (.ref D)) { s with toks := s.toks + 1 }) : wpAny (model prog w) A (getAttr? (.ref x) "__class__") Q E s := by
  rcases s with ⟨hp, gs, dr, tk, os⟩
  have ofType := J.type (M := model prog w)
  have isExc : PySem.W.Looks (model prog w) hp (isInstance (.ref x) (.type "BaseException")) true := by
    exact ofType.andThen (PySem.W.looks_subIn kin T.hs)
  have other : (Value.builtin "BaseException.__getattribute__" == Value.builtin "object.__getattribute__") = false := by decide +kernel
  have plain : ¬ ((onTheHeap (Value.ref D) && Value.builtin "BaseException.__getattribute__" == Value.builtin "object.__getattribute__") = true) := by
    rw [other]
    exact Bool.false_ne_true
  unfold getAttr? getAttrBy? getAttrBy
  apply wpAny_bind
  apply wpAny_mkText
  apply wpAny_bind
  apply wpAny_attempt
  apply wpAny_holding
  apply wpAny_bind
  refine ofType.at ?_
  apply wpAny_bind
  refine (PySem.W.looks_findIn (M := model prog w) kin T.hg).at ?_
  show wpAny _ _ (if (onTheHeap (Value.ref D) && Value.builtin "BaseException.__getattribute__" == Value.builtin "object.__getattribute__") = true then _ else _) _ _ _
  rw [if_neg plain]
  unfold getAttrByItsOwn
  unfold hookBefore
  apply wpAny_bind
  have heaped : onTheHeap (Value.ref D) = true := rfl
  rw [if_pos heaped]
  refine (PySem.W.looks_findIn (M := model prog w) kin T.hk).at ?_
  apply wpAny_bind
  apply wpAny_attempt
  apply wpAny_holding
  unfold callGetattribute
  rw [if_neg (show ¬ ((false && onTheHeap (Value.builtin "BaseException.__getattribute__")) = true) from Bool.false_ne_true)]
  unfold boundAndCalled
  rw [F.excAttr_ValueError.ga.bind (.ref x)]
  apply wpAny_bind
  apply wpAny_pure
  show wpAny _ _ (call (.builtin "BaseException.__getattribute__") [.ref x, .str "__class__" tk]) _ _ _
  apply wpAny_call
  apply codeAny_call_builtin F.excAttr_ValueError.ga.plain F.entry_bexc_ga
  refine @PySem.W.check_slot (model prog w) _ _ ⟨hp, gs, dr, tk + 1, os⟩ "BaseException.__getattribute__" "BaseException" "__getattribute__" (.ref x) [.str "__class__" tk] [] _ (by decide +kernel) (by decide +kernel) isExc (F.args_bexc_ga (.ref x) (.str "__class__" tk)) ?_
  unfold Builtin.«object.__getattribute__»
  apply wpAny_bind
  refine wpAny_of_eq (a := ((Value.ref x : Value), [Value.str "__class__" tk])) (by first | rfl | (simp only [slotArgs]; rfl)) ?_
  apply wpAny_bind
  apply wpAny_pure
  apply wpAny_bind
  refine ofType.at ?_
  apply wpAny_bind
  refine (PySem.W.looks_find (M := model prog w) kin J (classFound T)).at ?_
  show wpAny _ _ (holding [Value.builtin "object.__class__"] (call (.builtin "getset_descriptor.__get__") [.builtin "object.__class__", .ref x, .ref D]) >>= ret) _ _ _
  apply wpAny_bind
  apply wpAny_holding
  apply wpAny_call
  refine PySem.W.class_get (s := ⟨hp, gs, dr, tk + 1, os⟩) (ox := ox) (od := od) kin J T.hm ?_
  apply wpAny_pure
  show wpAny _ _ (handedOut (.ref D)) _ _ _
  rw [PySem.W.handedOut_of (show PySem.W.handedIn (.ref D) = true from rfl)]
  first
    | exact wpAny_pure (wpAny_pure k)
    | exact wpAny_pure k
    | exact wpAny_pure (wpAny_bind (wpAny_pure (wpAny_pure k)))
theorem kit_exc (T : L2.ExcC K D) : PySem.W.KitX K (.ref x) (.ref D) (fun h => ∃ ox od, PySem.W.InstAt h x ox D od) where
  ty := fun _ _ _ ⟨_, _, J⟩ => J.type
  it := fun _ _ kin _ => by
    obtain ⟨cd, known, _⟩ := PySem.W.any_some T.hd
    unfold PySem.W.clsIn at known
    split at known
    case h_1 found =>
      intro A' Q' E' s' k q
      unfold isType
      unfold loadHead
      apply wpAny_bind
      exact wpAny_loadPart (k _ _ (kin _ _ found)) (wpAny_pure q)
    case h_2 => cases known
  ne := fun h tp dd its n sl kin there => by
    obtain ⟨cd, known, _⟩ := PySem.W.any_some T.hd
    unfold PySem.W.clsIn at known
    split at known
    case h_1 found =>
      rw [Bool.eq_false_iff]
      intro q
      have e := Value.ref.inj (beq_iff_eq.mp q)
      rw [← e] at there
      cases (kin _ _ found).symm.trans there
    case h_2 => cases known
  ca := fun kin ⟨_, _, J⟩ k => classAsked T kin J k
end
theorem exc_at {P : Program} {w : World} {H : Hp} {h : Heap} {a C dd : Addr} {fs : List (Str × V)} (hok : HOk P w H h) (e : H a = some (excH a C dd)) (ed : H dd = some (.xd fs)) :
    ∃ (ox : Obj) (od : Obj) (mA : Str → Option Value), PySem.W.InstAt h a ox C (some od) ∧ (∀ f, PySem.W.lookIn f od = some (mA f)) ∧ ∀ f, RelO (fs.lookup f) (mA f) := by
  have z : ObjOk P w H h a (.ext fun h => ∃ (o : Obj) (vs : Array Value), h.get? a = some o ∧ o.cls = .ref C ∧ o.dict = some dd ∧ o.data = .fields vs) := hok a _ e
  obtain ⟨o, vs, e1, e2, e3, e4⟩ := z.1
  have x : ObjOk P w H h dd (.xd fs) := hok dd _ ed
  obtain ⟨mA, ns, r⟩ := x
  obtain ⟨od, ho, hl⟩ := lookIn_ns ns
  exact ⟨o, od, mA, ⟨e1, e2, by unfold PySem.W.notCls; rw [e4] <;> rfl, by rw [e3]; exact ho⟩, hl, r⟩
def xis (K : PySem.W.Frag) (S : Store) (x : D) (C : Addr) : Option Bool := match x with
  | .ref n => match S[n]? with
    | some (some (.exc D _)) => PySem.W.kitOne K (.ref D) (.ref C)
    | _ => none
  | .non => PySem.W.kitOne K (.type "NoneType") (.ref C)
  | _ => none
def eIsX (K : PySem.W.Frag) (C : Addr) (ta : TD) : TD := fun ρ S Q => ta ρ S fun x S1 => (∀ n D es, x = .ref n → S1[n]? = some (some (.exc D es)) → L2.ExcC K D) ∧ ∃ b, xis K S1 x C = some b ∧ Q (.bl b) S1
def rIsX (K : PySem.W.Frag) (C : Addr) : List V → Hp → VK → Prop := fun xs H Q => ∃ (x : V) (b : Bool), xs = [x, .ref C] ∧ Q (.bl b) H ∧
  ((x = .non ∧ PySem.W.kitOne K (.type "NoneType") (.ref C) = some b) ∨ ∃ a D dd fs, x = .ref a ∧ H a = some (excH a D dd) ∧ H dd = some (.xd fs) ∧ L2.ExcC K D ∧ PySem.W.kitOne K (.ref D) (.ref C) = some b)
theorem call_isx {X : Cx} {C : Addr} : CallR X (.builtin "isinstance") (rIsX X.K C) := by
  intro pins s σ H xs us Q I r h
  obtain ⟨x, b, rfl, q, h⟩ := h
  obtain ⟨u1, u2, rfl, r1, r2⟩ := vals2 r
  cases (show u2 = Value.ref C from r2)
  rcases h with ⟨rfl, e⟩ | ⟨a, D, dd, fs, rfl, ha, hd, T, e⟩
  · obtain ⟨P, Z, p, hx⟩ := kit_of I r1 (.base .non)
    exact PySem.W.kia_one Z I.kIn p e hx fun tk => ⟨.bl b, H, I.tok tk, rfl, q⟩
  · cases (show u1 = Value.ref a from r1)
    obtain ⟨ox, od, mA, J, _⟩ := exc_at I.hok ha hd
    exact PySem.W.kia_one (kit_exc T) I.kIn ⟨ox, _, J⟩ e (fun z => nomatch z) fun tk => ⟨.bl b, H, I.tok tk, rfl, q⟩
theorem de_isx {X : Cx} {G : Gh} {C : Addr} {e : Expr} {ta : TD} (h : PE X e (tCB (rIsX X.K C) (tCons (tE X.K G ta) (tCons (tC (.ref C)) tNil)))) : PE X e (tE X.K G (eIsX X.K C ta)) := h.imp fun σ H Q ⟨Y, β, S, ρ, Q', rl, q, k⟩ => ⟨Y, β, S, ρ, _, rl, q, fun x S1 v β1 H1 s1 r1 ⟨tx, b, hb, q1⟩ => by
  refine ⟨v, b, rfl, k _ S1 _ β1 H1 s1 (.bl _) q1, ?_⟩
  cases x with
  | non =>
    cases r1
    exact .inl ⟨rfl, hb⟩
  | ref n =>
    unfold xis at hb
    dsimp only at hb
    split at hb
    · rename_i D es hs
      obtain ⟨a, e1, dd, fs, e2, e3, _⟩ := s1.ok.obj n _ hs
      cases r1 with
      | ref z =>
        rw [e1] at z
        cases z
        exact .inr ⟨a, D, dd, fs, rfl, e2, hid_ex _ _ e3, tx n D es rfl hs, hb⟩
    · cases hb
  | _ => cases hb⟩
def eFld (K : PySem.W.Frag) (f : Str) (ta : TD) : TD := fun ρ S Q => ta ρ S fun x S1 => ∃ n C es d, x = .ref n ∧ S1[n]? = some (some (.exc C es)) ∧ XfC K C ∧ PySem.W.findIn K (.ref C) f = some none ∧ es.lookup f = some d ∧ Q d S1
theorem de_fld {X : Cx} {G : Gh} {f : Str} {e : Expr} {ta : TD} {pos : Pos} (he : PE X e (tE X.K G ta)) (hb : attributeBase e f X.env (eval e X.env) = eval e X.env := by rfl) : PE X (.Attribute e f pos) (tE X.K G (eFld X.K f ta)) := by
  constructor
  rintro pins s σ H Q I ⟨Y, β, S, ρ, Q', rl, q, k⟩
  refine attr_of hb (thn (he.run pins s σ H (fun v H1 => ∃ S1 β1 d, Step X.K G Y β S H β1 S1 H1 ∧ Rep X.K (hid Y β1 S1 H1) β1 v d ∧ ∃ n C es d', d = .ref n ∧ S1[n]? = some (some (.exc C es)) ∧ XfC X.K C ∧ PySem.W.findIn X.K (.ref C) f = some none ∧ es.lookup f = some d' ∧ Q' d' S1) I ⟨Y, β, S, ρ, _, rl, q, fun d S' v β' H' st r q' => ⟨S', β', d, st, r, q'⟩⟩) ?_)
  rintro u s1 ⟨v, H1, I1, rv, S1, β1, d, st, r, n, C, es, d', rfl, hs, T, no, l, q'⟩
  obtain ⟨a, e1, dd, fs, e2, e3, rf⟩ := st.ok.obj n _ hs
  have ev : v = .ref a := by
    cases r with
    | ref z =>
      rw [e1] at z
      cases z
      rfl
  subst ev
  cases (show u = Value.ref a from rv)
  obtain ⟨ox, od, mA, J, look, rel⟩ := exc_at I1.hok e2 (hid_ex _ _ e3)
  obtain ⟨v', l', r'⟩ := rf.look l
  obtain ⟨u', hu, ru⟩ := RelO.some_of (v := v') (o := mA f) (by rw [← l']; exact rel f)
  exact HandSPX.exc_get I1.kIn J T.ga T.gg T.exC (PySem.W.findObj_own T.hdC no rfl (by rw [look, hu])) (handed_of ru) ⟨v', H1, I1.tok _, ru, k d' S1 v' β1 H1 st r' q'⟩
end NC
set_option Elab.async false
set_option linter.all false
set_option maxRecDepth 100000
set_option maxHeartbeats 4000000
namespace NC
open PySem PySem.Spec PyProof.Rows L2
open Evl (Ex)
section
open PySem.Calls
variable {prog : Program} {w : World} {A : Around} {E : Value → Shared → Prop} {s : Shared} {K : PySem.W.Frag} {x D : Addr} {ox : Obj} {od : Option Obj}
theorem classGot {ex : Bool} {Q : Value → Shared → Prop} (T : L2.ExcC K D) (kin : K.In s.heap) (J : PySem.W.InstAt s.heap x ox D od) (k : Q (.ref D) { s with toks := s.toks + 1 }) : wpAny (model prog w) A (getAttr (.ref x) "__class__" ex) Q E s := by
  rcases s with ⟨hp, gs, dr, tk, os⟩
  have ofType := J.type (M := model prog w)
  have isExc : PySem.W.Looks (model prog w) hp (isInstance (.ref x) (.type "BaseException")) true := by
    exact ofType.andThen (PySem.W.looks_subIn kin T.hs)
  have other : (Value.builtin "BaseException.__getattribute__" == Value.builtin "object.__getattribute__") = false := by decide +kernel
  have plain : ¬ ((onTheHeap (Value.ref D) && Value.builtin "BaseException.__getattribute__" == Value.builtin "object.__getattribute__") = true) := by
    rw [other]
    exact Bool.false_ne_true
  have plain2 : ¬ ((ex && onTheHeap (Value.builtin "BaseException.__getattribute__")) = true) := by
    cases ex <;> exact Bool.false_ne_true
  unfold getAttr getAttrBy
  apply wpAny_bind
  apply wpAny_mkText
  apply wpAny_holding
  apply wpAny_bind
  refine ofType.at ?_
  apply wpAny_bind
  refine (PySem.W.looks_findIn (M := model prog w) kin T.hg).at ?_
  show wpAny _ _ (if (onTheHeap (Value.ref D) && Value.builtin "BaseException.__getattribute__" == Value.builtin "object.__getattribute__") = true then _ else _) _ _ _
  rw [if_neg plain]
  unfold getAttrByItsOwn
  unfold hookBefore
  apply wpAny_bind
  have heaped : onTheHeap (Value.ref D) = true := rfl
  rw [if_pos heaped]
  refine (PySem.W.looks_findIn (M := model prog w) kin T.hk).at ?_
  apply wpAny_bind
  apply wpAny_attempt
  apply wpAny_holding
  unfold callGetattribute
  rw [if_neg plain2]
  unfold boundAndCalled
  rw [F.excAttr_ValueError.ga.bind (.ref x)]
  apply wpAny_bind
  apply wpAny_pure
  show wpAny _ _ (call (.builtin "BaseException.__getattribute__") [.ref x, .str "__class__" tk]) _ _ _
  apply wpAny_call
  apply codeAny_call_builtin F.excAttr_ValueError.ga.plain F.entry_bexc_ga
  refine @PySem.W.check_slot (model prog w) _ _ ⟨hp, gs, dr, tk + 1, os⟩ "BaseException.__getattribute__" "BaseException" "__getattribute__" (.ref x) [.str "__class__" tk] [] _ (by decide +kernel) (by decide +kernel) isExc (F.args_bexc_ga (.ref x) (.str "__class__" tk)) ?_
  unfold Builtin.«object.__getattribute__»
  apply wpAny_bind
  refine wpAny_of_eq (a := ((Value.ref x : Value), [Value.str "__class__" tk])) (by first | rfl | (simp only [slotArgs]; rfl)) ?_
  apply wpAny_bind
  apply wpAny_pure
  apply wpAny_bind
  refine ofType.at ?_
  apply wpAny_bind
  refine (PySem.W.looks_find (M := model prog w) kin J (classFound T)).at ?_
  show wpAny _ _ (holding [Value.builtin "object.__class__"] (call (.builtin "getset_descriptor.__get__") [.builtin "object.__class__", .ref x, .ref D]) >>= ret) _ _ _
  apply wpAny_bind
  apply wpAny_holding
  apply wpAny_call
  refine PySem.W.class_get (s := ⟨hp, gs, dr, tk + 1, os⟩) (ox := ox) (od := od) kin J T.hm ?_
  apply wpAny_pure
  show wpAny _ _ (handedOut (.ref D)) _ _ _
  rw [PySem.W.handedOut_of (show PySem.W.handedIn (.ref D) = true from rfl)]
  first
    | exact wpAny_pure (wpAny_pure k)
    | exact wpAny_pure k
    | exact wpAny_pure (wpAny_bind (wpAny_pure (wpAny_pure k)))
structure NameC (K : PySem.W.Frag) (C : Addr) (nm : Str) : Prop where
  reads : PySem.W.readsIn K C (.type "type") = true
  found : PySem.W.findCls K (.ref C) (.type "type") "__name__" = some (.get (.builtin "getset_descriptor.__get__") (.builtin "type.__name__") (.ref C) (.type "type"))
  kept : ∃ o t, K.lookup C = some o ∧ o.slots[2]? = some (some (.str nm t))
set_option maxHeartbeats 400000 in
open Builtin Builtin.ObjectAttr Builtin.Getset_descriptor in
theorem nameGet {C : Addr} {nm : Str} {tp : Value} {R : Result → Shared → Prop} (N : NameC K C nm) (kin : K.In s.heap) (h : ∀ t, R (.ok (.ret (.str nm t))) s) :
    codeAny (model prog w) A (.call (.builtin "getset_descriptor.__get__") ⟨[.builtin "type.__name__", .ref C, tp], []⟩) R s := by
  obtain ⟨o, t, known, sl⟩ := N.kept
  have r1 := N.reads
  simp only [PySem.W.readsIn, Bool.and_eq_true, beq_iff_eq] at r1
  obtain ⟨⟨⟨⟨_, ty⟩, _⟩, _⟩, _⟩ := r1
  rcases s with ⟨hp, gs, dr, tk, os⟩
  have L0 : PySem.W.Looks (model prog w) hp (typeOf (.ref C)) (.type "type") := PySem.W.looks_typeIn kin ty
  have L1 : PySem.W.Looks (model prog w) hp (isSubtype (.type "type") (.type "type")) true := PySem.W.Looks.of_pure (by rw [isSubtype_type]; kernel_rfl)
  have ho : hp.get? C = some o := kin _ _ known
  refine codeAny_call_builtin PySem.W.KF.slot_gs.plain PySem.W.KF.entry_gs (PySem.W.KF.slot_gs.check _ _ _ _ _ _ _ _ PySem.W.ktyn_type (PySem.W.KF.args_gs _ _ _) ?_)
  unfold Builtin.«getset_descriptor.__get__»
  unfold descrGet
  rw [PySem.W.dga_obj]
  apply wpAny_bind
  apply wpAny_pure
  unfold descrGetter descrCheckInstance
  unfold descrNameAndClass isInstance
  simp only [PySem.W.ktyn_owner]
  repeat lk
  constructor
  · exact Code.quiet_builtin _ (by decide +kernel)
  apply codeAny_builtin PySem.W.ktyn_entry
  unfold Builtin.«type.__name__»
  unfold Builtin.keptObject
  unfold PySem.slotAt
  dsimp only
  refine wpAny_bind (wpAny_bind (wpAny_loadPart ho (wpAny_pure ?_)))
  rw [sl]
  exact wpAny_pure (h _)
theorem nameGot {C : Addr} {nm : Str} {ex : Bool} {Q : Value → Shared → Prop} (N : NameC K C nm) (kin : K.In s.heap) (h : ∀ t u, Q (.str nm t) { s with toks := u }) : wpAny (model prog w) A (getAttr (.ref C) "__name__" ex) Q E s := by
  refine PySem.W.cls_bind kin N.reads N.found ?_
  apply wpAny_call
  refine nameGet (s := { s with toks := s.toks + 1 }) N kin fun t => ?_
  exact PySem.W.handed_on rfl (h _ _)
end
end NC
set_option Elab.async false
set_option linter.all false
set_option maxRecDepth 100000
set_option maxHeartbeats 1000000
namespace NC
open PySem PySem.Spec PyProof.Rows L2
open Evl (Ex)
abbrev envI (qual : Str) (sc : Scope) (L fI : Addr) (cdv : Value) (cc : Addr) : Env := PySem.W.ksEnv qual sc L fI cdv cc
def cxI (P : Program) (w : World) (K : PySem.W.Frag) (mg : Str → Option Value) (base : Heap) (N : List Str) (qual : Str) (sc : Scope) (fI : Addr) (cdv : Value) (cc : Addr) (A : Around) (outer : List Env) (s : Shared) (H : Hp) : Cx where
  prog := P
  w := w
  K := K
  mg := mg
  base := base
  A := A.deeper (envI qual sc s.heap.objs.size fI cdv cc)
  N := N
  s_0 := s
  H_0 := H
  env := envI qual sc s.heap.objs.size fI cdv cc
  outer := outer
  stack := envI qual sc s.heap.objs.size fI cdv cc :: outer
  ex := []
  calm := true
  fn := fun _ => false
  pn := []
  xe := fun _ _ => False
section
variable {P : Program} {w : World} {K : PySem.W.Frag} {mg : Str → Option Value} {base : Heap} {qual : Str} {N : List Str} {sc : Scope} {fI cc : Addr} {cdv : Value} {A : Around} {outer : List Env} {s : Shared} {H : Hp} {h1 : Heap} {tk : Nat} {vs : List V} {us : List Value}
theorem inv_init (e0 : Env0 P w K mg base A outer s H) (hd : A.handled = none) (kind : sc.kind = .function) (only : ∀ y, sc.names.lookup y = some .cell ∨ sc.names.lookup y = some .free → y = "__class__")
    (hN : N.Nodup) (lc : ∀ n ∈ N, sc.names.lookup n = some .local) (cell : ∃ v, base.IsCell cc v)
    (ns : h1.Ns s.heap.objs.size fun y => (N.zip us).reverse.lookup y) (kp : ∀ b o, s.heap.get? b = some o → h1.get? b = some o) (r : Vals vs us) (hl : vs.length = N.length) :
    L2.Inv (cxI P w K mg base N qual sc fI cdv cc A outer s H) [] (vs.map some) H { s with heap := h1, toks := tk } := by
  have noA : ∀ b : Addr, b ∉ (cxI P w K mg base N qual sc fI cdv cc A outer s H).ex := fun b z => by cases (show b ∈ ([] : List Addr) from z)
  have one : ∀ {y : Str} {c : Addr}, (cxI P w K mg base N qual sc fI cdv cc A outer s H).env.cells.lookup y = some c → y = "__class__" ∧ c = cc := fun {y c} e => by
    have e : ([(("__class__" : Str), cc)] : List (Str × Addr)).lookup y = some c := e
    simp only [List.lookup] at e
    split at e
    · rename_i q
      cases e
      exact ⟨beq_iff_eq.mp q, rfl⟩
    · cases e
  obtain ⟨cv, co, ce1, ce2⟩ := cell
  obtain ⟨c1, c2⟩ := e0.bs _ _ ce1
  refine ⟨⟨e0.mod, kind, rfl, rfl, Nat.le_refl _, fun y z c e1 e2 => (one e1).1.trans (one e2).1.symm, fun y hy => ?_, fun y c z _ => (nomatch (show false = true from z)), fun _ => hd, Around.frames_deeper e0.frames, .inr ⟨rfl, rfl⟩, fun b z => (noA b z).elim, e0.bs, e0.bsz, fun b _ _ => noA b, fun b z => (noA b z).elim, e0.funs, e0.frf⟩,
    rfl, e0.bare, Un.kept kp, ⟨_, ns, fun i y v e1 e2 e3 => ?_⟩, fun y c e => ?_, e0.hok.fresh (Nat.le_refl _), fun y c e => ?_, fun p hp => (nomatch (show p ∈ ([] : List (Addr × Obj)) from hp)), e0.hok.kept kp, by rw [List.length_map]; exact hl⟩
  · rw [only y hy]
    exact ⟨cc, by simp [cxI, envI, PySem.W.ksEnv, List.lookup]⟩
  · have e1 : N[i]? = some y := e1
    rw [List.getElem?_map] at e2
    obtain ⟨v', hv, ev⟩ := Option.map_eq_some_iff.mp e2
    cases ev
    obtain ⟨u, hu, rv⟩ := r.get hv
    exact ⟨u, rv, .inl ⟨lc y (List.mem_of_getElem? e1), NdefX.zip_look hN e1 hu⟩⟩
  · obtain ⟨rfl, rfl⟩ := one e
    exact ⟨cv, co, kp _ _ c1, ce2⟩
  · obtain ⟨rfl, rfl⟩ := one e
    exact c2
end
structure SupC (K : PySem.W.Frag) (C : Addr) : Prop where
  ox : OexC K C
  xc : L2.ExcC K C
  sup : PySem.W.ks_superIn K C C "__init__" = some (some (.builtin "ValueError.__init__"))
  opq : PySem.W.nsIn K PySem.cStatics "thirdparty.any" = some none
  isV : PySem.W.subIn K (.ref C) (.type "ValueError") = some true
  slf : PySem.W.mroIn K C (.ref C) = some true
section
variable {X : Cx} {pins : List (Addr × Obj)} {σ : L2.St} {H : Hp} {s : Shared} {a C : Addr}
theorem boundInit {u : Addr} {us : List Value} {Q : Value → Shared → Prop} (T : OexC X.K C) (I : L2.Inv X pins σ H s) (e : H a = some (exo a C none)) (hu : s.heap.get? u = some (PySem.W.kxs_mw "ValueError.__init__" a)) (hl : us.length ≤ sizeLine) (h : ∀ s', L2.Inv X pins σ H s' → Q .none s') :
    wpAny (model X.prog X.w) X.A (call (.ref u) us) Q X.xe s := by
  obtain ⟨nm, q, N, bs, bm, sn, sub, ab, col, dd, k0, k1, k2, k3, k5, hC, hbm⟩ := T.cls
  have known := I.kIn _ _ hC
  obtain ⟨t1, ho⟩ := exo_at I.hok e
  rcases s with ⟨hp, gs, dr, tk, os⟩
  apply wpAny_call
  apply codeAny_of_tree
  show wpAny _ X.A.in1 (callAny (.ref u) ⟨us, []⟩) _ _ _
  simp only [callAny]
  refine wpAny_bind (wpAny_load hu ?_)
  have isMw : (Value.type "method-wrapper" == Value.type "method" || Value.type "method-wrapper" == Value.type "builtin_function_or_method" || Value.type "method-wrapper" == Value.type "method-wrapper") = true := by decide
  simp only [PySem.W.kxs_mw, isMw, if_true]
  refine PySem.W.KFB.if_so (by decide) ?_
  apply wpAny_bind
  refine PySem.W.check_bound_init F.excBase_ValueError.toExcCallFacts known ho rfl ?_
  unfold again
  refine wpAny_pure ?_
  constructor
  · exact plainId_quiet F.excBase_ValueError.init.plain _
  apply codeAny_builtin F.excBase_ValueError.initEntry
  refine PySem.W.exc_init_tree (cls := .ref C) (t0 := t1) (dv := none) (c2 := .none) (c3 := .none) (b4 := .bool false) ho hl ?_
  intro h' k hx _
  have J := I.write (t' := tk) (x := a) (e := a) (o := exo a C none) (by rw [e]; exact True.intro) (.inl rfl) k ⟨_, hx⟩ (exo_ok hx)
  have same : upd H a (exo a C none) = H := by
    funext b
    by_cases hb : b = a
    · rw [hb, upd_same, e]
    · rw [upd_ne hb]
  rw [same] at J
  exact h _ J
end
end NC
set_option Elab.async false
set_option linter.all false
set_option maxRecDepth 100000
set_option maxHeartbeats 1000000
namespace NC
open PySem PySem.Spec PyProof.Rows L2
open Evl (Ex)
theorem pe_cn {X : Cx} {C a : Addr} {nm n1 : Str} {p1 p2 p3 : Pos} (T : L2.ExcC X.K C) (N : NameC X.K C nm) (hN : X.N[0]? = some n1) (hv : Vis X.env.scope n1)
    (hd : (n1 == ("__debug__" : Str)) = false := by decide) (hcd : (n1 == ("__classdict__" : Str)) = false := by decide)
    (hb1 : attributeBase (.Attribute (.Name n1 p1) "__class__" p2) "__name__" X.env (eval (.Attribute (.Name n1 p1) "__class__" p2) X.env) = eval (.Attribute (.Name n1 p1) "__class__" p2) X.env := by rfl)
    (hb2 : attributeBase (.Name n1 p1) "__class__" X.env (eval (.Name n1 p1) X.env) = eval (.Name n1 p1) X.env := by rfl) :
    PE X (.Attribute (.Attribute (.Name n1 p1) "__class__" p2) "__name__" p3) (fun σ H Q => H a = some (exo a C none) ∧ σ[0]? = some (some (.ref a)) ∧ Q (.str nm) H) := by
  constructor
  rintro pins s σ H Q I ⟨ha, h0, q⟩
  apply attr_of hb1
  apply attr_of hb2
  refine thn ((pe_var (pos := p1) (i := 0) hN hv hd hcd).run pins s σ H (fun v H1 => v = .ref a ∧ H1 = H) I ⟨.ref a, h0, rfl, rfl⟩) ?_
  rintro u s1 ⟨v, H1, I1, rv, rfl, rfl⟩
  obtain rfl : u = Value.ref a := rv
  obtain ⟨t1, ho⟩ := exo_at I1.hok ha
  have J : PySem.W.InstAt s1.heap a _ C none := ⟨ho, rfl, rfl, True.intro⟩
  apply classGot T I1.kIn J
  refine nameGot (s := { s1 with toks := s1.toks + 1 }) N I1.kIn ?_
  intro t u
  exact ⟨.str nm, H1, I1.tok _, ⟨t, rfl⟩, q⟩
abbrev supText (n1 n2 : Str) (sep : Str) (j : Nat) (p1 p2 p3 p4 p5 p6 p7 p8 : Pos) : Expr :=
  .JoinedStr [.FormattedValue (.Name n2 p1) (-1) none p2, .Constant (.str sep) j p3, .FormattedValue (.Attribute (.Attribute (.Name n1 p4) "__class__" p5) "__name__" p6) (-1) none p7] p8
theorem pe_text {X : Cx} {C a : Addr} {nm n1 n2 sep pt : Str} {j : Nat} {p1 p2 p3 p4 p5 p6 p7 p8 : Pos} (T : L2.ExcC X.K C) (N : NameC X.K C nm) (hN1 : X.N[0]? = some n1) (hv1 : Vis X.env.scope n1) (hN2 : X.N[1]? = some n2) (hv2 : Vis X.env.scope n2)
    (small : pt.length + sep.length + nm.length ≤ sizeLine)
    (hd1 : (n1 == ("__debug__" : Str)) = false := by decide) (hcd1 : (n1 == ("__classdict__" : Str)) = false := by decide) (hd2 : (n2 == ("__debug__" : Str)) = false := by decide) (hcd2 : (n2 == ("__classdict__" : Str)) = false := by decide)
    (hb1 : attributeBase (.Attribute (.Name n1 p4) "__class__" p5) "__name__" X.env (eval (.Attribute (.Name n1 p4) "__class__" p5) X.env) = eval (.Attribute (.Name n1 p4) "__class__" p5) X.env := by rfl)
    (hb2 : attributeBase (.Name n1 p4) "__class__" X.env (eval (.Name n1 p4) X.env) = eval (.Name n1 p4) X.env := by rfl) :
    PE X (supText n1 n2 sep j p1 p2 p3 p4 p5 p6 p7 p8) (fun σ H Q => H a = some (exo a C none) ∧ σ[0]? = some (some (.ref a)) ∧ σ[1]? = some (some (.str pt)) ∧ ∀ x : Str, Q (.str x) H) :=
  (pe_joined (.cons (pe_fmt (pe_var (i := 1) hN2 hv2 hd2 hcd2)) (.cons pe_str (.cons (pe_fmt (pe_cn (a := a) T N hN1 hv1 hd1 hcd1 hb1 hb2)) .nil)))).imp fun σ H Q ⟨ha, h0, h1, q⟩ => by
    have hlen : ∀ x y : Str, (x ++ y).length = x.length + y.length := fun x y => by
      show (x.cps ++ y.cps).size = _
      rw [Array.size_append]
      rfl
    have e0 : (Str.empty ++ pt).length = pt.length := by
      rw [hlen]
      show 0 + _ = _
      omega
    refine ⟨.str pt, h1, .inl ⟨pt, rfl, by omega, pt, rfl, by omega, sep, rfl, ?_, ha, h0, .inl ⟨nm, rfl, by omega, nm, rfl, ?_, q _⟩⟩⟩
    · rw [hlen, e0]
      omega
    · rw [hlen, hlen, e0]
      omega
structure InitF (P : Program) (K : PySem.W.Frag) (mg : Str → Option Value) (qual : Str) (st : Stmt) (fI C : Addr) (fd : FuncData) (cda cc : Addr) : Prop where
  ex : ∃ (oc : Value) (od : Option Addr) (dV kV doc pm : Value) (an : Option Addr) (ct : Value) (osl : Array (Option Value)),
    fd = PySem.W.ksFn "__init__" qual (defArgs st) (defBody st) (defScope st) dV kV doc pm an (.ref cda) ct cc ∧ K.lookup fI = some ⟨oc, od, .func fd, osl⟩ ∧ PySem.W.codeIn K (.ref cda) qual = true
  file : ∃ (cl : Value) (cd : Option Addr) (cs : Array (Option Value)) (vs : Array Value) (fl : Str) (tf : Tok), K.lookup cda = some ⟨cl, cd, .fields vs, cs⟩ ∧ vs[2]? = some (.str fl tf) ∧ ((P.main.file : Str) == fl) = true
  cell : ∃ (cl : Value) (cd : Option Addr) (cs : Array (Option Value)), K.lookup cc = some ⟨cl, cd, .cell (some (.ref C)), cs⟩
  miss : mg "super" = none
  top : (P.main.scope.names.lookup ("super" : Str)).isSome = false
structure InitS (sc : Scope) (N : List Str) : Prop where
  kind : sc.kind = .function
  co : sc.isCoroutine = false
  gen : sc.isGenerator = false
  only : ∀ y, sc.names.lookup y = some .cell ∨ sc.names.lookup y = some .free → y = "__class__"
  nocell : ∀ x ∈ sc.names, x.2 ≠ .cell
  nd : N.Nodup
  lc : ∀ n ∈ N, sc.names.lookup n = some .local
  cls : sc.names.lookup ("__class__" : Str) = some .free
  sup : sc.names.lookup ("super" : Str) = some .globalImplicit
abbrev supCall (e : Expr) (q1 q2 q3 q4 : Pos) : Expr := .Call (.Attribute (.Call (.Name "super" q1) [] [] q2) "__init__" q3) [e] [] q4
theorem bt_super : bootBuiltins "super" = some (.type "super") := by decide +kernel
theorem init_ok {P : Program} {w : World} {K : PySem.W.Frag} {mg : Str → Option Value} {base : Heap} {CX : CXT} {k : Nat} {qual n1 : Str} {N : List Str} {st : Stmt} {fI C cda cc : Addr} {fd : FuncData} {ar : Arg} {q1 q2 q3 q4 q5 : Pos} {e : Expr} {rest : List Stmt} {sp : Sp} {tx : List V → L2.St → Hp → VK → Prop} {tr : TS}
    (T : SupC K C) (F : InitF P K mg qual st fI C fd cda cc) (Sc : InitS (defScope st) (n1 :: N)) (hp : ((defArgs st).posonlyargs ++ (defArgs st).args).head? = some ar) (har : ar.arg = n1)
    (hl : ∀ vs H Q E, sp vs H Q E → vs.length = (n1 :: N).length)
    (body : defBody st = .Expr (supCall e q1 q2 q3 q4) q5 :: rest)
    (hc : ∀ env : Env, ∃ pl : Sem Bool, eval (supCall e q1 q2 q3 q4) env = (do
      let ov ← attributeBase (.Call (.Name "super" q1) [] [] q2) "__init__" env (eval (.Call (.Name "super" q1) [] [] q2) env)
      standAt q3.atName
      let (g, first) ← holding [ov] (getMethod ov "__init__" pl)
      callWith q4 g first (backTo q4 (starEach [e] env)) []))
    (hsw : ∀ env : Env, swapsWith (supCall e q1 q2 q3 q4) none q5.line env = pure false)
    (hse : ∀ env : Env, starEach [e] env = (false, eval e env) :: starEach [] env)
    (htx : ∀ (A : Around) (outer : List Env) (s : Shared) (H : Hp) (vs : List V), PE (cxI P w K mg base (n1 :: N) qual (defScope st) fI (.ref cda) cc A outer s H) e (tx vs))
    (htr : ∀ (A : Around) (outer : List Env) (s : Shared) (H : Hp), PSs (cxI P w K mg base (n1 :: N) qual (defScope st) fI (.ref cda) cc A outer s H) rest tr)
    (hs : ∀ vs H Q E, sp vs H Q E → ∃ a vs', vs = .ref a :: vs' ∧ H a = some (exo a C none) ∧ (∀ Q' : VK, (∀ x : Str, Q' (.str x) H) → tx vs (vs.map some) H Q') ∧ tr { nx := fun _ H' => Q .non H', rt := fun _ _ => False } (vs.map some) H) :
    FnOk P w K mg base CX (k + 1) fI fd (n1 :: N) sp := by
  obtain ⟨oc, od, dV, kV, doc, pm, an, ct, osl, rfl, lk, hcode⟩ := F.ex
  obtain ⟨fcl, fcd, fcs, vs, fl, tf, flk, hvs, hfl⟩ := F.file
  obtain ⟨ccl, ccd, ccs, clk⟩ := F.cell
  refine ⟨hl, ?_⟩
  rintro A outer s H args us vs' Q E hr e0 hb r hsp
  have size := hl _ _ _ _ hsp
  obtain ⟨a, vr, rfl, ha, htx', htr'⟩ := hs _ _ _ _ hsp
  have kin : K.In s.heap := e0.mod.kin.keeps fun b o e => (e0.bs b o e).1
  have lim : s.heap.NoLimit := e0.mod.nolimit.keeps fun b o e => (e0.bs b o e).1
  obtain ⟨nm, q, NN, bs, bm, sn, sub, ab, col, dd, k0, k1, k2, k3, k5, hC, hbm⟩ := T.ox.cls
  have hloc : ∀ y ∈ (n1 :: N).zip us, (defScope st).names.lookup y.1 = some .local := fun y hy => Sc.lc _ (List.of_mem_zip (show (y.1, y.2) ∈ (n1 :: N).zip us from hy)).1
  refine ks_codeAny_call_defAt (binds := (n1 :: N).zip us) hr.depth (kin _ _ lk) rfl lim (PySem.W.codeRec_of kin hcode) rfl hb Sc.nocell hloc (fun h1 ns kp => ?_) Sc.co Sc.gen Sc.kind
  have I := inv_init (qual := qual) (fI := fI) (cdv := .ref cda) (cc := cc) (tk := s.toks + ((n1 :: N).zip us).length) e0 hr.hd Sc.kind Sc.only Sc.nd Sc.lc ⟨_, _, e0.mod.kin _ _ clk, rfl⟩ ns kp r size
  let X := cxI P w K mg base (n1 :: N) qual (defScope st) fI (.ref cda) cc A outer s H
  have I : L2.Inv X [] (V.ref a :: vr |>.map some) H { s with heap := h1, toks := s.toks + ((n1 :: N).zip us).length } := I
  have main : PySem.wpAt (model P w) X.A (.func (defBody st) X.env) (execs (defBody st) X.env) (fun fl s' => fl = .next ∧ CE outer P w H s Q .none s') (fun _ _ => False) { s with heap := h1, toks := s.toks + ((n1 :: N).zip us).length } := by
    rw [body]
    apply ks_wpAt_execs_cons
    obtain ⟨pl, hpl⟩ := hc X.env
    refine ks_wpAt_Expr_any ?_ I.quiet (hsw _)
    refine ks_wpAt_MethodCall (pl := pl) ?_ hpl
    have kin1 : K.In h1 := kin.keeps kp
    have hfd := kp _ _ (kin _ _ lk)
    refine ks_wpAt_super_base (env := envI qual (defScope st) s.heap.objs.size fI (.ref cda) cc) (f := fI) (cc := cda) Sc.sup Sc.cls (by decide) rfl hfd rfl hp rfl (kp _ _ (kin _ _ flk)) rfl hvs hfl F.top ?_
    obtain ⟨mb, b1, b2⟩ := I.mod.blt
    refine PySem.W.ks_loadName_global Sc.kind Sc.sup (PySem.Calls.loadGlobal_builtin (env := envI qual (defScope st) s.heap.objs.size fI (.ref cda) cc) (I.mod.glob.keeps I.bk) F.miss (b1.keeps I.bk) ((b2 "super" (by decide)).trans bt_super) ⟨rfl, ?_⟩)
    refine wpAny_loadName_free Sc.kind Sc.cls rfl ⟨_, kin1 _ _ clk, rfl⟩ ?_
    obtain ⟨u1, ur, eus, r1, r2⟩ : ∃ u1 ur, us = u1 :: ur ∧ RelV (.ref a) u1 ∧ Vals vr ur := by
      cases r with
      | cons r1 r2 => exact ⟨_, _, rfl, r1, r2⟩
    have eu1 : u1 = Value.ref a := r1
    rw [har]
    refine wpAny_loadName_local (v := .ref a) Sc.kind (Sc.lc _ (List.mem_cons_self ..)) ns (by rw [eus, eu1]; exact NdefX.zip_look (i := 0) Sc.nd rfl rfl) ?_
    refine ks_wpAny_isType_cls (kin1 _ _ hC) rfl ⟨rfl, ?_⟩
    obtain ⟨t1, ho⟩ := exo_at I.hok ha
    have sub1 : PySem.W.Looks (model P w) h1 (isSubtype (.ref C) (.ref C)) true := PySem.W.looks_mroIn kin1 T.slf
    refine ks_wpAny_call_super (kin1 _ _ hC) rfl ho rfl (fun c z => nomatch z) sub1 (fun h2 hso kp2 => ?_)
    have kin2 : K.In h2 := kin1.keeps kp2
    have ho2 := kp2 _ _ ho
    have J2 : PySem.W.InstAt h2 a _ C none := ⟨ho2, rfl, rfl, True.intro⟩
    have sp' := T.sup
    unfold PySem.W.ks_superIn at sp'
    cases hcl : PySem.W.clsIn K C with
    | none => rw [hcl] at sp'; cases sp'
    | some cd =>
    rw [hcl] at sp'
    have hI : PySem.W.Looks (model P w) h2 (isInstance (.ref a) (.type "ValueError")) true := J2.type.andThen (PySem.W.looks_subIn kin2 T.isV)
    refine PySem.W.kxs_getMethod PySem.W.kxs_ValueError hso (PySem.W.looks_opaque kin2 T.opq) (l₀ := cd.mro) (fun A Q E s k q => wpAny_bind ((PySem.W.looks_clsIn kin2 hcl) A _ E s k (wpAny_pure q))) rfl kin2 sp' hI (PySem.W.ks_ne kin2 J2 hcl) (by decide) ?_
    show wpAny _ _ (callWith q4 (.ref h2.objs.size) [] (backTo q4 (starEach [e] _)) []) _ _ _
    have kp3 : ∀ b o, h1.get? b = some o → (h2.push (PySem.W.kxs_mw "ValueError.__init__" a)).get? b = some o := fun b o z => Heap.get?_push_of_some _ (kp2 _ _ z)
    have hu : (h2.push (PySem.W.kxs_mw "ValueError.__init__" a)).get? h2.objs.size = some (PySem.W.kxs_mw "ValueError.__init__" a) := Heap.get?_push_at rfl rfl
    have ge : h1.objs.size ≤ h2.objs.size := Nat.le_of_lt (Heap.lt_size hso)
    have I3 : L2.Inv X [] (V.ref a :: vr |>.map some) H { s with heap := h2.push (PySem.W.kxs_mw "ValueError.__init__" a), toks := s.toks + ((n1 :: N).zip us).length + 1 } := I.kept (h' := h2.push (PySem.W.kxs_mw "ValueError.__init__" a)) kp3
    have I4 : L2.Inv X [(h2.objs.size, PySem.W.kxs_mw "ValueError.__init__" a)] (V.ref a :: vr |>.map some) H { s with heap := h2.push (PySem.W.kxs_mw "ValueError.__init__" a), toks := s.toks + ((n1 :: N).zip us).length + 1 } := by
      refine I3.pins_of fun p hp => ?_
      rw [List.mem_singleton.mp hp]
      refine ⟨hu, I.hok.fresh ge, fun z => ?_, I.nofs ge, fun v z => nomatch z⟩
      have := I.lt
      have z' : h2.objs.size = X.env.locals := z
      have l : X.env.locals < h1.objs.size := this
      exact Nat.lt_irrefl _ (Nat.lt_of_lt_of_le l (Nat.le_trans ge (Nat.le_of_eq z')))
    refine PySem.W.kxs_callWith (i := "ValueError.__init__") (x := a) (by rw [hse]; rfl) ?_
    have hpa : PA X [e] (tCons (tx (.ref a :: vr)) tNil) := pa_cons (htx A outer s H (.ref a :: vr)) pa_nil (hse _)
    rw [show backTo q4 (starEach [e] X.env) = (false, eval e X.env) :: backTo q4 (starEach [] X.env) by rw [hse]; rfl]
    refine PySem.Calls.evalArgs_plain ?_
    have run := hpa.run q4 _ _ _ _ (fun vs H1 => ∃ z : Str, vs = [.str z] ∧ H1 = H) I4 (htx' _ fun z => ⟨z, rfl, rfl⟩)
    rw [show backTo q4 (starEach [e] X.env) = (false, eval e X.env) :: backTo q4 (starEach [] X.env) by rw [hse]; rfl] at run
    refine thn run ?_
    rintro as s4 ⟨vz, H1, I5, rz, z, rfl, rfl⟩
    have pin := I5.pin _ (List.mem_append_right _ (List.mem_singleton.mpr rfl))
    refine ⟨pin.1, ?_⟩
    have l1 : as.length ≤ sizeLine := by rw [← rz.length]; exact (by decide : 1 ≤ sizeLine)
    refine boundInit T.ox I5 ha pin.1 l1 fun s5 I6 => ?_
    have I7 : L2.Inv X [] (V.ref a :: vr |>.map some) H1 s5 := I6.pins_of fun p hp => (nomatch hp)
    have last := (htr A outer s H1).run [] s5 _ H1 _ I7 htr'
    refine wpAt_of_wpAny (wpAny_mono last (fun fl s6 done => ?_) fun _ _ z => z)
    cases fl with
    | next =>
      obtain ⟨σ6, H6, I8, q8⟩ := done
      exact ⟨rfl, .non, H6, I8.os, I8.bare, I8.base, I8.hok, rfl, q8⟩
    | ret u => exact (done.choose_spec.choose_spec.choose_spec.2.2).elim
    | brk => exact (done.choose_spec.choose_spec.2).elim
    | cont => exact (done.choose_spec.choose_spec.2).elim
  refine ks_wpAt_mono main (fun fl s' hh => ?_) fun _ _ z => z.elim
  obtain ⟨rfl, hh⟩ := hh
  exact hh
end NC
set_option Elab.async false
set_option linter.all false
set_option maxRecDepth 100000
set_option maxHeartbeats 1000000
namespace NC
open PySem PySem.Spec PyProof.Rows L2
open Evl (Ex)
structure Maker where
  c : Addr
  P : Addr
  q : Str
abbrev tabs (cs : List Maker) : List (Addr × Str) := cs.map fun m => (m.P, m.q)
abbrev tabAt (cs : List Maker) : List Addr := cs.map fun m => m.P
theorem ok_tabs {K : PySem.W.Frag} {H : Hp} {cs : List Maker} (h : ∀ m ∈ cs, H m.P = some (.tbl #[])) : Ok K ⟨[], tabs cs⟩ (tabAt cs) [] [] H := by
  have back : ∀ a ∈ tabAt cs, H a = some (.tbl #[]) := fun a ha => by
    obtain ⟨m, hm, rfl⟩ := List.mem_map.mp ha
    exact h m hm
  refine ⟨rfl, List.nodup_nil, fun _ z => (nomatch z), fun _ z => (nomatch z), fun a ha => by rw [back a ha]; exact fun z => (nomatch z), fun n o e => by simp at e, fun w z => (nomatch z), ⟨fun p hp => ?_, fun p hp => ?_, fun a ha us e => by rw [back a ha] at e; cases e⟩⟩
  · obtain ⟨m, hm, rfl⟩ := List.mem_map.mp hp
    exact LamX.TabS.nil (h m hm)
  · obtain ⟨m, hm, rfl⟩ := List.mem_map.mp hp
    exact List.mem_map.mpr ⟨m, hm, rfl⟩
theorem top_spT {K : PySem.W.Frag} {r : RDs} {n : Nat} {cs : List Maker} (h : TrueAt r n) {H : Hp} {a : Addr} {ns : List Int} (hl : ns.length ≤ n) (hH : ∀ m ∈ cs, H m.P = some (.tbl #[])) (hS : SqL K H a (ns.map V.int)) (hid' : Ex H H ∧ SqL K (hid (tabAt cs) [] [] H) a (ns.map V.int)) :
    lsp K (tabs cs) r [.ref a] H (fun v _ => v = .bl true) fun _ _ _ => False :=
  ⟨tabAt cs, [], [], [.ro (ns.map D.int)], _, ok_tabs hH, .cons (.ro hid'.2 (Reps.ofInts ns)) .nil, h ns hl, fun d S v β' H' _ r1 e => by
    subst e
    cases r1
    rfl⟩
section
variable {P : Program} {w : World} {K : PySem.W.Frag} {mg mb : Str → Option Value} {k n : Nat} {fa a : Addr} {fd : FuncData} {x : Str} {r : RDs} {s : Shared} {vs : List Value} {ns : List Int} {cs : List Maker} {CX : CXT}
abbrev emptyT : Obj := { cls := .none, data := .fields #[] }
theorem askedT (kin : K.In s.heap) (gl : s.heap.Ns mainGlobals mg) (bl : s.heap.Ns builtinsNs mb) (bb : ∀ z : Str, z ≠ "__name__" → mb z = bootBuiltins z) (lim : s.heap.NoLimit) (gens : s.gens = #[])
    (tE : ∀ m ∈ cs, s.heap.get? m.P = some emptyT) (tK : ∀ m ∈ cs, K.lookup m.P = none) (tC : ∀ m ∈ cs, PySem.W.CodeHd s.heap m.c m.P)
    (tM : ∃ (bm : Addr) (ob : Obj), mg "__builtins__" = some (.ref bm) ∧ bm ≠ builtinsNs ∧ s.heap.get? bm = some ob ∧ ob.cls = .type "module" ∧ ob.dict = some builtinsNs ∧ ob.data = .plain)
    (ha : s.heap.get? a = some { cls := .type "list", data := .seq vs.toArray }) (isInts : IntsAre vs ns) (few : ns.length ≤ n) (small : n ≤ sizeLine) (room : Room k callerA)
    (F : ∀ base : Heap, K.In base → base.Ns mainGlobals mg → (∀ m ∈ cs, LamX.TabB base mg m.c m.P) → FnG P w K mg base CX k fa fd [x] (lsp K (tabs cs) r)) (bind : ∀ (t : Shared) (u : Value), BindsTo t fd ⟨[u], []⟩ [(x, u)]) (ht : TrueAt r n)
    (quiet : ∀ H e t, CX [] H s (fun _ _ _ => False) e t → False) :
    codeAny (model P w) callerA (.call (.ref fa) ⟨[.ref a], []⟩) (fun z t => z = .ok (.ret (.bool true)) ∧ OldK s.heap t.heap ∧ t.os = s.os ∧ AllBare t.gens) s := by
  have size := isInts.length
  have vals := vals_ints isInts
  have atT : ∀ b ∈ tabAt cs, s.heap.get? b = some emptyT := fun b hb => by
    obtain ⟨m, hm, rfl⟩ := List.mem_map.mp hb
    exact tE m hm
  have inT : ∀ m ∈ cs, m.P ∈ tabAt cs := fun m hm => List.mem_map.mpr ⟨m, hm, rfl⟩
  have aOut : a ∉ tabAt cs := fun z => by
    have e := atT a z
    rw [ha] at e
    cases e
  have one : ∀ H : Hp, (∀ m ∈ cs, H m.P = some (.tbl #[])) → (∀ b, H b ≠ none → b ∈ tabAt cs ∨ ∃ ob xs, H b = some (.frz ob (.lst xs))) → SqL K H a (ns.map V.int) → HOk P w H s.heap → (∀ b, H b ≠ none → b ∈ tabAt cs ∨ b = a ∧ K.lookup a = none) →
      codeAny (model P w) callerA (.call (.ref fa) ⟨[.ref a], []⟩) (fun z t => z = .ok (.ret (.bool true)) ∧ OldK s.heap t.heap ∧ t.os = s.os ∧ AllBare t.gens) s := by
    intro H hH only hS hok at_a
    have keep : ∀ {b : Addr} {o : Obj}, s.heap.get? b = some o → o ≠ emptyT → (b = a → K.lookup a ≠ none ∨ o.cls ≠ .type "list") → (hidT s.heap H).get? b = some o := fun {b o} e ne hne => by
      refine hidT_get e (Classical.byContradiction fun q => ?_)
      rcases at_a b q with z | ⟨eb, kn⟩
      · rw [atT b z] at e
        exact ne (Option.some.inj e).symm
      · subst eb
        rcases hne rfl with h | h
        · exact h kn
        · rw [ha] at e
          cases e
          exact h rfl
    have space : ∀ {b : Addr} {m : Str → Option Value}, s.heap.Ns b m → (hidT s.heap H).Ns b m := fun {b m} ⟨o, es, ep, e, d, q⟩ => by
      refine ⟨o, es, ep, keep e (fun z => by rw [z] at d; cases d) fun eb => .inr fun hc => ?_, d, q⟩
      subst eb
      rw [ha] at e
      cases e
      cases d
    have base_in : K.In (hidT s.heap H) := fun b o e => by
      by_cases hb : b ∈ tabAt cs
      · obtain ⟨m, hm, rfl⟩ := List.mem_map.mp hb
        rw [tK m hm] at e
        cases e
      · refine hidT_get (kin b o e) (Classical.byContradiction fun q => ?_)
        rcases at_a b q with z | ⟨eb, kn⟩
        · exact hb z
        · rw [eb, kn] at e
          cases e
    have module : Mod K mg (hidT s.heap H) := ⟨base_in, space gl, ⟨mb, space bl, bb⟩, by
      obtain ⟨mc, h1, h2⟩ := lim
      exact ⟨mc, space h1, h2⟩⟩
    have tB : ∀ m ∈ cs, LamX.TabB (hidT s.heap H) mg m.c m.P := fun m hm => by
      have eP := tE m hm
      refine ⟨?_, ?_, fun z => ?_⟩
      · obtain ⟨o, us, fl, tf, gs, tg, iF, tx, tt, e1, e2, more⟩ := tC m hm
        refine ⟨o, us, fl, tf, gs, tg, iF, tx, tt, keep e1 (fun z => by rw [z] at e2; cases e2) fun eb => .inr fun z => ?_, e2, more⟩
        rw [z] at e2
        simp at e2
      · obtain ⟨bm, ob, m1, m2, m3, m4, m5, m6⟩ := tM
        refine ⟨bm, ob, m1, m2, fun z => ?_, fun z => ?_, keep m3 (fun z => by rw [z] at m6; cases m6) fun eb => .inr fun z => ?_, m4, m5, m6⟩
        · obtain ⟨o, es, ep, e, d, _⟩ := gl
          rw [z, e] at m3
          cases m3
          rw [d] at m6
          cases m6
        · rw [z, eP] at m3
          cases m3
          cases m6
        · rw [m4] at z
          simp at z
      · obtain ⟨o, es, ep, e, d, _⟩ := gl
        rw [z, eP] at e
        cases e
        cases d
    have env : Env0 P w K mg (hidT s.heap H) callerA [] s H := ⟨rfl, module, fun b o e => of_hidT e, Nat.le_of_eq (hidT_size _ _), trivial, fun b hb => (List.not_mem_nil (show b ∈ ([] : List Addr) from hb)).elim, hok, .of_eq gens⟩
    have hS' : SqL K (hid (tabAt cs) [] [] H) a (ns.map V.int) := by
      have same : hid (tabAt cs) [] [] H a = H a := hid_of aOut fun n o e _ => by simp at e
      rcases hS with (h | ⟨o, h⟩) | h
      · exact .inl (.inl (same.trans h))
      · exact .inl (.inr ⟨o, same.trans h⟩)
      · exact .inr h
    refine codeAny_mono ((F _ base_in (space gl) tB).go callerA [] s H ⟨[.ref a], []⟩ [.ref a] [.ref a] _ _ room rfl env (bind s (.ref a)) (.cons rfl .nil) (top_spT ht few hH hS ⟨Ex.refl _, hS'⟩)) ?_
    rintro (err | fl) t ht
    · exact (quiet H err t ht).elim
    · cases fl with
      | ret u =>
        obtain ⟨v, H', os, bare, un, hok', rv, ev⟩ := ht
        have ev' : v = .bl true := ev
        subst ev'
        have eu : u = Value.bool true := rv
        subst eu
        have stay : ∀ b o, b ∉ tabAt cs → s.heap.get? b = some o → t.heap.get? b = some o := fun b o nb e => by
          by_cases hn : H b = none
          · exact un.keep b o e hn (fun z => (List.not_mem_nil (show b ∈ ([] : List Addr) from z)).elim) (by simp)
          · rcases only b hn with z | ⟨ob, xs, hf⟩
            · exact (nb z).elim
            · have before := (hok b _ hf).1
              have after := (hok' b _ (un.frzs b ob _ hf)).1
              rw [e] at before
              cases before
              exact after
        have grown : ∀ m ∈ cs, ∃ more : Array Value, t.heap.get? m.P = some { cls := .none, data := .fields more } := fun m hm => by
          obtain ⟨more, z⟩ := un.tbls m.P #[] (hH m hm)
          exact ⟨_, hok' m.P _ z⟩
        refine ⟨rfl, ⟨fun b o e => ?_, fun b o e => ?_⟩, os, bare⟩
        · by_cases hb : b ∈ tabAt cs
          · obtain ⟨m, hm, rfl⟩ := List.mem_map.mp hb
            obtain ⟨more, g⟩ := grown m hm
            rw [tE m hm] at e
            cases e
            exact .inr (.inl ⟨((tC m hm).tab (tE m hm)).isCodeTable, rfl, #[], more, rfl, by rw [Array.empty_append]; exact g⟩)
          · exact .inl (stay b o hb e)
        · by_cases hb : b ∈ tabAt cs
          · obtain ⟨m, hm, rfl⟩ := List.mem_map.mp hb
            exact (grown m hm).elim fun more g => ⟨_, g⟩
          · exact ⟨o, stay b o hb e⟩
      | next => exact ht.elim
      | brk => exact ht.elim
      | cont => exact ht.elim
  classical
  have tb : ∀ b u, (if b ∈ tabAt cs then some (HO.tbl #[]) else none) = some u → b ∈ tabAt cs ∧ u = .tbl #[] := fun b u z => by
    split at z
    · rename_i hb
      cases z
      exact ⟨hb, rfl⟩
    · cases z
  cases hk : K.lookup a with
  | some o =>
    have e := kin a o hk
    rw [ha] at e
    cases e
    refine one (fun b => if b ∈ tabAt cs then some (.tbl #[]) else none) (fun m hm => if_pos (inT m hm)) (fun b z => ?_) (.inr ⟨_, vs.toArray, _, hk, rfl, rfl, rfl, ?_, by simpa using vals⟩) (fun b u z => ?_) fun b z => ?_
    · obtain ⟨u, hu⟩ := Option.ne_none_iff_exists'.mp z
      exact .inl (tb b u hu).1
    · rw [List.size_toArray, size]
      exact Nat.le_trans few small
    · obtain ⟨hb, rfl⟩ := tb b u z
      exact atT b hb
    · obtain ⟨u, hu⟩ := Option.ne_none_iff_exists'.mp z
      exact .inl (tb b u hu).1
  | none =>
    have ne : ∀ m ∈ cs, m.P ≠ a := fun m hm z => aOut (z ▸ inT m hm)
    have track : ∀ b u, upd (fun b => if b ∈ tabAt cs then some (HO.tbl #[]) else none) a (.frz { cls := .type "list", data := .seq vs.toArray } (.lst (ns.map V.int))) b = some u → b ∈ tabAt cs ∧ u = .tbl #[] ∨ b = a ∧ u = .frz { cls := .type "list", data := .seq vs.toArray } (.lst (ns.map V.int)) := fun b u z => by
      by_cases eb : b = a
      · subst eb
        rw [upd_same] at z
        cases z
        exact .inr ⟨rfl, rfl⟩
      · rw [upd_ne eb] at z
        exact .inl (tb b u z)
    refine one (upd (fun b => if b ∈ tabAt cs then some (.tbl #[]) else none) a (.frz { cls := .type "list", data := .seq vs.toArray } (.lst (ns.map V.int)))) (fun m hm => ?_) (fun b z => ?_) (.inl (.inr ⟨_, upd_same⟩)) (fun b u z => ?_) fun b z => ?_
    · rw [upd_ne (ne m hm)]
      exact if_pos (inT m hm)
    · obtain ⟨u, hu⟩ := Option.ne_none_iff_exists'.mp z
      rcases track b u hu with ⟨h, _⟩ | ⟨rfl, rfl⟩
      · exact .inl h
      · exact .inr ⟨_, _, hu⟩
    · rcases track b u z with ⟨h, rfl⟩ | ⟨rfl, rfl⟩
      · exact atT b h
      · exact ⟨ha, by rw [List.length_map]; exact Nat.le_trans few small, vs, _, vals, ha⟩
    · obtain ⟨u, hu⟩ := Option.ne_none_iff_exists'.mp z
      rcases track b u hu with ⟨h, _⟩ | ⟨rfl, _⟩
      · exact .inl h
      · exact .inr ⟨rfl, hk⟩
end
def makerIn (K : PySem.W.Frag) (q : Program) (x : Str) (m : Maker) : Prop := PySem.W.tabIn K x = some (m.c, m.P) ∧ ((recsOf q).find? (fun e => e.name == x)).isSome = true ∧ K.lookup m.P = none
theorem end_ofT {l : PySem.W.OpenLaw} {n k : Nat} {q : Program} {loose : List Str} {XP : (Str → Option Value) → Heap → Prop} {YP : World → Heap → Prop} {d : DefRec} {K : Params → PySem.W.Frag} {r : RDs} {x : Str} {CX : World → CXT}
    (most : l.most = some n) (small : n ≤ sizeLine) (nodef : d.params.defaults = []) (room : Room k callerA) (kin : ∀ (w : World) (h : Heap), YP w h → (K w.params).In h) (ht : TrueAt r n)
    (quiet : ∀ w H s e t, CX w [] H s (fun _ _ _ => False) e t → False)
    (F : ∀ (w : World) (mg : Str → Option Value) (fa : Addr) (h : Heap), (K w.params).In h → h.Ns mainGlobals mg → mg d.name = some (.ref fa) →
      ∃ (fd : FuncData) (cs : List Maker), (∀ m ∈ cs, ∃ z, makerIn (K w.params) q z m) ∧ (∀ (s : Shared) (u : Value), BindsTo s fd ⟨[u], []⟩ [(x, u)]) ∧
        ∀ base : Heap, (K w.params).In base → base.Ns mainGlobals mg → (∀ m ∈ cs, LamX.TabB base mg m.c m.P) → FnG l.prog w (K w.params) mg base (CX w) k fa fd [x] (lsp (K w.params) (tabs cs) r)) :
    PySem.W.WalkO q loose XP YP l.row.toRowW d [] (fun f vs => PySem.call f vs) := by
  refine Att.attach_call most nodef fun w s₀ s mg mb fa o pm cd doc a vs ns G Y ho hd hcd hmg hobj hints few gens => ?_
  obtain ⟨fd, cs, hcs, hb, hF⟩ := F w mg fa _ (kin w _ Y) G.T.g hmg
  have known : ∀ m ∈ cs, PySem.W.CodeHd _ m.c m.P ∧ _ := fun m hm => by
    obtain ⟨z, h1, h2, h3⟩ := hcs m hm
    obtain ⟨dz, h2⟩ := Option.isSome_iff_exists.mp h2
    exact PySem.W.tab_of G.T (kin w _ Y) h2 h1
  exact askedT (kin w _ Y) G.T.g G.T.b G.T.builtins G.T.nolimit gens (fun m hm => (known m hm).2) (fun m hm => (hcs m hm).elim fun z h => h.2.2) (fun m hm => (known m hm).1) G.T.bmain hobj hints few small room hF hb ht fun H e t => quiet w H s e t
end NC
set_option Elab.async false
set_option linter.all false
set_option maxRecDepth 100000
set_option maxHeartbeats 1000000
namespace NC
open PySem PySem.Spec PyProof.Rows L2
open Evl (Ex)
def okV (part : Bool) (n : Nat) (ws : List V) : Prop := ws.length = n ∧ (part = true → ∃ p : Str, ws = [.str p] ∧ p.length ≤ 900)
def fldV (ns : List Str) (ws : List V) : List (Str × V) := (ns.zip ws).reverse
def spF (C : Addr) (part : Bool) (ns : List Str) : Sp := fun vs H Q _ => ∃ (a : Addr) (ws : List V), vs = .ref a :: ws ∧ okV part ns.length ws ∧ H a = some (exo a C none) ∧
  ∀ (dx : Addr) (H' : Hp), H dx = none → dx ≠ a → H' a = some (exo a C (some dx)) → H' dx = some (exd dx (fldV ns ws)) → (∀ b, b ≠ a → b ≠ dx → H' b = H b) → Q .non H'
section
variable {P : Program} {w : World} {K : PySem.W.Frag} {mg : Str → Option Value} {base : Heap} {CX : CXT} {k : Nat} {qual n1 n2 n3 f f2 nm sep : Str} {st : Stmt} {fI C cda cc : Addr} {fd : FuncData} {ar : Arg} {j : Nat} {q1 q2 q3 q4 q5 q6 q7 q8 q9 p1 p2 p3 p4 p5 p6 p7 p8 : Pos} {e : Expr}
abbrev ReadsSup (e : Expr) (q1 q2 q3 q4 : Pos) : Prop := ∀ env : Env, ∃ pl : Sem Bool, eval (supCall e q1 q2 q3 q4) env = (do
      let ov ← attributeBase (.Call (.Name "super" q1) [] [] q2) "__init__" env (eval (.Call (.Name "super" q1) [] [] q2) env)
      standAt q3.atName
      let (g, first) ← holding [ov] (getMethod ov "__init__" pl)
      callWith q4 g first (backTo q4 (starEach [e] env)) [])
theorem init_part (T : SupC K C) (F : InitF P K mg qual st fI C fd cda cc) (Sc : InitS (defScope st) [n1, n2]) (N : NameC K C nm) (hp : ((defArgs st).posonlyargs ++ (defArgs st).args).head? = some ar) (har : ar.arg = n1)
    (hrd : ReadsSup (supText n1 n2 sep j p1 p2 p3 p4 p5 p6 p7 p8) q1 q2 q3 q4)
    (body : defBody st = [.Expr (supCall (supText n1 n2 sep j p1 p2 p3 p4 p5 p6 p7 p8) q1 q2 q3 q4) q5, .Assign [.Attribute (.Name n1 q6) f q7] (.Name n2 q8) q9]) (hs1 : sep.length ≤ 10) (hs2 : nm.length ≤ 50) (hno : PySem.W.findIn K (.ref C) f = some none)
    (hd1 : (n1 == ("__debug__" : Str)) = false := by decide) (hcd1 : (n1 == ("__classdict__" : Str)) = false := by decide) (hd2 : (n2 == ("__debug__" : Str)) = false := by decide) (hcd2 : (n2 == ("__classdict__" : Str)) = false := by decide) :
    FnOk P w K mg base CX (k + 1) fI fd [n1, n2] (spF C true [f]) := by
  refine init_ok (tx := fun vs => fun σ H Q => ∃ (a : Addr) (pt : Str), pt.length ≤ 900 ∧ H a = some (exo a C none) ∧ σ[0]? = some (some (.ref a)) ∧ σ[1]? = some (some (.str pt)) ∧ ∀ x : Str, Q (.str x) H) T F Sc hp har (fun vs H Q E h => ?_) body hrd (fun _ => rfl) (fun _ => rfl) (fun A outer s H vs => ?_) (fun A outer s H => ?_) (fun vs H Q E h => ?_)
    (tr := tOst K f (tVar 0) (tVar 1))
  · obtain ⟨a, ws, rfl, ⟨hl, _⟩, _⟩ := h
    simpa using hl
  · have v1 : Vis (cxI P w K mg base [n1, n2] qual (defScope st) fI (.ref cda) cc A outer s H).env.scope n1 := .inl (Sc.lc _ (by simp))
    have v2 : Vis (cxI P w K mg base [n1, n2] qual (defScope st) fI (.ref cda) cc A outer s H).env.scope n2 := .inl (Sc.lc _ (by simp))
    refine ⟨fun pins s1 σ H1 Q I ⟨a, pt, hpt, ha, h0, h1, q⟩ => ?_⟩
    exact (pe_text (a := a) (pt := pt) T.xc N rfl v1 rfl v2 (Nat.le_trans (show pt.length + sep.length + nm.length ≤ 1000 by omega) (by decide)) hd1 hcd1 hd2 hcd2).run pins s1 σ H1 Q I ⟨ha, h0, h1, q⟩
  · have v1 : Vis (cxI P w K mg base [n1, n2] qual (defScope st) fI (.ref cda) cc A outer s H).env.scope n1 := .inl (Sc.lc _ (by simp))
    have v2 : Vis (cxI P w K mg base [n1, n2] qual (defScope st) fI (.ref cda) cc A outer s H).env.scope n2 := .inl (Sc.lc _ (by simp))
    exact pss_one (ps_ost (pe_var (i := 0) rfl v1 hd1 hcd1) (pe_var (i := 1) rfl v2 hd2 hcd2))
  · obtain ⟨a, ws, rfl, ⟨hl, hpt⟩, ha, q⟩ := h
    obtain ⟨p, rfl, lp⟩ := hpt rfl
    refine ⟨a, _, rfl, ha, fun Q' q' => ⟨a, p, lp, ha, rfl, rfl, q'⟩, .str p, rfl, .ref a, rfl, a, C, rfl, T.ox, hno, .inl ⟨ha, fun dx hn ne => ?_⟩⟩
    exact q dx _ hn ne upd_same (by rw [upd_ne ne, upd_same]; rfl) fun b h1 h2 => by rw [upd_ne h1, upd_ne h2]
end
structure ErrOk (P : Program) (w : World) (K : PySem.W.Frag) (mg : Str → Option Value) (base : Heap) (x : Str) (C : Addr) (part : Bool) (ns : List Str) : Prop where
  ox : OexC K C
  xf : XfC K C
  xc : L2.ExcC K C
  no : ∀ f ∈ ns, PySem.W.findIn K (.ref C) f = some none
  at_ : mg x = some (.ref C)
  run : ∀ CX : CXT, ∃ (fI : Addr) (fd : FuncData) (ps : List Str), PySem.W.findIn K (.ref C) "__init__" = some (some (.ref fI)) ∧ PySem.W.typeIn K (.ref fI) = some (.type "function") ∧ FnOk P w K mg base CX 1 fI fd ps (spF C part ns) ∧ L2.Binds K fd ps []
def tMkF (C : Addr) (part : Bool) (ns : List Str) (ta : TA) : L2.St → Hp → XK → Prop := fun σ H Q => ta σ H fun vs H1 => okV part ns.length vs ∧ ∀ dd, H1 dd = none → Q (.ref C) (some dd) (upd H1 dd (.xd (fldV ns vs)))
section
variable {X : Cx} {x : Str} {C : Addr} {part : Bool} {ns : List Str} {p pos : Pos} {e : Expr} {es : List Expr} {ta : TA}
theorem pmk_f (O : ErrOk X.prog X.w X.K X.mg X.base x C part ns) (hl : ns.length ≤ 5) (hr : Room 2 X.A) (hg : Gl X x) (ha : PA X (e :: es) ta) (mono : ∀ σ H (Q Q' : List V → Hp → Prop), (∀ vs H1, Q vs H1 → Q' vs H1) → ta σ H Q → ta σ H Q')
    (hdb : (x == ("__debug__" : Str)) = false := by decide) (he : starEach (e :: es) X.env = (false, eval e X.env) :: starEach es X.env := by rfl) (hpl : (backTo pos (starEach es X.env)).any (·.1) = false := by rfl) :
    PMk X (.Call (.Name x p) (e :: es) [] pos) (tMkF C part ns ta) := by
  obtain ⟨fI, fd, ps, iC, tI, F1, hb⟩ := O.run (L2.CX X.prog X.w)
  intro pins s σ H Q I h
  refine pmk_oex (pos := pos) (p := p) O.ox iC tI F1 hr hb .nil passN hg O.at_ ha hdb he hpl pins s σ H Q I ?_
  refine mono σ H _ _ (fun vs H1 ⟨ok, q⟩ => ?_) h
  have hv : vs.length = ns.length := ok.1
  refine ⟨by omega, fun a ha0 => ⟨a, vs ++ [], rfl, by rw [List.append_nil]; exact ok, upd_same, fun dx H' hdx ne e1 e2 e3 => ?_⟩⟩
  have hdx0 : H1 dx = none := by rwa [upd_ne ne] at hdx
  refine ⟨rfl, dx, _, e1, e2, hdx0, ?_⟩
  rw [List.append_nil]
  have same : upd (del H' a) dx (.xd (fldV ns vs)) = upd H1 dx (.xd (fldV ns vs)) := by
    funext b
    by_cases hb1 : b = dx
    · rw [hb1, upd_same, upd_same]
    · rw [upd_ne hb1, upd_ne hb1]
      by_cases hb2 : b = a
      · rw [hb2, del_same, ha0]
      · rw [del_ne hb2, e3 b hb2 hb1, upd_ne hb2]
  rw [same]
  exact q dx hdx0
end
def okD (part : Bool) (n : Nat) (ds : List D) : Prop := ds.length = n ∧ (part = true → ∃ p : Str, ds = [.str p] ∧ p.length ≤ 900)
def fldD (ns : List Str) (ds : List D) : List (Str × D) := (ns.zip ds).reverse
section
variable {K : PySem.W.Frag} {B : Hp} {β : List Addr}
theorem okV_of {part : Bool} {n : Nat} {ds : List D} {vs : List V} (r : Reps K B β vs ds) (h : okD part n ds) : okV part n vs := by
  refine ⟨r.len.trans h.1, fun hp => ?_⟩
  obtain ⟨p, rfl, hl⟩ := h.2 hp
  obtain ⟨v, hv, r1⟩ := r.one
  cases r1
  exact ⟨p, hv, hl⟩
theorem RepF.app {us : List (Str × V)} {es : List (Str × D)} : ∀ {vs : List (Str × V)} {ds : List (Str × D)}, RepF K B β vs ds → RepF K B β us es → RepF K B β (vs ++ us) (ds ++ es)
  | _, [], a, b => by cases a; exact b
  | _, _ :: ds, a, b => by
    cases a with
    | cons r h => exact .cons r (RepF.app h b)
theorem fld_of : ∀ {ns : List Str} {vs : List V} {ds : List D}, Reps K B β vs ds → RepF K B β (fldV ns vs) (fldD ns ds)
  | [], _, _, _ => .nil
  | _ :: _, [], ds, r => by cases r; exact .nil
  | n :: ns, v :: vs, ds, r => by
    cases r with
    | cons r1 r2 =>
      unfold fldV fldD
      rw [List.zip_cons_cons, List.zip_cons_cons, List.reverse_cons, List.reverse_cons]
      exact RepF.app (fld_of r2) (.cons r1 .nil)
end
section
variable {L : List W0} {X : Cx} {ED : XD} {w0 : W0} {T : List (Addr × Str)} {x : Str} {C : Addr} {part : Bool} {ns : List Str} {p pos pos' : Pos} {e : Expr} {es : List Expr} {tl : TLs}
def sRaiseF (ED : XD) (C : Addr) (part : Bool) (ns : List Str) (tl : TLs) : TSd := fun _ ρ S => tl ρ S fun ds S1 => okD part ns.length ds ∧ ED (C, fldD ns ds) S1
theorem tA_mono {G : Gh} {K : PySem.W.Frag} (σ : L2.St) (H : Hp) (Q Q' : List V → Hp → Prop) (i : ∀ vs H1, Q vs H1 → Q' vs H1) (h : tA K G tl σ H Q) : tA K G tl σ H Q' := by
  obtain ⟨Y, β, S, ρ, R, rl, q, k⟩ := h
  exact ⟨Y, β, S, ρ, R, rl, q, fun ds S' vs β' H' s r q' => i _ _ (k ds S' vs β' H' s r q')⟩
theorem ds_raiseF (hc : X.calm = true) (tk : Takes X (fun cls d _ H => WD X.K T w0 ED cls d H)) (O : ErrOk X.prog X.w X.K X.mg X.base x C part ns) (hl : ns.length ≤ 5) (hr : Room 2 X.A) (hg : Gl X x) (ha : PA X (e :: es) (tA X.K ⟨w0 :: L, T⟩ tl))
    (hdb : (x == ("__debug__" : Str)) = false := by decide) (he : starEach (e :: es) X.env = (false, eval e X.env) :: starEach es X.env := by rfl) (hpl : (backTo pos (starEach es X.env)).any (·.1) = false := by rfl) :
    PS X (.Raise (some (.Call (.Name x p) (e :: es) [] pos)) none pos') (tS X.K ⟨w0 :: L, T⟩ (sRaiseF ED C part ns tl)) :=
  (ps_raise hc tk (pmk_f (p := p) O hl hr hg ha tA_mono hdb he hpl)).imp fun D' σ H ⟨Y, β, S, ρ, N, rl, q, l⟩ => ⟨Y, β, S, ρ, _, rl, q, fun ds S1 vs β1 H1 s1 r1 ⟨ok, q1⟩ => ⟨okV_of r1 ok, fun dd hdd => by
    have st := s1.ok.new (.xd (fldV ns vs)) hdd
    exact ⟨C, dd, fldV ns vs, fldD ns ds, Y, β1, S1, rfl, rfl, st.ok.less fun w hw => (by rw [List.mem_singleton.mp hw]; exact List.mem_cons_self ..), s1.ok.new_at _ hdd, fld_of (st.reps r1), q1⟩⟩⟩
end
end NC
set_option Elab.async false
set_option linter.all false
set_option maxRecDepth 100000
set_option maxHeartbeats 1000000
namespace NC
open PySem PySem.Spec PyProof.Rows L2
open Evl (Ex)
def clsB (K : PySem.W.Frag) (C : Addr) (nm : Str) : Bool := match K.lookup C with
  | some ⟨tp, _, .cls cd, sl⟩ => (match cd.mro, sl.toList with
    | .ref D :: bm, [_, _, some (.str z _), _, some (.builtin n), _] => tp == .type "type" && D == C && n == "ValueError.__new__" && (!cd.hasDel) && cd.hasDict && PySem.HandSPX.refsVE bm && z == nm
    | _, _ => false)
  | _ => false
theorem clsB_ok {K : PySem.W.Frag} {C : Addr} {nm : Str} (h : clsB K C nm = true) :
    (∃ nm q N bs bm sn sub ab col dd k0 k1 k2 k3 k5, K.lookup C = some (excClassObj nm q C N bs bm true sn sub ab col dd k0 k1 k2 k3 k5 "ValueError.__new__") ∧ PySem.HandSPX.refsVE bm = true) ∧ ∃ o t, K.lookup C = some o ∧ o.slots[2]? = some (some (.str nm t)) := by
  unfold clsB at h
  split at h
  · rename_i tp dd cd sl ho
    split at h
    · rename_i D bm k0 k1 z tz k3 n k5 hm hs
      simp only [Bool.and_eq_true, beq_iff_eq, Bool.not_eq_true'] at h
      obtain ⟨⟨⟨⟨⟨⟨e1, e2⟩, e3⟩, e4⟩, e5⟩, e6⟩, e7⟩ := h
      have hsl : sl = #[k0, k1, some (.str z tz), k3, some (.builtin n), k5] := by
        obtain ⟨l⟩ := sl
        exact congrArg Array.mk hs
      obtain ⟨cnm, bs, mro, ns, qn, hd, sn, sub, ab, col, del⟩ := cd
      dsimp only at hm e4 e5
      subst e1 e2 e3 e4 e5 e7 hsl hm
      exact ⟨⟨cnm, qn, ns, bs, bm, sn, sub, ab, col, dd, k0, k1, _, k3, k5, ho, e6⟩, _, tz, ho, rfl⟩
    · cases h
  · cases h
def ownB (K : PySem.W.Frag) (C : Addr) : Bool :=
  decide (PySem.W.findIn K (.ref C) "__setattr__" = some (some (.builtin "object.__setattr__"))) && xfB K C && decide (PySem.W.typeIn K (.ref C) = some (.type "type")) && PySem.W.keepIn K (.ref C) &&
  decide (PySem.W.findIn K (.ref C) "__class__" = some (some (.builtin "object.__class__"))) && decide (PySem.W.specialIn K (.builtin "object.__class__") "__get__" = some (some (.builtin "getset_descriptor.__get__"))) &&
  decide (PySem.W.takesIn K (.builtin "object.__class__") = some true) && decide (PySem.W.mroIn K C (.type "object") = some true) &&
  decide (PySem.W.ks_superIn K C C "__init__" = some (some (.builtin "ValueError.__init__"))) && decide (PySem.W.nsIn K PySem.cStatics "thirdparty.any" = some none) && decide (PySem.W.subIn K (.ref C) (.type "ValueError") = some true) &&
  decide (PySem.W.mroIn K C (.ref C) = some true)
theorem ownB_ok {K : PySem.W.Frag} {C : Addr} {nm : Str} (h : ownB K C = true) (h2 : clsB K C nm = true) : SupC K C ∧ XfC K C := by
  unfold ownB at h
  simp only [Bool.and_eq_true, decide_eq_true_eq] at h
  obtain ⟨⟨⟨⟨⟨⟨⟨⟨⟨⟨⟨a1, a2⟩, a3⟩, a4⟩, a5⟩, a6⟩, a7⟩, a8⟩, a9⟩, b1⟩, b2⟩, b3⟩ := h
  have x := xfB_ok a2
  exact ⟨⟨⟨(clsB_ok h2).1, a1, x.exC, a3, a4⟩, ⟨x.ga, x.gg, x.exC, x.hdC, a5, a6, a7, a8⟩, a9, b1, b2, b3⟩, x⟩
def nameB (K : PySem.W.Frag) (C : Addr) : Bool := PySem.W.readsIn K C (.type "type") && (match PySem.W.findCls K (.ref C) (.type "type") "__name__" with
  | some (.get g a c m) => g == .builtin "getset_descriptor.__get__" && a == .builtin "type.__name__" && c == .ref C && m == .type "type"
  | _ => false)
theorem nameB_ok {K : PySem.W.Frag} {C : Addr} {nm : Str} (h : nameB K C = true) (h2 : clsB K C nm = true) : NameC K C nm := by
  unfold nameB at h
  obtain ⟨h1, h⟩ := Bool.and_eq_true_iff.mp h
  refine ⟨h1, ?_, (clsB_ok h2).2⟩
  split at h
  · rename_i g a c m e
    simp only [Bool.and_eq_true, beq_iff_eq] at h
    obtain ⟨⟨⟨rfl, rfl⟩, rfl⟩, rfl⟩ := h
    exact e
  · cases h
def noB (K : PySem.W.Frag) (C : Addr) (fs : List Str) : Bool := fs.all fun f => decide (PySem.W.findIn K (.ref C) f = some none)
theorem noB_ok {K : PySem.W.Frag} {C : Addr} {fs : List Str} (h : noB K C fs = true) : ∀ f ∈ fs, PySem.W.findIn K (.ref C) f = some none := fun f hf => of_decide_eq_true (List.all_eq_true.mp h f hf)
def codeB (K : PySem.W.Frag) (file : Str) (C fI cda cc : Addr) (qual : Str) : Bool :=
  decide (PySem.W.typeIn K (.ref fI) = some (.type "function")) && PySem.W.codeIn K (.ref cda) qual && (match K.lookup cda with
    | some ⟨_, _, .fields vs, _⟩ => (match (vs[2]? : Option Value) with
      | some (.str fl _) => file == fl
      | _ => false)
    | _ => false) && (match K.lookup cc with
    | some ⟨_, _, .cell (some (.ref D)), _⟩ => D == C
    | _ => false)
def scB (sc : Scope) (N : List Str) : Bool := sc.kind == .function && (!sc.isCoroutine) && (!sc.isGenerator) && (sc.names.all fun p => (p.2 != .cell && p.2 != .free) || (p.1 == "__class__" && p.2 != .cell)) && decide N.Nodup && (N.all fun n => sc.names.lookup n == some .local) &&
  (sc.names.lookup ("__class__" : Str) == some .free) && (sc.names.lookup ("super" : Str) == some .globalImplicit)
theorem scB_ok {sc : Scope} {N : List Str} (h : scB sc N = true) : InitS sc N := by
  unfold scB at h
  simp only [Bool.and_eq_true, beq_iff_eq, Bool.not_eq_true', decide_eq_true_eq] at h
  obtain ⟨⟨⟨⟨⟨⟨⟨a1, a2⟩, a3⟩, a4⟩, a5⟩, a6⟩, a7⟩, a8⟩ := h
  have a4' := List.all_eq_true.mp a4
  refine ⟨a1, a2, a3, fun y hy => ?_, fun x hx e => ?_, a5, fun n hn => beq_iff_eq.mp (List.all_eq_true.mp a6 n hn), a7, a8⟩
  · rcases hy with hy | hy
    · have := a4' _ (PySem.mem_of_lookup hy)
      simp at this
    · have := a4' _ (PySem.mem_of_lookup hy)
      simp at this
      exact this
  · have := a4' x hx
    rw [e] at this
    simp at this
section
variable {P : Program} {w : World} {K : PySem.W.Frag} {mg : Str → Option Value} {base : Heap} {x qual n1 n2 n3 f f2 nm sep : Str} {st : Stmt} {fI C cda cc : Addr} {ar : Arg} {j : Nat} {q1 q2 q3 q4 q5 q6 q7 q8 q9 p1 p2 p3 p4 p5 p6 p7 p8 r6 r7 r8 r9 : Pos} {e : Expr}
  {oc : Value} {od : Option Addr} {dV kV doc pm : Value} {an : Option Addr} {ct : Value} {osl : Array (Option Value)} {m : Str}
abbrev ini (qual : Str) (st : Stmt) (dV kV doc pm : Value) (an : Option Addr) (cda : Addr) (ct : Value) (cc : Addr) : FuncData := PySem.W.ksFn "__init__" qual (defArgs st) (defBody st) (defScope st) dV kV doc pm an (.ref cda) ct cc
def errB (K : PySem.W.Frag) (P : Program) (C fI cda cc : Addr) (nm qual : Str) (fs : List Str) : Bool := ownB K C && nameB K C && clsB K C nm && noB K C fs && codeB K P.main.file C fI cda cc qual && !(P.main.scope.names.lookup ("super" : Str)).isSome
theorem errB_ok {fs : List Str} (h : errB K P C fI cda cc nm qual fs = true) (hm : mg "super" = none) (lk : K.lookup fI = some ⟨oc, od, .func (ini qual st dV kV doc pm an cda ct cc), osl⟩) :
    SupC K C ∧ XfC K C ∧ NameC K C nm ∧ (∀ f ∈ fs, PySem.W.findIn K (.ref C) f = some none) ∧ PySem.W.typeIn K (.ref fI) = some (.type "function") ∧ InitF P K mg qual st fI C (ini qual st dV kV doc pm an cda ct cc) cda cc := by
  unfold errB codeB at h
  simp only [Bool.and_eq_true, decide_eq_true_eq, Bool.not_eq_true'] at h
  obtain ⟨⟨⟨⟨⟨h1, h2⟩, h3⟩, h4⟩, ⟨⟨h5, h6⟩, h7⟩, h8⟩, h9⟩ := h
  obtain ⟨s, xf⟩ := ownB_ok h1 h3
  refine ⟨s, xf, nameB_ok h2 h3, noB_ok h4, h5, ⟨⟨oc, od, dV, kV, doc, pm, an, ct, osl, rfl, lk, h6⟩, ?_, ?_, hm, h9⟩⟩
  · split at h7
    · rename_i cl cd vs cs hl
      split at h7
      · rename_i fl tf hv
        exact ⟨cl, cd, cs, vs, fl, tf, hl, hv, h7⟩
      · cases h7
    · cases h7
  · split at h8
    · rename_i cl cd D cs hl
      rw [beq_iff_eq.mp h8] at hl
      exact ⟨cl, cd, cs, hl⟩
    · cases h8
theorem err_part (hx : mg x = some (.ref C)) (hs : mg "super" = none) (iC : PySem.W.findIn K (.ref C) "__init__" = some (some (.ref fI))) (lk : K.lookup fI = some ⟨oc, od, .func (ini qual st dV kV doc pm an cda ct cc), osl⟩) (hB : errB K P C fI cda cc nm qual [f] = true)
    (Sc : scB (defScope st) [n1, n2] = true) (hp : ((defArgs st).posonlyargs ++ (defArgs st).args).head? = some ar) (har : ar.arg = n1) (hrd : ReadsSup (supText n1 n2 sep j p1 p2 p3 p4 p5 p6 p7 p8) q1 q2 q3 q4)
    (body : defBody st = [.Expr (supCall (supText n1 n2 sep j p1 p2 p3 p4 p5 p6 p7 p8) q1 q2 q3 q4) q5, .Assign [.Attribute (.Name n1 q6) f q7] (.Name n2 q8) q9]) (hsz : sep.length ≤ 10 ∧ nm.length ≤ 50) (hb : L2.Binds K (ini qual st dV kV doc pm an cda ct cc) [n1, n2] [])
    (hd1 : (n1 == ("__debug__" : Str)) = false := by decide) (hcd1 : (n1 == ("__classdict__" : Str)) = false := by decide) (hd2 : (n2 == ("__debug__" : Str)) = false := by decide) (hcd2 : (n2 == ("__classdict__" : Str)) = false := by decide) : ErrOk P w K mg base x C true [f] := by
  obtain ⟨s, xf, nc, no, ty, F⟩ := errB_ok hB hs lk
  exact ⟨s.ox, xf, s.xc, no, hx, fun CX => ⟨fI, _, _, iC, ty, init_part s F (scB_ok Sc) nc hp har hrd body hsz.1 hsz.2 (no f (List.mem_singleton.mpr rfl)) hd1 hcd1 hd2 hcd2, hb⟩⟩
end
end NC
set_option Elab.async false
set_option linter.all false
set_option maxRecDepth 100000
set_option maxHeartbeats 1000000
namespace NC
open PySem PySem.Spec PyProof.Rows L2
open Evl (Ex)
def sqD (p : Int × Int) : D := .tup [.int p.1, .int p.2]
theorem Reps.all {K : PySem.W.Frag} {B : Hp} {β : List Addr} : ∀ {vs : List V} {ds : List D}, Reps K B β vs ds → ∀ {v : V}, v ∈ vs → ∃ d ∈ ds, Rep K B β v d := fun {vs ds} r v hv => by
  obtain ⟨i, hi, e⟩ := List.getElem_of_mem hv
  obtain ⟨d, hd, rv⟩ := r.getV (List.getElem?_eq_some_iff.mpr ⟨hi, e⟩)
  exact ⟨d, List.mem_of_getElem? hd, rv⟩
theorem Reps.mapped {K : PySem.W.Frag} {B : Hp} {β : List Addr} {α : Type} {f : α → V} {g : α → D} : ∀ {l : List α}, (∀ a ∈ l, Rep K B β (f a) (g a)) → Reps K B β (l.map f) (l.map g)
  | [], _ => .nil
  | a :: l, h => .cons (h a (List.mem_cons_self ..)) (Reps.mapped fun b hb => h b (List.mem_cons_of_mem _ hb))
def rSortP : RDs := fun xs S Q => ∃ (x : D) (ps : List (Int × Int)), xs = [x] ∧ drf S x = .lst (ps.map sqD) ∧ ∀ qs : List (Int × Int), qs.Perm ps → qs.Pairwise (fun p q => SrtO.lexB q p = false) → Q (.lst (qs.map sqD)) S
theorem c_sortP {X : Cx} {G : Gh} : CallR X (.builtin "sorted") (ls X.K G rSortP) := by
  rintro pins s σ H vs us Q I r ⟨Y, β, S, xs, Q', o, rr, ⟨x, ps, rfl, hx, q⟩, k⟩
  obtain ⟨v, rfl, rv⟩ := rr.one
  obtain ⟨u, rfl, ru⟩ := vals1 r
  obtain ⟨a, ws, rfl, h1, rp⟩ := ok_lst o rv hx
  obtain rfl : u = Value.ref a := ru
  obtain ⟨its, rw', hl, hz⟩ := I.list (X := X) (.inl (.inl h1))
  have one : ∀ w ∈ ws, ∃ t p, p ∈ ps ∧ w = V.ref t ∧ Rep X.K (hid Y β S H) β (.ref t) (sqD p) ∧ SqT X.K H t [.int p.1, .int p.2] := fun w hw => by
    obtain ⟨d, hd, rd⟩ := rp.all hw
    obtain ⟨p, hp, rfl⟩ := List.mem_map.mp hd
    cases rd with
    | tup e1 e2 =>
      obtain ⟨w1, w2, rfl, q1, q2⟩ := e2.two
      cases q1
      cases q2
      exact ⟨_, p, hp, rfl, .tup e1 e2, .inl (.inl (hid_ex _ _ e1))⟩
  obtain ⟨e1, e2⟩ := refs_back rw' fun w hw => by
    obtain ⟨t, _, _, e, _⟩ := one w hw
    exact ⟨t, e⟩
  let kk : Value → Int × Int := fun u => ((TS.intsOf s.heap u).getD 0 0, (TS.intsOf s.heap u).getD 1 0)
  have at_ : ∀ u ∈ its, ∃ t p, u = Value.ref t ∧ p ∈ ps ∧ kk u = p ∧ Rep X.K (hid Y β S H) β (.ref t) (sqD p) ∧ Srt.IsPair s.heap u p.1 p.2 := fun u hu => by
    obtain ⟨t, rfl⟩ := e2 u hu
    have hm : V.ref t ∈ ws := by rw [e1]; exact List.mem_map.mpr ⟨_, hu, rfl⟩
    obtain ⟨t', p, hp, e, rd, sq⟩ := one _ hm
    cases e
    obtain ⟨us, r2, tp, _⟩ := I.tuple sq
    obtain ⟨u1, u2, rfl, ri, rj⟩ := vals2 r2
    obtain ⟨t1, rfl⟩ := ri
    obtain ⟨t2, rfl⟩ := rj
    have ti : TS.TupInts s.heap (.ref t) [p.1, p.2] := ⟨t, _, rfl, tp, .cons _ _ (.cons _ _ .nil)⟩
    refine ⟨t, p, rfl, hp, ?_, rd, ?_⟩
    · show ((TS.intsOf s.heap (.ref t)).getD 0 0, (TS.intsOf s.heap (.ref t)).getD 1 0) = p
      rw [ti.ints]
      rfl
    · obtain ⟨ob, ho, hc, n, hd⟩ := tp
      exact ⟨t, ob, t1, t2, n, rfl, ho, hc, hd⟩
  refine SrtO.sorted_pairsO (k := kk) hl.isList (by rw [← rw'.length]; exact hz) (fun u hu => ?_) fun h' d out h1 h2 kp hd hn => ?_
  · obtain ⟨t, p, rfl, _, e, _, ip⟩ := at_ u hu
    rw [e]
    exact ip
  · have inI : ∀ u ∈ out, u ∈ its := fun u hu => h2.perm.mem_iff.mp hu
    have h3 : ∀ u ∈ out, ∃ a, u = Value.ref a := fun u hu => e2 u (inI u hu)
    obtain ⟨n, hn⟩ := hn
    have nd : H d = none := I.hok.fresh hd
    have hps : its.map kk = ps := by
      have : ∀ {us : List Value} {ws : List V} {qs : List (Int × Int)}, Vals ws us → Reps X.K (hid Y β S H) β ws (qs.map sqD) → (∀ u ∈ us, ∃ t p, u = Value.ref t ∧ kk u = p ∧ Rep X.K (hid Y β S H) β (.ref t) (sqD p)) → us.map kk = qs := by
        intro us
        induction us with
        | nil =>
          intro ws qs a b _
          cases a
          cases qs with
          | nil => rfl
          | cons q qs => cases b
        | cons u us ih =>
          intro ws qs a b c
          cases a with
          | cons a1 a2 =>
            cases qs with
            | nil => cases b
            | cons q qs =>
              cases b with
              | cons b1 b2 =>
                rw [List.map_cons, ih a2 b2 fun z hz => c z (List.mem_cons_of_mem _ hz)]
                obtain ⟨t, p, rfl, e, rp⟩ := c u (List.mem_cons_self ..)
                have : p = q := by
                  cases b1 with
                  | @tup a0 vs0 ds0 z1 z2 =>
                    have a1' : Value.ref t = Value.ref a0 := a1
                    cases a1'
                    cases rp with
                    | tup y1 y2 =>
                      have same := I.tuple_inj (.inl (.inl (hid_ex _ _ z1))) (.inl (.inl (hid_ex _ _ y1)))
                      obtain ⟨w1, w2, rfl, g1, g2⟩ := z2.two
                      obtain ⟨w3, w4, rfl, g3, g4⟩ := y2.two
                      cases g1
                      cases g2
                      cases g3
                      cases g4
                      simp only [List.cons.injEq, V.int.injEq, and_true] at same
                      exact Prod.ext same.1.symm same.2.symm
                rw [e, this]
      exact this rw' rp fun u hu => by
        obtain ⟨t, p, e, _, e', rd, _⟩ := at_ u hu
        exact ⟨t, p, e, e', rd⟩
    have st := o.new (.lst (out.map backV)) nd
    refine ⟨.ref d, upd H d (.lst (out.map backV)), I.laid (t' := s.toks) kp hd ⟨?_, out, n, vals_back h3, hn⟩, rfl, ?_⟩
    · rw [List.length_map, h2.perm.length_eq, ← rw'.length]
      exact hz
    · refine k (.lst ((out.map kk).map sqD)) S _ β _ st (o.newLst nd ?_) (q (out.map kk) (by rw [← hps]; exact h2.perm.map kk) (List.pairwise_map.mpr h1))
      rw [List.map_map]
      refine Reps.mapped fun u hu => ?_
      obtain ⟨t, p, rfl, _, e, rd, _⟩ := at_ u (inI u hu)
      show Rep _ _ _ (.ref t) (sqD (kk (.ref t)))
      rw [e]
      exact rd
section
open PySem.W
variable {prog : Program} {w : World} {M : Model} {A : Around} {E : Value → Shared → Prop} {s : Shared}
theorem adjust_back (n : Nat) : Builtin.Slice.sliceAdjust none none (-1) (n : Int) = ((n : Int) - 1, -1) := by
  unfold Builtin.Slice.sliceAdjust
  simp
theorem places_back (n : Nat) : Builtin.Slice.slicePlaces ((n : Int) - 1) (-1) (-1) = n := by
  unfold Builtin.Slice.slicePlaces
  have h1 : ¬ ((-1 : Int) > 0) := by decide
  simp only [h1, if_false, show (- -1 : Int) = 1 by decide, Int.ediv_one]
  split <;> omega
theorem applied_back {sl : Addr} {vl vu vs : Value} {n : Nat} {Q : Int × Int × Nat → Shared → Prop} (hs : s.heap.IsSliceOf sl vl vu vs) (pl : IsPart vl none) (pu : IsPart vu none) (ps : IsPart vs (some (-1)))
    (h : Q ((n : Int) - 1, -1, n) s) : wpAny (model prog w) A (Builtin.Slice.sliceApplied (.ref sl) (pure (n : Int))) Q E s := by
  obtain ⟨os, e1, e2, e3⟩ := id hs
  unfold Builtin.Slice.sliceApplied Builtin.Slice.sliceFields
  refine wpAny_bind (wpAny_bind (wpAny_field e1 e3 (x := vl) rfl (wpAny_bind (wpAny_field e1 e3 (x := vu) rfl (wpAny_bind (wpAny_field e1 e3 (x := vs) rfl (wpAny_pure ?_)))))))
  refine wpAny_bind (HT.slicePart_ ps ?_)
  show wpAny _ _ (if ((-1 : Int) == 0) = true then _ else _) _ _ s
  rw [if_neg (by decide)]
  refine wpAny_bind (HT.slicePart_ pl (wpAny_bind (HT.slicePart_ pu (wpAny_bind (wpAny_pure ?_)))))
  show wpAny _ _ (match Builtin.Slice.sliceAdjust none none (-1) (n : Int) with | (lo, hi) => pure (lo, (-1 : Int), Builtin.Slice.slicePlaces lo hi (-1))) _ _ s
  rw [adjust_back]
  show wpAny _ _ (pure ((n : Int) - 1, (-1 : Int), Builtin.Slice.slicePlaces ((n : Int) - 1) (-1) (-1))) _ _ s
  rw [places_back]
  exact wpAny_pure h
theorem fm_congr {α β : Type} {f g : α → Option β} : ∀ {l : List α}, (∀ a ∈ l, f a = g a) → l.filterMap f = l.filterMap g
  | [], _ => rfl
  | a :: l, h => by rw [List.filterMap_cons, List.filterMap_cons, h a (List.mem_cons_self ..), fm_congr fun b hb => h b (List.mem_cons_of_mem _ hb)]
theorem pick_back (xs : Array Value) : ((List.range xs.size).filterMap fun (m : Nat) => xs[((xs.size : Int) - 1 + (m : Int) * (-1)).toNat]?).toArray = xs.toList.reverse.toArray := by
  have e : (List.range xs.size).filterMap (fun (m : Nat) => xs[((xs.size : Int) - 1 + (m : Int) * (-1)).toNat]?) = ((List.range xs.size).map fun k => xs.size - 1 - k).filterMap (xs[·]?) := by
    rw [List.filterMap_map]
    refine fm_congr fun m hm => ?_
    have := List.mem_range.mp hm
    have e : ((xs.size : Int) - 1 + (m : Int) * (-1)).toNat = xs.size - 1 - m := by omega
    rw [e]
    rfl
  rw [e, krv_range, List.filterMap_reverse, krv_all]
theorem getItem_tuple_back {t sl : Addr} {items : Array Value} {vl vu vs : Value} {Q : Value → Shared → Prop} (ht : IsTup s.heap t items) (hs : s.heap.IsSliceOf sl vl vu vs) (pl : IsPart vl none) (pu : IsPart vu none) (ps : IsPart vs (some (-1)))
    (h : Q (.ref s.heap.objs.size) { s with heap := s.heap.push { cls := .type "tuple", data := .seq items.toList.reverse.toArray } }) (hsz : items.size ≤ sizeLine) : wpAny (model prog w) A (getItem (.ref t) (.ref sl)) Q E s := by
  have room : sizeOk (.seq items.toList.reverse.toArray) := by
    show items.toList.reverse.toArray.size ≤ sizeLine
    rw [List.size_toArray, List.length_reverse, Array.length_toList]
    exact hsz
  obtain ⟨os, e1, e2, e3⟩ := id hs
  have isSl : s.TypeIs (.ref sl) "slice" := ⟨os, e1, e2⟩
  unfold getItem
  try with_reducible refine wpAny_holding ?_
  first | refine wpAny_bind (wpAny_pure ?_) | skip
  refine wpAny_bind (wpAny_sequenceKey ht.typeIs (by decide) ?_)
  refine wpAny_bind (wpAny_callSpecial?_slot (name := Str.ofString "__getitem__") ht.typeIs PyProof.Rows.slot_tuple_getitem
    (wpAny_call_entry PyProof.Rows.slot_tuple_getitem ht.typeIs PyProof.Rows.entry_tuple_getitem ?_ (PyProof.Rows.args_tuple_getitem _ _)))
  show wpAny _ _ (Builtin.Tuple.tupleItemsOf (.ref t) >>= _) _ _ s
  refine wpAny_bind (tupleItemsOf_ ht ?_)
  refine wpAny_bind (wpAny_typeOf isSl ?_)
  rw [if_pos (by decide)]
  refine wpAny_bind (applied_back hs pl pu ps ?_)
  have no : ¬ (((items.size : Int) - 1 == 0 && (-1 : Int) == 1 && items.size == items.size) = true) := by simp
  show wpAny _ _ (if ((items.size : Int) - 1 == 0 && (-1 : Int) == 1 && items.size == items.size) = true then _ else _) _ _ s
  rw [if_neg no, pick_back]
  first
    | exact wpAny_bind (m := Builtin.Tuple.tupleExact _) (wpAny_newObj_type (wpAny_pure ⟨_, rfl, wpAny_pure h⟩) room)
    | exact wpAny_bind (m := Builtin.Tuple.tupleExact _) (wpAny_newObj_type (wpAny_bind (wpAny_pure (wpAny_pure ⟨_, rfl, wpAny_pure h⟩))) room)
    | exact wpAny_bind (wpAny_bind (m := Builtin.Tuple.tupleExact _) (wpAny_newObj_type (wpAny_pure (wpAny_pure ⟨_, rfl, wpAny_pure h⟩)) room))
    | exact wpAny_bind (wpAny_bind (m := Builtin.Tuple.tupleExact _) (wpAny_newObj_type (wpAny_pure ⟨_, rfl, wpAny_pure h⟩) room))
end
section
variable {X : Cx} {G : Gh} {e : Expr} {ta : TD} {k : Nat} {p1 p2 p3 pos : Pos}
def rRev : RD1 := fun x S Q => match drf S x with
  | .lst xs => Q (.lst xs.reverse) S
  | .tup xs => Q (.tup xs.reverse) S
  | _ => False
theorem Reps.rev {K : PySem.W.Frag} {B : Hp} {β : List Addr} : ∀ {vs : List V} {ds : List D}, Reps K B β vs ds → Reps K B β vs.reverse ds.reverse
  | [], _, r => by cases r; exact .nil
  | v :: vs, _, r => by
    cases r with
    | cons r1 r2 =>
      rw [List.reverse_cons, List.reverse_cons]
      exact (Reps.rev r2).append (.cons r1 .nil)
abbrev backE (e : Expr) (k : Nat) (p1 p2 p3 pos : Pos) : Expr := .Subscript e (.Slice none none (some (.UnaryOp .USub (.Constant (.int 1) k p1) p2)) p3) pos
theorem de_rev (he : PE X e (tE X.K G ta)) : PE X (backE e k p1 p2 p3 pos) (tE X.K G (eUn rRev ta)) := by
  refine ⟨fun pins s σ H Q I ⟨Y, β, S, ρ, Q', rl, q, kk⟩ => ?_⟩
  refine Subscript_ (thn (he.run pins s σ H (fun v H1 => ∃ d S1 β1, Step X.K G Y β S H β1 S1 H1 ∧ Rep X.K (hid Y β1 S1 H1) β1 v d ∧ rRev d S1 Q') I ⟨Y, β, S, ρ, _, rl, q, fun d S1 v β1 H1 s1 r1 q1 => ⟨d, S1, β1, s1, r1, q1⟩⟩) fun u s1 ⟨v, H1, I1, r1, d, S1, β1, st, rd, q1⟩ => ?_)
  have hst : PO X (some (.UnaryOp .USub (.Constant (.int 1) k p1) p2)) (tPart (tUn (rU fun i => .int (-i)) (tC (.int 1)))) := po_some (pe_un un_neg pe_int)
  refine wpAny_Slice (thn (po_none.run pins s1 σ H1 (fun o H2 => o = none ∧ H2 = H1) I1 ⟨rfl, rfl⟩) fun vl s2 ⟨l, H2, I2, pl, el, e2⟩ => ?_)
  subst el e2
  refine thn (po_none.run pins s2 σ H2 (fun o H3 => o = none ∧ H3 = H2) I2 ⟨rfl, rfl⟩) fun vu s3 ⟨u', H3, I3, pu, eu, e3⟩ => ?_
  subst eu e3
  refine thn (hst.run pins s3 σ H3 (fun o H4 => o = some (-1) ∧ H4 = H3) I3 ⟨1, rfl, -1, rfl, rfl, rfl⟩) fun vs s4 ⟨o, H4, I4, ps, eo, e4⟩ => ?_
  subst eo e4
  have I5 : L2.Inv X pins σ H4 { s4 with heap := s4.heap.push { cls := .type "slice", data := .fields #[vl, vu, vs] } } := I4.kept (t' := s4.toks) fun b ob q => Heap.get?_push_of_some _ q
  unfold rRev at q1
  generalize hx : drf S1 d = x at q1
  cases x with
  | lst ys =>
    obtain ⟨a, ws, rfl, h1, rr⟩ := ok_lst st.ok rd hx
    obtain rfl : u = Value.ref a := r1
    obtain ⟨its, rw', ht, hz⟩ := I5.list (.inl (.inl h1))
    have hlen := rw'.length
    show wpAny (model X.prog X.w) X.A (subscriptTail e _ (.ref a) (.ref s4.heap.objs.size)) (EP X pins σ Q) X.xe _
    refine tail_any (ops := [.ref a, .ref s4.heap.objs.size]) ht.isList.typeIs (PySem.slot_list_getitem.lookup) ?_ (by with_unfolding_all rfl)
    refine wpAny_getItem_list_slice ht.isList (Heap.IsSliceOf.new _ vl vu vs) pl pu ps (by decide) ?_ (by rw [List.size_toArray]; omega)
    rw [PySem.W.krv_pick]
    have np := I5.hok.fresh (Nat.le_refl _)
    exact ⟨.ref _, _, I5.laid (t' := s4.toks) (o := .lst ws.reverse) (fun b ob q => Heap.get?_push_of_some _ q) (Nat.le_refl _) ⟨by rw [List.length_reverse]; exact hz, _, 0, rw'.reverse, Heap.get?_push_size _ rfl⟩, rfl,
      kk _ S1 _ β1 _ (st.trans (st.ok.new _ np)) (st.ok.newLst np rr.rev) q1⟩
  | tup ys =>
    obtain ⟨a, ws, rfl, h1, rr⟩ := ok_tup st.ok rd hx
    obtain rfl : u = Value.ref a := r1
    obtain ⟨its, rw', ht, hz⟩ := I5.tuple (.inl (.inl (hid_ex _ _ h1)))
    have hlen := rw'.length
    show wpAny (model X.prog X.w) X.A (subscriptTail e _ (.ref a) (.ref s4.heap.objs.size)) (EP X pins σ Q) X.xe _
    refine tail_any (ops := [.ref a, .ref s4.heap.objs.size]) ht.typeIs (PyProof.Rows.slot_tuple_getitem.lookup) ?_ (by with_unfolding_all rfl)
    refine getItem_tuple_back ht (Heap.IsSliceOf.new _ vl vu vs) pl pu ps ?_ (by rw [List.size_toArray]; omega)
    have np := I5.hok.fresh (Nat.le_refl _)
    exact ⟨.ref _, _, I5.laid (t' := s4.toks) (o := .tup ws.reverse) (fun b ob q => Heap.get?_push_of_some _ q) (Nat.le_refl _) ⟨by rw [List.length_reverse]; exact hz, _, rw'.reverse, ⟨_, Heap.get?_push_size _ rfl, rfl, 0, rfl⟩⟩, rfl,
      kk _ S1 _ β1 _ (st.trans (st.ok.new _ np)) (st.ok.newTup np rr.rev) q1⟩
  | _ => exact q1.elim
end
end NC
set_option Elab.async false
set_option linter.all false
set_option maxRecDepth 100000
set_option maxHeartbeats 1000000
namespace NC
open PySem PySem.Spec PyProof.Rows L2
open Evl (Ex)
section
variable {X : Cx} {pins : List (Addr × Obj)} {σ : L2.St} {H : Hp} {s : Shared} {a b : Addr} {kvs : List (List Key × V)} {ks : List Key} {y : V} {u : Value} {A : Around} {E : Value → Shared → Prop} {Q : Unit → Shared → Prop}
theorem dt_set (hu : A.units < cLine) (I : L2.Inv X pins σ H s) (ha : H a = some (.dT kvs)) (hb : H b = some (.tup (ks.map kV))) (ry : RelV y u) (hz : kvs.length < sizeLine) (h : ∀ s', L2.Inv X pins σ (upd H a (.dT (putK kvs ks y))) s' → Q () s') :
    wpAny (model X.prog X.w) A (dictSet a (.ref b) u) Q E s := by
  obtain ⟨_, hd, xs, rel, dd⟩ := dt_of I.hok ha
  have few : xs.length ≤ sizeLine := by
    rw [← Paired.length rel]
    omega
  have room : (putK kvs ks y).length ≤ sizeLine := by
    have := length_putK kvs ks y
    omega
  refine wpAny_dictSet_heap (hsz := few) hu (key_of I.hok hb) dd fun h' d' same => h _ ?_
  obtain ⟨o, es, ep, q1, q2, q3, q4, _, q5⟩ := d'
  exact d_write I (by rw [ha]; exact True.intro) same ⟨o, q1⟩ ⟨room, hd, _, (rel.put ks hb ry).keeps fun c zs ec => by rw [upd_ne (ne_of ec ha fun z => nomatch z)]; exact ec, o, es, ep, q1, q2, q3, q4, q5⟩
end
section
variable {X : Cx} {G : Gh} {k v : Expr} {tk tv : TE} {ta tb : TD} {pos : Pos}
theorem Reps.keys {K : PySem.W.Frag} {B : Hp} {β : List Addr} : ∀ {ks : List Key} {vs : List V}, Reps K B β vs (ks.map kD) → vs = ks.map kV
  | [], _, h => by cases h; rfl
  | .inl i :: ks, _, h => by
    cases h with
    | cons h1 h2 =>
      cases h1
      rw [Reps.keys h2]
      rfl
  | .inr x :: ks, _, h => by
    cases h with
    | cons h1 h2 =>
      cases h1
      rw [Reps.keys h2]
      rfl
theorem code_dT {c : Addr} {q : Str} {us : List (List Key × V)} : HO.dT us ≠ LamX.CodeO c q := fun z => by
  unfold LamX.CodeO at z
  cases z
end
end NC
set_option Elab.async false
set_option linter.all false
set_option maxRecDepth 100000
set_option maxHeartbeats 1000000
namespace NC
open PySem PySem.Spec PyProof.Rows L2
open Evl (Ex)
section
variable {P : Program} {w : World} {K : PySem.W.Frag} {mg : Str → Option Value} {base : Heap} {k : Nat} {f c : Addr} {fd : FuncData} {ps N : List Str} {r : RDs} {x qual : Str} {st : Stmt} {tb : TSd} {T : List (Addr × Str)}
theorem def_okm (F : Fun K x qual st f fd) (hc : fd.code = .ref c) (Sc : FnScope N ps (defScope st)) (hl : ∀ xs S Q, r xs S Q → xs.length = ps.length)
    (hb : ∀ (A : Around) (outer : List Env) (s : Shared) (H : Hp) (E : XK), Room k (A.deeper (envOfC qual (defScope st) s.heap.objs.size f (.ref c))) → A.guards = some [] →
      PSs (cxOf CX0 P w K mg base N qual (defScope st) f (.ref c) A outer s H E).nox (defBody st) (tS K ⟨[], T⟩ tb))
    (hr : ∀ xs S Q, r xs S Q → runD N.length tb xs S Q) : FnG P w K mg base CX0 (k + 1) f fd ps (lsp K T r) := by
  obtain ⟨oc, od, dV, kV, doc, pm, an, cdv, ct, osl, rfl, lk, hcd⟩ := F.ex
  have ec : cdv = .ref c := hc
  subst ec
  refine ⟨fun vs H Q E h => ?_, ?_⟩
  · obtain ⟨Y, β, S, xs, Q', o, rr, q, _⟩ := h
    rw [rr.len]
    exact hl _ _ _ q
  intro A outer s H args us vs Q E room grd e0 bnd rel hsp
  obtain ⟨Y, β, S, xs, Q', o, rr, q, kk⟩ := hsp
  have size : vs.length = ps.length := by
    rw [rr.len]
    exact hl _ _ _ q
  have kin : K.In s.heap := e0.mod.kin.keeps fun b o z => (e0.bs b o z).1
  have lim := e0.mod.nolimit.keeps (h' := s.heap) fun b o z => (e0.bs b o z).1
  have kinds : ∀ y ∈ ps.zip us, (defScope st).names.lookup y.1 = some .local ∨
      ((defScope st).names.lookup y.1 = some .cell ∧ ((cellsFrom (s.heap.objs.size + 1) (defScope st).names []).lookup y.1).isSome = true) := by
    rintro ⟨n, v⟩ hy
    rcases Sc.par n (List.of_mem_zip hy).1 with q | q
    · exact .inl q
    · exact .inr ⟨q, PySem.W.cellsFrom_some _ _ _ (.inl q)⟩
  apply codeAny_call_function room.depth (kin _ _ lk) rfl Sc.co Sc.gen rfl (PySem.W.codeRec_of kin hcd)
  apply bnd
  refine wpAny_newFunctionEnv_cells Sc.kind kinds ?_
  rintro env rfl s1 inc
  refine ⟨lim.keeps inc.toInCall.keep, codeAny_func ?_⟩
  have I := inv_start (CX := CX0) (E := E) (f := f) (cd := .ref c) (qual := qual) Sc room.hd e0 size rel inc
  refine wpAny_mono ((hb A outer s H E (room.deeper _) grd).nox.run [] s1 (L2.start N vs) H { nx := fun _ H' => Q .non H', rt := Q } I ⟨Y, β, S, _, _, start_rel o rr, hr xs S Q' q, ⟨fun ρ' S' σ' β' H' s' r' q' => kk .non S' .non β' H' s' .non q', fun d S' v β' H' s' r' q' => kk d S' v β' H' s' r' q', fun _ _ _ _ _ _ _ z => z.elim, fun _ _ _ _ _ _ _ z => z.elim⟩⟩) ?_ fun e s' z => z
  rintro fl s' hs
  cases fl with
  | ret u => exact hs.elim fun v hs => hs.elim fun σ' hs => hs.elim fun H' ⟨J, rv, q⟩ => ⟨v, H', J.os, J.bare, J.base, J.hok, rv, q⟩
  | next => exact hs.elim fun σ' hs => hs.elim fun H' ⟨J, q⟩ => ⟨.non, H', J.os, J.bare, J.base, J.hok, rfl, q⟩
  | brk => exact hs.elim fun σ' hs => hs.elim fun H' hs => hs.2.elim
  | cont => exact hs.elim fun σ' hs => hs.elim fun H' hs => hs.2.elim
end
theorem pe_C {X : Cx} {x : Str} {C : Addr} {pos : Pos} (hm : X.mg x = some (.ref C)) (hg : Gl X x := by rfl) (hd : (x == ("__debug__" : Str)) = false := by decide) : PE X (.Name x pos) (tC (.ref C)) := pe_glob hg hm rfl hd
theorem names_C {X : Cx} {x : Str} {C : Addr} (hm : X.mg x = some (.ref C)) (hg : Gl X x := by rfl) (hd : (x == ("__debug__" : Str)) = false := by decide) : Names X x (.ref C) := ⟨hg, hd, .inl hm⟩
theorem out_no {X : Cx} {G : Gh} (Y β : List Addr) (S : Store) (H : Hp) (_ : Ok X.K G Y β S H) (cls : Value) (d : Option Addr) (σ2 : L2.St) (H2 : Hp) (h : WD X.K G.T ⟨Y, β, S, H⟩ NoX cls d H2) : (fun _ _ _ _ => False : WX) cls d σ2 H2 := by
  obtain ⟨_, _, _, _, _, _, _, _, _, _, _, _, z⟩ := h
  exact z
def exmB (K : PySem.W.Frag) (a b : Addr) (r : Bool) : Bool := PySem.W.exmOne K (.ref a) (.ref b) == some r
def kitBB (K : PySem.W.Frag) (a b : Addr) (r : Bool) : Bool := PySem.W.kitOne K (.ref a) (.ref b) == some r
def kitN (K : PySem.W.Frag) (b : Addr) : Bool := PySem.W.kitOne K (.type "NoneType") (.ref b) == some false
theorem exmB_ok {K : PySem.W.Frag} {a b : Addr} {r : Bool} (h : exmB K a b r = true) : PySem.W.exmOne K (.ref a) (.ref b) = some r := beq_iff_eq.mp h
theorem kitBB_ok {K : PySem.W.Frag} {a b : Addr} {r : Bool} (h : kitBB K a b r = true) : PySem.W.kitOne K (.ref a) (.ref b) = some r := beq_iff_eq.mp h
theorem kitN_ok {K : PySem.W.Frag} {b : Addr} (h : kitN K b = true) : PySem.W.kitOne K (.type "NoneType") (.ref b) = some false := beq_iff_eq.mp h
def clsItem (st : Stmt) (i : Nat) : Stmt := match st with
  | .ClassDef _ _ _ body _ _ _ _ _ _ _ => body.getD i (.Pass ⟨0, 0, 0, 0⟩)
  | _ => .Pass ⟨0, 0, 0, 0⟩
theorem bt_sorted : bootBuiltins "sorted" = some (.builtin "sorted") := by decide +kernel
end NC
set_option Elab.async false
set_option linter.all false
set_option maxRecDepth 100000
set_option maxHeartbeats 1000000
namespace NC
open PySem PySem.Spec PyProof.Rows L2
section
variable {ρ : Rho} {S : Store} {Q : QD} {N : DN} {su sv : TSd} {i j k : Nat}
theorem cut0 (P : Store → Prop) (h1 : ∀ N' : DN, N'.rt = N.rt → (∀ S', P S' → N'.nx ρ S') → su N' ρ S) (h2 : ∀ S', P S' → sv N ρ S') : sSeq su sv N ρ S :=
  cut (fun ρ' S' => ρ' = ρ ∧ P S') (fun N' hrt hnx => h1 N' hrt fun S' p => hnx _ _ ⟨rfl, p⟩) fun ρ' S' ⟨e, p⟩ => by rw [e]; exact h2 S' p
theorem cut1 (i : Nat) (P : D → Store → Prop) (h1 : ∀ N' : DN, N'.rt = N.rt → (∀ d S', P d S' → N'.nx (ρ.set i (some d)) S') → su N' ρ S) (h2 : ∀ d S', P d S' → sv N (ρ.set i (some d)) S') : sSeq su sv N ρ S :=
  cut (fun ρ' S' => ∃ d, ρ' = ρ.set i (some d) ∧ P d S') (fun N' hrt hnx => h1 N' hrt fun d S' p => hnx _ _ ⟨d, rfl, p⟩) fun ρ' S' ⟨d, e, p⟩ => by rw [e]; exact h2 d S' p
theorem cut2 (i j : Nat) (P : D → D → Store → Prop) (h1 : ∀ N' : DN, N'.rt = N.rt → (∀ d e S', P d e S' → N'.nx ((ρ.set i (some d)).set j (some e)) S') → su N' ρ S) (h2 : ∀ d e S', P d e S' → sv N ((ρ.set i (some d)).set j (some e)) S') : sSeq su sv N ρ S :=
  cut (fun ρ' S' => ∃ d e, ρ' = (ρ.set i (some d)).set j (some e) ∧ P d e S') (fun N' hrt hnx => h1 N' hrt fun d e S' p => hnx _ _ ⟨d, e, rfl, p⟩) fun ρ' S' ⟨d, e, eq, p⟩ => by rw [eq]; exact h2 d e S' p
end
section
variable {ρ : Rho} {S : Store} {Q : QD} {N : DN} {ta tb : TD} {tl tk : TLs} {rx : RDx} {ED : XD} {n m : Nat} {pm : List Nat} {K : PySem.W.Frag} {C : Addr} {part : Bool} {ns : List Str} {f : Str} {cl : List ClD} {ts : XD → TSd} {EDo : XD}
theorem i_eCallX (h : tl ρ S fun xs S1 => rx xs S1 Q ED) : eCallX rx ED tl ρ S Q := h
theorem i_sRaiseF (h : tl ρ S fun ds S1 => okD part ns.length ds ∧ ED (C, fldD ns ds) S1) : sRaiseF ED C part ns tl N ρ S := h
theorem i_eIsX (h : ta ρ S fun x S1 => (∀ n D es, x = .ref n → S1[n]? = some (some (.exc D es)) → L2.ExcC K D) ∧ ∃ b, xis K S1 x C = some b ∧ Q (.bl b) S1) : eIsX K C ta ρ S Q := h
theorem i_eFld (h : ta ρ S fun x S1 => ∃ n C es d, x = .ref n ∧ S1[n]? = some (some (.exc C es)) ∧ XfC K C ∧ PySem.W.findIn K (.ref C) f = some none ∧ es.lookup f = some d ∧ Q d S1) : eFld K f ta ρ S Q := h
theorem i_sTry (h : ts (handle K n EDo N cl) N ρ S) : sTry K n EDo ts cl N ρ S := h
theorem i_runX {xs : List D} {E : XD} (h : ts E { nx := fun _ S' => Q .non S', rt := Q } (startD n xs) S) : runX n ts xs S Q E := h
theorem isx_non {b : Bool} {P : Bool → Prop} (h : PySem.W.kitOne K (.type "NoneType") (.ref C) = some b) (q : P b) : (∀ (n : Nat) (D' : Addr) (es : List (Str × NC.D)), NC.D.non = NC.D.ref n → S[n]? = some (some (.exc D' es)) → L2.ExcC K D') ∧ ∃ b, xis K S .non C = some b ∧ P b :=
  ⟨fun _ _ _ e _ => (nomatch e), b, h, q⟩
theorem isx_exc {b : Bool} {P : Bool → Prop} {D : Addr} {es : List (Str × NC.D)} (e : S[n]? = some (some (.exc D es))) (T : L2.ExcC K D) (h : PySem.W.kitOne K (.ref D) (.ref C) = some b) (q : P b) :
    (∀ (m : Nat) (D' : Addr) (es : List (Str × NC.D)), NC.D.ref n = NC.D.ref m → S[m]? = some (some (.exc D' es)) → L2.ExcC K D') ∧ ∃ b, xis K S (.ref n) C = some b ∧ P b :=
  ⟨fun m D' es' e1 e2 => by
    cases e1
    rw [e] at e2
    cases e2
    exact T, b, by unfold xis; simp only [e]; exact h, q⟩
theorem okD_part {p : Str} (h : p.length ≤ 900) : okD true 1 [.str p] := ⟨rfl, fun _ => ⟨p, rfl, h⟩⟩
end
theorem draw_of {k : Nat} {o : SO} {T : Store} {many : Int} {Q : QD} (u : Urn k o) (hk : k < 1000000) (h0 : 0 < many) (h1 : many ≤ 10 ^ 100) (q : ∀ (o' : SO) (n : Int), Urn (k + 1) o' → 0 ≤ n → n < many → Q (.int n) (some o' :: T)) : rDraw [.ref 0, .int many] (some o :: T) Q :=
  ⟨k, o, T, many, rfl, rfl, u, hk, h0, log_of h0 h1, q⟩
theorem lc_ty {α : Type} {enc : α → D} {l : List α} {p : α → Bool} {g : α → D} {stays : Store → Prop} {S : Store} {t : Tg} {tt : TB} {te : TD} {vs : List Nat} {ρ : Rho} {R : List D → Store → Prop} (hs : stays S) (hl : l.length ≤ sizeLine)
    (step : ∀ a ∈ l, ∃ ρ2, bindT t (enc a) (wipeD ρ vs) = some ρ2 ∧ (∀ Q' : Bool → Store → Prop, Q' (p a) S → tt ρ2 S Q') ∧ (p a = true → ∀ Q' : QD, Q' (g a) S → te ρ2 S Q')) (fin : R ((l.filter p).map g) S) : Lc1 t tt te vs ρ (l.map enc) stays S R := by
  refine ⟨fun i acc S' => S' = S ∧ acc = ((l.take i).filter p).map g, ⟨rfl, rfl⟩, fun i acc S' h => by rw [h.1]; exact hs, by rw [List.length_map]; exact hl, ?_, ?_⟩
  · rintro i d acc S' hd ⟨rfl, rfl⟩
    rw [List.getElem?_map] at hd
    obtain ⟨a, ha, rfl⟩ := Option.map_eq_some_iff.mp hd
    obtain ⟨ρ2, e, ht, he⟩ := step a (List.mem_of_getElem? ha)
    refine ⟨ρ2, e, ht _ ?_⟩
    have tk : l.take (i + 1) = l.take i ++ [a] := by rw [List.take_add_one, ha]; rfl
    cases hp : p a with
    | true =>
      rw [if_pos rfl]
      refine he hp _ ⟨rfl, ?_⟩
      rw [tk, List.filter_append, List.map_append, List.filter_cons_of_pos hp]
      rfl
    | false =>
      rw [if_neg (by decide)]
      refine ⟨rfl, ?_⟩
      rw [tk, List.filter_append, List.filter_cons_of_neg (by rw [hp]; decide)]
      simp
  · rintro acc S' ⟨rfl, rfl⟩
    rw [List.length_map, List.take_length]
    exact fin
theorem lc_each {α : Type} {enc : α → D} {l : List α} {g : α → D} {stays : Store → Prop} {S : Store} {t : Tg} {te : TD} {vs : List Nat} {ρ : Rho} {R : List D → Store → Prop} (hs : stays S) (hl : l.length ≤ sizeLine)
    (step : ∀ a ∈ l, ∃ ρ2, bindT t (enc a) (wipeD ρ vs) = some ρ2 ∧ ∀ Q' : QD, Q' (g a) S → te ρ2 S Q') (fin : R (l.map g) S) : Lc1 t bYes te vs ρ (l.map enc) stays S R :=
  lc_ty (p := fun _ => true) hs hl (fun a ha => let ⟨ρ2, e, h⟩ := step a ha; ⟨ρ2, e, fun _ q => q, fun _ => h⟩) (by rw [List.filter_eq_self.mpr fun _ _ => rfl]; exact fin)
theorem fl_sq (n : Nat) (p : Int × Int) : fl (n + 1) (sqD p) = true := by
  show fls n ([p.1, p.2].map .int) = true
  exact fl_ints _
theorem fls_sq (n : Nat) (ps : List (Int × Int)) : fls (n + 1) (ps.map sqD) = true := fls_all.mpr fun d hd => by
  obtain ⟨p, _, rfl⟩ := List.mem_map.mp hd
  exact fl_sq n p
theorem eqd_sq (p q : Int × Int) : eqd (sqD p) (sqD q) = decide (p = q) := by
  have h := eqd_tups [p.1, p.2] [q.1, q.2]
  refine h.trans ?_
  rw [Bool.eq_iff_iff]
  simp only [decide_eq_true_eq, List.cons.injEq, and_true]
  exact ⟨fun h => Prod.ext h.1 h.2, fun h => by rw [h]; exact ⟨rfl, rfl⟩⟩
theorem any_sq (p : Int × Int) : ∀ ps : List (Int × Int), ((ps.map sqD).any fun z => eqd z (sqD p)) = decide (p ∈ ps)
  | [] => rfl
  | a :: l => by
    rw [List.map_cons, List.any_cons, any_sq p l, eqd_sq, Bool.eq_iff_iff]
    simp only [Bool.or_eq_true, decide_eq_true_eq, List.mem_cons]
    exact ⟨fun h => h.elim (fun e => .inl e.symm) .inr, fun h => h.elim (fun e => .inl e.symm) .inr⟩
theorem drf_sq (S : Store) (p : Int × Int) : drf S (sqD p) = sqD p := rfl
theorem in_sq {p : Int × Int} {y : D} {ps : List (Int × Int)} {S : Store} {Q : QD} (h : itemsD (drf S y) = some (ps.map sqD)) (q : Q (.bl (decide (p ∈ ps))) S) : rInD2 (sqD p) y S Q :=
  ⟨_, h, fl_sq 59 p, fls_sq 58 ps, by rw [drf_sq, any_sq]; exact q⟩
theorem ni_sq {p : Int × Int} {y : D} {ps : List (Int × Int)} {S : Store} {Q : QD} (h : itemsD (drf S y) = some (ps.map sqD)) (q : Q (.bl (!decide (p ∈ ps))) S) : rNiD2 (sqD p) y S Q :=
  ⟨_, h, fl_sq 59 p, fls_sq 58 ps, by rw [drf_sq, any_sq]; exact q⟩
theorem ne_dat {x y : D} {S : Store} {Q : QD} (hx : fl 60 (drf S x) = true) (hy : fl 60 (drf S y) = true) (q : Q (.bl (!eqd (drf S x) (drf S y))) S) : rNe3 x y S Q := ⟨_, .of (.data hx hy), q⟩
theorem eq_dat {x y : D} {S : Store} {Q : QD} (hx : fl 60 (drf S x) = true) (hy : fl 60 (drf S y) = true) (q : Q (.bl (eqd (drf S x) (drf S y))) S) : rEq3 x y S Q := ⟨_, .of (.data hx hy), q⟩
abbrev ltS (p q : Int × Int) : Bool := SrtO.lexB p q
theorem lt_irr (p : Int × Int) : ltS p p = false := SrtO.lexB_no.mpr (by omega)
theorem lt_tot {p q : Int × Int} (h1 : ltS p q = false) (h2 : ltS q p = false) : p = q := by
  have a := SrtO.lexB_no.mp h1
  have b := SrtO.lexB_no.mp h2
  exact Prod.ext (by omega) (by omega)
theorem srt_uniq : ∀ {l m : List (Int × Int)}, l.Perm m → l.Pairwise (fun p q => ltS q p = false) → m.Pairwise (fun p q => ltS q p = false) → l = m
  | [], m, h, _, _ => (List.Perm.eq_nil h.symm).symm
  | x :: l, [], h, _, _ => absurd h.length_eq (by simp)
  | x :: l, y :: m, h, hl, hm => by
    obtain ⟨l1, l2⟩ := List.pairwise_cons.mp hl
    obtain ⟨m1, m2⟩ := List.pairwise_cons.mp hm
    have e : x = y := by
      have a : ltS x y = false := by
        rcases List.mem_cons.mp (h.mem_iff.mp (List.mem_cons_self (a := x) (l := l))) with z | z
        · rw [z]; exact lt_irr y
        · exact m1 x z
      have b : ltS y x = false := by
        rcases List.mem_cons.mp (h.mem_iff.mpr (List.mem_cons_self (a := y) (l := m))) with z | z
        · rw [z]; exact lt_irr x
        · exact l1 y z
      exact lt_tot a b
    subst e
    rw [srt_uniq h.cons_inv l2 m2]
end NC
set_option Elab.async false
set_option linter.all false
set_option maxRecDepth 100000
set_option maxHeartbeats 4000000
namespace NC
open PySem PySem.Spec PyProof.Rows L2
local macro_rules | `(tactic| walk_at "nc hd") => `(tactic| repeat (first | (with_reducible first | refine i_sIf ?_ | refine i_sNil ?_ | refine i_sRet ?_ | refine i_sAsg ?_ | refine i_sDrop ?_ | refine i_sPut ?_ | refine i_sPar ?_ | refine i_eC ?_ | refine i_eOp ?_ | refine i_eChain ?_ | refine i_eB ?_ | refine i_eUn ?_ | refine i_eTup ?_ | refine i_eLst ?_ | refine i_eLstM ?_ | refine i_eAnd ?_ | refine i_eOr ?_ | refine i_eNot ?_ | refine i_eIf ?_ | refine i_bOf ?_ | refine i_bAnd ?_ | refine i_bOr ?_ | refine i_bNot ?_ | refine i_bYes ?_ | refine i_aNil ?_ | refine i_aCons ?_ | refine i_eCall ?_ | refine i_eCallKw ?_ | refine i_eCut ?_ | refine i_oNone ?_ | refine i_oSome ?_ | refine i_eM ?_ | refine i_sSq ?_ | refine i_sRange1 ?_ | refine i_sRange2 ?_ | refine i_sEnum ?_ | refine i_eIsi ?_ | refine i_eIsi2 ?_ | refine i_eLc ?_ | refine i_eLcM ?_ | refine i_sFor ?_ | refine i_eDisp1 ?_ | refine i_bl ?_ | refine i_int ?_ | refine i_nm ?_ | refine i_one ?_ | refine i_two ?_ | refine i_rng ?_ | refine i_len0 ?_ | refine i_int1 ?_ | refine i_intb ?_ | refine i_abs ?_ | refine i_add ?_ | refine i_sub ?_ | refine i_lt ?_ | refine i_le ?_ | refine i_gt ?_ | refine i_ge ?_ | refine i_eqi ?_ | refine i_is ?_ | refine i_isn ?_ | refine i_nes ?_ | refine i_rbl ?_ | refine i_eCallX ?_ | refine i_eCallKwX ?_ | refine i_sRaiseF ?_ | refine i_eIsX ?_ | refine i_eFld ?_ | refine i_eDit1 ?_ | refine i_sTry ?_ | refine i_runX ?_ | refine i_ltU ?_ | refine i_isU ?_ | refine i_isnU ?_ | refine i_isS ?_ | refine i_isnS ?_ | refine i_isB ?_ | refine i_isnB ?_ | refine i_neg ?_ | refine i_eDcT ?_ | refine i_sPar3 ?_ | refine i_three ?_ | refine i_eFldU ?_ | refine i_eIsU ?_ | refine i_eFrzO ?_ | refine i_eMake ?_ | refine i_sFldP ?_ | refine i_eMeth ?_ | refine i_sWhile ?_ | refine i_aStar ?_ | refine i_eFn ?_ | refine i_sAsgL ?_ | refine i_sCont ?_ | refine i_sBrk ?_ | refine i_eDnT ?_ | refine i_eDnK ?_ | refine i_eDit1M ?_ | refine i_sDPutU ?_ | refine i_eListR2 ?_ | refine i_bool1 ?_ | refine i_eCName ?_ | refine i_sFlds ?_ | refine i_bTruL ?_ | refine i_eCutU ?_ | refine i_sStr ?_ | refine i_eJoined ?_ | refine i_dJs ?_ | refine i_dJn ?_ | refine i_eMakeX ?_ | refine i_eMethX ?_ | refine i_eFmt ?_ | refine i_eLc2 ?_ | refine i_sRng ?_ | refine i_sTryS ?_) | ((with_reducible refine i_eVarX ?_); refine ⟨_, rfl, ?_⟩) | ((with_reducible refine i_len1 ?_ ?_); · exact Nat.le_of_ble_eq_true rfl)))
local macro_rules | `(tactic| walk_at "nc hq") => `(tactic| repeat (first | (with_reducible first | refine i_sSeq ?_ | refine i_sIf ?_ | refine i_sNil ?_ | refine i_sRet ?_ | refine i_sAsg ?_ | refine i_sDrop ?_ | refine i_sPut ?_ | refine i_sPar ?_ | refine i_eC ?_ | refine i_eOp ?_ | refine i_eChain ?_ | refine i_eB ?_ | refine i_eUn ?_ | refine i_eTup ?_ | refine i_eLst ?_ | refine i_eLstM ?_ | refine i_eAnd ?_ | refine i_eOr ?_ | refine i_eNot ?_ | refine i_eIf ?_ | refine i_bOf ?_ | refine i_bAnd ?_ | refine i_bOr ?_ | refine i_bNot ?_ | refine i_bYes ?_ | refine i_aNil ?_ | refine i_aCons ?_ | refine i_eCall ?_ | refine i_eCallKw ?_ | refine i_eCut ?_ | refine i_oNone ?_ | refine i_oSome ?_ | refine i_eM ?_ | refine i_sSq ?_ | refine i_sRange1 ?_ | refine i_sRange2 ?_ | refine i_sEnum ?_ | refine i_eIsi ?_ | refine i_eIsi2 ?_ | refine i_eLc ?_ | refine i_eLcM ?_ | refine i_sFor ?_ | refine i_eDisp1 ?_ | refine i_bl ?_ | refine i_int ?_ | refine i_nm ?_ | refine i_one ?_ | refine i_two ?_ | refine i_rng ?_ | refine i_len0 ?_ | refine i_int1 ?_ | refine i_intb ?_ | refine i_abs ?_ | refine i_add ?_ | refine i_sub ?_ | refine i_lt ?_ | refine i_le ?_ | refine i_gt ?_ | refine i_ge ?_ | refine i_eqi ?_ | refine i_is ?_ | refine i_isn ?_ | refine i_nes ?_ | refine i_rbl ?_ | refine i_eCallX ?_ | refine i_eCallKwX ?_ | refine i_sRaiseF ?_ | refine i_eIsX ?_ | refine i_eFld ?_ | refine i_eDit1 ?_ | refine i_sTry ?_ | refine i_runX ?_ | refine i_ltU ?_ | refine i_isU ?_ | refine i_isnU ?_ | refine i_isS ?_ | refine i_isnS ?_ | refine i_isB ?_ | refine i_isnB ?_ | refine i_neg ?_ | refine i_eDcT ?_ | refine i_sPar3 ?_ | refine i_three ?_ | refine i_eFldU ?_ | refine i_eIsU ?_ | refine i_eFrzO ?_ | refine i_eMake ?_ | refine i_sFldP ?_ | refine i_eMeth ?_ | refine i_sWhile ?_ | refine i_aStar ?_ | refine i_eFn ?_ | refine i_sAsgL ?_ | refine i_sCont ?_ | refine i_sBrk ?_ | refine i_eDnT ?_ | refine i_eDnK ?_ | refine i_eDit1M ?_ | refine i_sDPutU ?_ | refine i_eListR2 ?_ | refine i_bool1 ?_ | refine i_eCName ?_ | refine i_sFlds ?_ | refine i_bTruL ?_ | refine i_eCutU ?_ | refine i_sStr ?_ | refine i_eJoined ?_ | refine i_dJs ?_ | refine i_dJn ?_ | refine i_eMakeX ?_ | refine i_eMethX ?_ | refine i_eFmt ?_ | refine i_eLc2 ?_ | refine i_sRng ?_ | refine i_sTryS ?_) | ((with_reducible refine i_eVarX ?_); refine ⟨_, rfl, ?_⟩) | ((with_reducible refine i_len1 ?_ ?_); · exact Nat.le_of_ble_eq_true rfl)))
structure Cs where
  FlightError : Addr := 0
  BadNumber : Addr := 0
  BadSquare : Addr := 0
  BadSquares : Addr := 0
  BadBurns : Addr := 0
  BadBoard : Addr := 0
  BadStand : Addr := 0
  BadClimb : Addr := 0
  BadSeat : Addr := 0
  BadPaper : Addr := 0
  Misfit : Addr := 0
  NoName : Addr := 0
  Twice : Addr := 0
  TooMany : Addr := 0
  Nothing : Addr := 0
  BadText : Addr := 0
  BadLine : Addr := 0
  Climb : Addr := 0
  Board : Addr := 0
  Stand : Addr := 0
  Film : Addr := 0
  Strip : Addr := 0
  Scan : Addr := 0
  Seat : Addr := 0
  Road : Addr := 0
  House : Addr := 0
  Desk : Addr := 0
  Paper : Addr := 0
  Denial : Addr := 0
  Best : Addr := 0
  Flight : Addr := 0
  Blame : Addr := 0
  Blamed : Addr := 0
  Flow : Addr := 0
  Line : Addr := 0
  Game : Addr := 0
  Asked : Addr := 0
  Block : Addr := 0
  Ring : Addr := 0
  Clear : Addr := 0
  Through : Addr := 0
  Shut : Addr := 0
  Caught : Addr := 0
  Free : Addr := 0
  Story : Addr := 0
  Split : Addr := 0
  Walls : Addr := 0
  Told : Addr := 0
  Ahead : Addr := 0
  Rings : Addr := 0
  Blocks : Addr := 0
  Looker : Addr := 0
  Burner : Addr := 0
  f_burn_of : Addr := 0
  f_due_of : Addr := 0
  f_is_caught : Addr := 0
  f_box_of : Addr := 0
  f_best_for : Addr := 0
  f_cheapest_cost : Addr := 0
def r_is_integer : RDs := fun xs S Q => ∃ d t, xs = [d] ∧ tyV d = some t ∧ Q (.bl (isNum d)) S
def Flat (d : D) : Prop := (∃ t, tyV d = some t) ∧ (∀ zs, d ≠ .ro zs) ∧ ∀ ys, seqOf d = some ys → ys.length ≤ sizeLine ∧ ∀ y ∈ ys, ∃ t, tyV y = some t
def isSq (d : D) : Bool := match seqOf d with
  | some [x, y] => isNum x && isNum y
  | _ => false
def sqOf (d : D) : Int × Int := match seqOf d with
  | some [.int a, .int b] => (a, b)
  | _ => (0, 0)
def sqsOf (d : D) : List (Int × Int) := match seqOf d with
  | some ys => ys.map sqOf
  | none => []
def areSq (d : D) : Bool := match seqOf d with
  | some ys => ys.all isSq && decide (ys.map sqOf).Nodup
  | none => false
def b_is_integer : TSd := (sRet (eAnd (eIsi "int" (eVar 0)) (eNot (eIsi "bool" (eVar 0)))))
theorem len_is_integer (xs : List D) (S : Store) (Q : QD) (h : r_is_integer xs S Q) : xs.length = 1 := by obtain ⟨_, _, rfl, _⟩ := h; rfl
theorem run_is_integer (xs : List D) (S : Store) (Q : QD) (h : r_is_integer xs S Q) : runD 1 b_is_integer xs S Q := by
  obtain ⟨d, t, rfl, ht, q⟩ := h
  unfold b_is_integer
  simp only [ap_runD, ap_sSeq, ap_sIf, ap_sNil, ap_sRet, ap_sAsg, ap_sDrop, ap_sPut, ap_sPar, ap_nm, ap_eVar, ap_eC, ap_eOp, ap_eChain, ap_eB, ap_eUn, ap_eTup, ap_eLst, ap_eLstM, ap_eAnd, ap_eOr, ap_eNot, ap_eIf, ap_bOf, ap_bAnd, ap_bOr, ap_bNot, ap_bYes, ap_aNil, ap_aCons, ap_eCall, ap_eCallKw, ap_eCut, ap_oNone, ap_oSome, ap_eM, ap_sSq, ap_sRange1, ap_sRange2, ap_sEnum, ap_eIsi, ap_eLc, ap_eLcM, ap_sFor, startD, List.map_cons, List.map_nil, List.length_cons, List.length_nil, List.getElem?_cons_zero, List.getElem?_cons_succ, List.set_cons_zero, List.set_cons_succ, List.replicate, List.cons_append, List.nil_append, Option.some.injEq, exists_eq_left', Option.bind_some, Nat.sub_self, Nat.reduceAdd, Nat.reduceSub, Nat.reduceLeDiff]
  rw [drf_tyV ht]
  refine ⟨_, isiV_int ht, _, rfl, ?_⟩
  cases d <;> first | exact q | (cases ht; done) | exact ⟨_, isiV_bool ht, _, rfl, q⟩
theorem isSq_no {d : D} {ys : List D} (h : seqOf d = some ys) (h2 : ys.length ≠ 2) : isSq d = false := by
  unfold isSq
  rw [h]
  match ys, h2 with
  | [], _ => rfl
  | [_], _ => rfl
  | [_, _], h2 => exact (h2 rfl).elim
  | _ :: _ :: _ :: _, _ => rfl
theorem sq_pair {d : D} (h : isSq d = true) : seqOf d = some [.int (sqOf d).1, .int (sqOf d).2] := by
  unfold isSq at h
  split at h
  · rename_i x y e
    cases x with
    | int a =>
      cases y with
      | int b =>
        have : sqOf d = (a, b) := by unfold sqOf; rw [e]
        rw [this]
        exact e
      | _ => cases h
    | _ => cases h
  · cases h
theorem items_seq {d : D} {ys : List D} {t : String} (ht : tyV d = some t) (h : seqOf d = some ys) (hr : ∀ zs, d ≠ .ro zs) : itemsD d = some ys := by
  cases d with
  | lst xs => exact h
  | tup xs => exact h
  | ro xs => exact (hr xs rfl).elim
  | kt xs => cases ht
  | _ => cases h
def pr2 (p : Int × Int) : List Int := [p.1, p.2]
theorem pr2_inj {p q : Int × Int} (h : pr2 p = pr2 q) : p = q := by
  simp only [pr2, List.cons.injEq, and_true] at h
  exact Prod.ext h.1 h.2
theorem nodup_pr2 {ps : List (Int × Int)} : (ps.map pr2).Nodup ↔ ps.Nodup := by
  unfold List.Nodup
  rw [List.pairwise_map]
  exact ⟨fun h => h.imp fun h e => h (by rw [e]), fun h => h.imp fun h e => h (pr2_inj e)⟩
end NC
set_option Elab.async false
set_option linter.all false
set_option maxRecDepth 100000
set_option maxHeartbeats 1000000
namespace NC
open PySem PySem.Spec PyProof.Rows L2
def Sml (n : Int) : Prop := n.natAbs < 10 ^ 70
def SmlP (p : Int × Int) : Prop := Sml p.1 ∧ Sml p.2
theorem tyV_shw {n : Nat} {d : D} (h : NC.shw n d = true) : ∃ t, tyV d = some t := let ⟨t, e⟩ := ty_shw h; ⟨t, tyV_of e⟩
theorem sml_shw {n : Nat} {i : Int} (h : Sml i) : shw n (.int i) = true := shw_int' (k := 70) h (by decide)
theorem sml_wid {i : Int} (h : Sml i) : wid (.int i) ≤ 71 := wid_int (k := 70) (by decide) h
def sqL (p : Int × Int) : D := .lst [.int p.1, .int p.2]
def SqV (d : D) : Prop := ∃ p, SmlP p ∧ (d = sqD p ∨ d = sqL p)
theorem shw_D {n : Nat} {p : Int × Int} (h : SmlP p) : shw (n + 1) (sqD p) = true := by
  show shws n [.int p.1, .int p.2] = true
  simp only [shws, Bool.and_eq_true]
  exact ⟨sml_shw h.1, sml_shw h.2, trivial⟩
theorem shw_L {n : Nat} {p : Int × Int} (h : SmlP p) : shw (n + 1) (sqL p) = true := by
  show shws n [.int p.1, .int p.2] = true
  simp only [shws, Bool.and_eq_true]
  exact ⟨sml_shw h.1, sml_shw h.2, trivial⟩
theorem wid_D {p : Int × Int} (h : SmlP p) : wid (sqD p) ≤ 150 := by
  have h1 := sml_wid h.1
  have h2 := sml_wid h.2
  simp only [sqD, wid, wids] at h1 h2 ⊢
  omega
theorem wid_L {p : Int × Int} (h : SmlP p) : wid (sqL p) ≤ 150 := by
  have h1 := sml_wid h.1
  have h2 := sml_wid h.2
  simp only [sqL, wid, wids] at h1 h2 ⊢
  omega
theorem SqV.shw {n : Nat} {d : D} (h : SqV d) : shw (n + 1) d = true := by
  obtain ⟨p, hp, rfl | rfl⟩ := h
  · exact shw_D hp
  · exact shw_L hp
theorem SqV.wid {d : D} (h : SqV d) : wid d ≤ 150 := by
  obtain ⟨p, hp, rfl | rfl⟩ := h
  · exact wid_D hp
  · exact wid_L hp
theorem SqV.is {d : D} (h : SqV d) : isSq d = true := by
  obtain ⟨p, hp, rfl | rfl⟩ := h <;> rfl
theorem flat_D (p : Int × Int) : Flat (sqD p) := ⟨⟨_, rfl⟩, fun zs e => (nomatch e), fun ys hy => by
  cases hy
  exact ⟨(by decide : 2 ≤ sizeLine), fun y hm => by
    rcases List.mem_cons.mp hm with rfl | hm
    · exact ⟨_, rfl⟩
    · rw [List.mem_singleton.mp hm]
      exact ⟨_, rfl⟩⟩⟩
theorem flat_L (p : Int × Int) : Flat (sqL p) := ⟨⟨_, rfl⟩, fun zs e => (nomatch e), fun ys hy => by
  cases hy
  exact ⟨(by decide : 2 ≤ sizeLine), fun y hm => by
    rcases List.mem_cons.mp hm with rfl | hm
    · exact ⟨_, rfl⟩
    · rw [List.mem_singleton.mp hm]
      exact ⟨_, rfl⟩⟩⟩
theorem are_of {d : D} {zs : List D} (e : seqOf d = some zs) (h : ∀ z ∈ zs, isSq z = true) (hn : (zs.map sqOf).Nodup) : areSq d = true := by
  unfold areSq
  rw [e]
  show (zs.all isSq && decide (zs.map sqOf).Nodup) = true
  rw [List.all_eq_true.mpr h, decide_eq_true hn]
  rfl
theorem sqs_of {d : D} {zs : List D} (e : seqOf d = some zs) : sqsOf d = zs.map sqOf := by
  unfold sqsOf
  rw [e]
theorem shw_many {d : D} {zs : List D} {w n : Nat} (e : d = .lst zs ∨ d = .tup zs) (hs : ∀ z ∈ zs, shw n z = true) : shw (n + 1) d = true := by
  rcases e with rfl | rfl <;> exact shws_all.mpr hs
theorem wid_many {d : D} {zs : List D} {w m : Nat} (e : d = .lst zs ∨ d = .tup zs) (hw : ∀ z ∈ zs, wid z ≤ w) (hl : zs.length ≤ m) : wid d ≤ m * (w + 2) + 3 := by
  have h1 := wids_le (w := w) hw
  have h2 : zs.length * (w + 2) ≤ m * (w + 2) := Nat.mul_le_mul_right _ hl
  rcases e with rfl | rfl <;> simp only [wid] <;> omega
theorem flat_of {n : Nat} {d : D} (h : NC.shw n d = true) (hl : ∀ ys, seqOf d = some ys → ys.length ≤ 100) : Flat d := by
  refine ⟨tyV_shw h, fun zs e => ?_, fun ys hy => ⟨Nat.le_trans (hl ys hy) (by decide), fun y hm => ?_⟩⟩
  · subst e
    cases n <;> simp [NC.shw] at h
  · cases n with
    | zero => cases d <;> first | (cases hy; done) | (simp [NC.shw] at h; done)
    | succ n =>
      cases d with
      | lst xs =>
        cases hy
        exact tyV_shw (shws_all.mp (by simpa [NC.shw] using h) y hm)
      | tup xs =>
        cases hy
        exact tyV_shw (shws_all.mp (by simpa [NC.shw] using h) y hm)
      | ro xs => simp [NC.shw] at h
      | kt xs => simp [NC.shw] at h
      | _ => cases hy
def flB (d : D) : Bool := NC.shw 50 d && (match seqOf d with | some ys => decide (ys.length ≤ 50) | none => true)
theorem flB_ok {d : D} (h : flB d = true) : Flat d := by
  unfold flB at h
  rw [Bool.and_eq_true] at h
  refine flat_of h.1 fun ys hy => ?_
  have h2 := h.2
  rw [hy] at h2
  have := of_decide_eq_true h2
  omega
abbrev Srt (l : List (Int × Int)) : Prop := l.Pairwise fun p q => ltS q p = false
end NC
set_option Elab.async false
set_option linter.all false
set_option maxRecDepth 100000
set_option maxHeartbeats 1000000
namespace NC
open PySem PySem.Spec PyProof.Rows L2
open Evl (Ex)
def tDcT (wi : TI) (g : TG) (tt : TT) (tk tv : TE) (vs : List Nat) : TE := fun σ H Q => wi σ H fun J Ha => ∀ p, Ha p = none → ∃ W : Nat → Nat → Hp → Prop, (∃ m, W 0 m (upd Ha p (.dT []))) ∧ ∀ i m Hb, W i m Hb →
  (J.stop i Hb ∧ Q (.ref p) Hb) ∨ (J.go i Hb ∧ ∃ Nx : Hp → Prop, (∀ Hc, Nx Hc → ∃ m', m' < m ∧ W (i + 1) m' Hc) ∧ ∀ x Hc, J.yld i Hb x Hc → g x (wipe σ vs) Hc fun σb Hd => wipe σb vs = wipe σ vs ∧ tt σb Hd fun b He =>
    if b = true then tk σb He fun y Hf => tv σb Hf fun z Hg => ∃ c kvs ks, y = .ref c ∧ Hg c = some (.tup (ks.map kV)) ∧ Hg p = some (.dT kvs) ∧ kvs.length < sizeLine ∧ Nx (upd Hg p (.dT (putK kvs ks z))) else Nx He)
section
variable {X : Cx} {kx vx tg iter : Expr} {ifs : List Expr} {sc : Scope} {own : List (Str × Nat)} {pos : Pos} {wi : TI} {g : TG} {tt : TT} {tk tv : TE}
theorem dct_core {pins : List (Addr × Obj)} {t : Shared} {σ : L2.St} {H : Hp} {Q : VK} {pos' : Pos} {use : Option (Value → Sem Unit)} {Qf : Value → Shared → Prop} (I : L2.Inv X pins σ H t) (hu : X.A.units < cLine) (calm : X.calm = true) (nd : X.N.Nodup) (hi : PI X tg iter wi) (ok : BlkOk X.N X.env.scope sc own)
    (hg : ∀ (s : Shared) (H : Hp) (C : Addr) (cl : List (Str × Addr)) (fp : List Addr), PG (X.blk s H sc (compEnvC sc cl C X.env) fp) tg g) (ht : ∀ (s : Shared) (H : Hp) (C : Addr) (cl : List (Str × Addr)) (fp : List Addr), PTs (X.blk s H sc (compEnvC sc cl C X.env) fp) ifs tt)
    (hk : ∀ (s : Shared) (H : Hp) (C : Addr) (cl : List (Str × Addr)) (fp : List Addr), PE (X.blk s H sc (compEnvC sc cl C X.env) fp) kx tk) (hv : ∀ (s : Shared) (H : Hp) (C : Addr) (cl : List (Str × Addr)) (fp : List Addr), PE (X.blk s H sc (compEnvC sc cl C X.env) fp) vx tv)
    (plain : ∀ x, foldedSetIterable iter X.env x = pure x)
    (h : tDcT wi g tt tk tv (own.map (·.2)) σ H Q) (post : ∀ p C u m Hc, L2.Inv X pins σ Hc u → Q (.ref p) Hc → u.heap.Ns C m → FpOk X pins Hc C → compPost (model X.prog X.w) X.A X.xe use Qf (.ref p) C (.ok .next) u) :
    wpAny (model X.prog X.w) X.A (comprehension (.DictComp kx vx [⟨tg, iter, ifs, 0⟩] sc pos) sc X.env pos' newDict false (eval iter X.env) use) Qf X.xe t := by
  have frees : ∀ z ∈ sc.names, z.2 = .free → ∃ c, X.env.cells.lookup z.1 = some c := fun z hz e => (ok.free z hz e).elim (fun k => I.ok.has _ (.inl k)) fun k => I.ok.has _ (.inr k)
  refine wpAny_comprehension_free (use := use) rfl plain (closure_ok frees) ok.kind (fun z hz e => by rw [ok.uniq z hz, e]) (thn (hi.run pins t σ H _ I h) fun xv t1 hx => thn hx fun iv t2 ⟨it, fp, tn, J, Ha, e, Ia, tr, sa, fa, turns⟩ => ?_)
  subst e
  refine wpAny_newObj_type (newEnv_comp ?_)
  -- the dict's own place
  generalize hp : t2.heap.objs.size = p
  obtain ⟨W, ⟨m0, w0⟩, turn⟩ := turns p (Ia.hok.fresh (Nat.le_of_eq hp))
  generalize e3 : ({ t2 with heap := t2.heap.push { cls := .type "dict", data := .dict #[] } } : Shared) = t3
  have heap3 : t3.heap = t2.heap.push { cls := .type "dict", data := .dict #[] } := by rw [← e3]
  have stay3 : ∀ b o, t2.heap.get? b = some o → t3.heap.get? b = some o := fun b o e => by rw [heap3]; exact Heap.get?_push_of_some _ e
  generalize eHb : upd Ha p (.dT []) = Hb at w0
  have Ib : L2.Inv X pins σ Hb t3 := by
    rw [← e3, ← eHb]
    refine Ia.laid (t' := t2.toks) (fun b o e => Heap.get?_push_of_some _ e) (Nat.le_of_eq hp) ?_
    rw [← hp]
    exact dt_empty t2.heap Ia.big
  have small : ∀ b ∈ fp, b < p := fun b hb => by
    obtain ⟨o, e, _⟩ := tr.obj _ _ sa b hb
    rw [← hp]
    exact Heap.lt_size e
  have fb : ∀ b ∈ fp, FpOk X pins Hb b ∧ b < t3.heap.objs.size := fun b hb => by
    refine ⟨⟨?_, (fa b hb).2⟩, ?_⟩
    · rw [← eHb, upd_ne (Nat.ne_of_lt (small b hb))]
      exact (fa b hb).1
    · rw [heap3, Heap.size_push, hp]
      exact Nat.lt_succ_of_lt (small b hb)
  have Ic := block_start Ib ok nd fb
  have pg := hg t3 Hb t3.heap.objs.size (cellsFrom (t3.heap.objs.size + 1) sc.names (cloFrom X.env.cells sc.names [])) fp
  have pt := ht t3 Hb t3.heap.objs.size (cellsFrom (t3.heap.objs.size + 1) sc.names (cloFrom X.env.cells sc.names [])) fp
  have pk := hk t3 Hb t3.heap.objs.size (cellsFrom (t3.heap.objs.size + 1) sc.names (cloFrom X.env.cells sc.names [])) fp
  have pv := hv t3 Hb t3.heap.objs.size (cellsFrom (t3.heap.objs.size + 1) sc.names (cloFrom X.env.cells sc.names [])) fp
  show codeAny _ _ (.compStart _ 0 (.ref it) (.ref p) (compEnvC sc (cellsFrom (t3.heap.objs.size + 1) sc.names (cloFrom X.env.cells sc.names [])) t3.heap.objs.size X.env)) (compPost (model X.prog X.w) X.A X.xe use Qf (.ref p) t3.heap.objs.size) { t3 with heap := pushCells (t3.heap.push { cls := .type "dict", data := .dict #[] }) sc.names }
  generalize ece : compEnvC sc (cellsFrom (t3.heap.objs.size + 1) sc.names (cloFrom X.env.cells sc.names [])) t3.heap.objs.size X.env = ce at Ic pg pt pk pv ⊢
  have hloc : ce.locals = t3.heap.objs.size := by rw [← ece]; rfl
  generalize e4 : ({ t3 with heap := pushCells (t3.heap.push { cls := .type "dict", data := .dict #[] }) sc.names } : Shared) = t4 at Ic ⊢
  have sb : tn 0 t4.heap := tr.keep _ _ _ sa fun b _ o e => by rw [← e4]; exact pushCells_keeps _ _ _ _ (Heap.get?_push_of_some _ (stay3 b o e))
  let B := X.blk t3 Hb sc ce fp
  have fpB : ∀ {σ' : L2.St} {H' : Hp} {u : Shared}, L2.Inv B [] σ' H' u → (∀ b ∈ fp, H' b = none) → ∀ b ∈ fp, FpOk B [] H' b := fun {σ' H' u} Iu none b hb =>
    ⟨none b hb, (Iu.ok.exf b hb).1, Iu.ok.exfs b hb, .inl hb, fun x c e => (Iu.ok.exf b hb).2 x c e, fun q hq => (List.not_mem_nil (show q ∈ [] ++ [] from hq)).elim⟩
  let St (n : Nat) (u : Shared) : Prop := ∃ i H', L2.Inv B [] (wipe σ (own.map (·.2))) H' u ∧ tn i u.heap ∧ (∀ b ∈ fp, H' b = none) ∧ W i n H'
  have turnsAll : codeAny (model X.prog X.w) X.A (.compLoop (.DictComp kx vx [⟨tg, iter, ifs, 0⟩] sc pos) 0 (.ref it) (.ref p) ce) (compPost (model X.prog X.w) X.A X.xe use Qf (.ref p) t3.heap.objs.size) t4 := by
    refine compLoop_anyD St ?_ m0 ⟨0, Hb, Ic, sb, fun b hb => (fb b hb).1.1, w0⟩
    rintro n u ⟨i, Hc, Id, sc', free, wc⟩
    rcases turn i n Hc wc with ⟨stop, last⟩ | ⟨go, Nx, less, step⟩
    · refine thnF (tr.done B rfl rfl rfl calm i [] u _ Hc (fun _ _ => False) Id (fpB Id free) sc' stop) fun r u1 ⟨er, Ie⟩ => ?_
      subst er
      have If : L2.Inv X pins σ Hc u1 := Ib.call' (ch := fp) Ie.os Ie.base Ie.hok Ie.bare fun b hb => by
        obtain ⟨⟨_, z1, _, z3, z4, z5⟩, _⟩ := fb b hb
        exact ⟨z3, z1, z4, z5⟩
      obtain ⟨mm, hm, _⟩ := Ie.loc
      have atC : u1.heap.Ns t3.heap.objs.size mm := by
        rw [← hloc]
        exact hm
      have none : Hc t3.heap.objs.size = none := by
        rw [← hloc]
        exact Ie.free
      exact post p t3.heap.objs.size u1 mm Hc If last atC (Ib.fpOk (Nat.le_refl _) none)
    · refine thnF (tr.item B rfl rfl rfl calm i [] u _ Hc (fun _ _ => False) Id (fpB Id free) sc' go) fun r u1 ⟨xv, er, more⟩ => ?_
      subst er
      refine thnF more fun _ u2 ⟨x, Hd, Ie, rx, yx, sd, freed⟩ => ?_
      refine thnF (pg.run _ u2 _ Hd x xv _ (Ie.pinned (fpB Ie freed) (tr.obj _ _ sd)) rx (step x Hd yx)) fun _ u3 ⟨σb, He, If, ew, qe⟩ => ?_
      refine thnF (pt.run _ u3 σb He _ If qe) fun b u4 ⟨Hf, Ig, qf⟩ => ?_
      have close : ∀ {v : Shared} {H' : Hp}, L2.Inv B ([] ++ pinsAt fp u2.heap) σb H' v → Nx H' → ∃ m, m < n ∧ St m v := fun {v H'} Iv nx => by
        obtain ⟨m', lt, w'⟩ := less H' nx
        have held : ∀ b ∈ fp, ∀ o, u2.heap.get? b = some o → v.heap.get? b = some o ∧ H' b = none := fun b hb o e => by
          have z := Iv.pin (b, o) (List.mem_append_right _ (List.mem_append_right _ (mem_pinsAt hb e)))
          exact ⟨z.1, z.2.1⟩
        have len : (wipe σ (own.map (·.2))).length = σb.length := by rw [← ew, wipe_length]
        refine ⟨m', lt, i + 1, H', (Iv.unpinned (pins := [])).weak len (fun j z e => ?_), tr.keep _ _ _ sd fun b hb o e => (held b hb o e).1, fun b hb => ?_, w'⟩
        · rw [← ew] at e
          exact (wipe_some e).1
        · obtain ⟨o, e, _⟩ := tr.obj _ _ sd b hb
          exact (held b hb o e).2
      cases b with
      | false => exact close Ig qf
      | true =>
        refine thnF (pk.run _ u4 σb Hf _ Ig qf) fun kv u5 ⟨y, Hg, Ih, ry, qg⟩ => ?_
        refine thnF (pv.run _ u5 σb Hg _ Ih qg) fun zv u6 ⟨z, Hh, Ii, rz, c, kvs, ks, ey, hc, hd, few, nx⟩ => ?_
        subst ey
        obtain rfl : kv = Value.ref c := ry
        exact dt_set (X := B) hu Ii hd hc rz few fun u7 Ij => close Ij nx
  exact codeAny_compStart_dict turnsAll (tr.self X.A 0 _ _ _ sb turnsAll)
theorem pe_dcT (hu : X.A.units < cLine) (calm : X.calm = true) (nd : X.N.Nodup) (hi : PI X tg iter wi) (ok : BlkOk X.N X.env.scope sc own)
    (hg : ∀ (s : Shared) (H : Hp) (C : Addr) (cl : List (Str × Addr)) (fp : List Addr), PG (X.blk s H sc (compEnvC sc cl C X.env) fp) tg g) (ht : ∀ (s : Shared) (H : Hp) (C : Addr) (cl : List (Str × Addr)) (fp : List Addr), PTs (X.blk s H sc (compEnvC sc cl C X.env) fp) ifs tt)
    (hk : ∀ (s : Shared) (H : Hp) (C : Addr) (cl : List (Str × Addr)) (fp : List Addr), PE (X.blk s H sc (compEnvC sc cl C X.env) fp) kx tk) (hv : ∀ (s : Shared) (H : Hp) (C : Addr) (cl : List (Str × Addr)) (fp : List Addr), PE (X.blk s H sc (compEnvC sc cl C X.env) fp) vx tv)
    (plain : ∀ x, foldedSetIterable iter X.env x = pure x := by intro _; rfl) : PE X (.DictComp kx vx [⟨tg, iter, ifs, 0⟩] sc pos) (tDcT wi g tt tk tv (own.map (·.2))) := by
  refine ⟨fun pins t σ H Q I h => ?_⟩
  rw [arm_eval_DictComp]
  refine dct_core I hu calm nd hi ok hg ht hk hv plain h fun p C u m Hc Ic qq atC fp => ⟨m, atC, fun hh same => ?_⟩
  obtain ⟨z0, z1, _, z3, z4, z5⟩ := fp
  exact ⟨.ref p, Hc, Ic.turned (t' := u.toks) (fun b o hb e => (same.2 b hb).trans e) z0 z1 z3 z4 z5, rfl, qq⟩
end
def putT (kvs : List (List Key × D)) (k : List Key) (v : D) : List (List Key × D) :=
  if (kvs.any fun p => decide (p.1 = k)) = true then kvs.map (fun p => if p.1 = k then (p.1, v) else p) else kvs ++ [(k, v)]
section
variable {K : PySem.W.Frag} {B : Hp} {β : List Addr}
theorem RepT.len : ∀ {ds : List (List Key × D)} {kvs : List (List Key × V)}, RepT K B β kvs ds → kvs.length = ds.length
  | [], _, h => by cases h; rfl
  | d :: ds, _, h => by
    cases h with
    | cons h1 h2 => simp [RepT.len h2]
theorem RepT.any {p : List Key → Bool} : ∀ {ds : List (List Key × D)} {kvs : List (List Key × V)}, RepT K B β kvs ds → (kvs.any fun x => p x.1) = ds.any fun x => p x.1
  | [], _, h => by cases h; rfl
  | d :: ds, _, h => by
    cases h with
    | cons h1 h2 => simp [RepT.any (p := p) h2]
theorem RepT.upd' {k : List Key} {v : V} {d : D} (r : Rep K B β v d) : ∀ {ds : List (List Key × D)} {kvs : List (List Key × V)}, RepT K B β kvs ds →
    RepT K B β (kvs.map fun x => if x.1 = k then (x.1, v) else x) (ds.map fun x => if x.1 = k then (x.1, d) else x)
  | [], _, h => by cases h; exact .nil
  | (k', e) :: ds, _, h => by
    cases h with
    | cons h1 h2 =>
      by_cases hk : k' = k
      · simp only [List.map_cons, hk, if_true]
        exact .cons r (RepT.upd' r h2)
      · simp only [List.map_cons, hk, if_false]
        exact .cons h1 (RepT.upd' r h2)
theorem RepT.append : ∀ {ds es : List (List Key × D)} {kvs lvs : List (List Key × V)}, RepT K B β kvs ds → RepT K B β lvs es → RepT K B β (kvs ++ lvs) (ds ++ es)
  | [], _, _, _, h, h' => by cases h; exact h'
  | d :: ds, _, _, _, h, h' => by
    cases h with
    | cons h1 h2 => exact .cons h1 (RepT.append h2 h')
theorem RepT.put {k : List Key} {v : V} {d : D} (r : Rep K B β v d) {ds : List (List Key × D)} {kvs : List (List Key × V)} (h : RepT K B β kvs ds) : RepT K B β (putK kvs k v) (putT ds k d) := by
  unfold putK putT
  rw [h.any (p := fun x => decide (x = k))]
  split
  · exact h.upd' r
  · exact h.append (.cons r .nil)
end
def dcW (ts : TSr) (t : Tg) (tt : TB) (tk tv : TD) (vs : List Nat) (ρ : Rho) (S : Store) (R : List (List Key × D) → Store → Prop) : Prop := ts ρ S fun items stays S1 => ∃ I : Nat → List (List Key × D) → Store → Prop, I 0 [] S1 ∧ (∀ i acc S', I i acc S' → stays S') ∧ items.length ≤ sizeLine ∧
  (∀ i d acc S', items[i]? = some d → I i acc S' → ∃ ρ2, bindT t d (wipeD ρ vs) = some ρ2 ∧ tt ρ2 S' fun b S2 => if b = true then tk ρ2 S2 fun y S3 => tv ρ2 S3 fun z S4 => ∃ ks : List Key, y = .tup (ks.map kD) ∧ I (i + 1) (putT acc ks z) S4 else I (i + 1) acc S2) ∧ ∀ acc S', I items.length acc S' → R acc S'
def eDcT (ts : TSr) (t : Tg) (tt : TB) (tk tv : TD) (vs : List Nat) : TD := fun ρ S Q => dcW ts t tt tk tv vs ρ S fun acc S' => Q (.dit acc) S'
theorem len_putT (kvs : List (List Key × D)) (k : List Key) (v : D) : (putT kvs k v).length ≤ kvs.length + 1 := by
  unfold putT
  split <;> simp
section
variable {K : PySem.W.Frag} {G : Gh}
theorem dc_lift {ts : TSr} {t : Tg} {tt : TB} {tk tv : TD} {vs : List Nat} (hv : ∀ i ∈ t.slots, i ∈ vs) {σ : L2.St} {H : Hp} {Q : VK} (h : tE K G (eDcT ts t tt tk tv vs) σ H Q) : tDcT (tI K G ts) (toG K t) (tT K G tt) (tE K G tk) (tE K G tv) vs σ H Q := by
  obtain ⟨Y, β, S, ρ, Q', rl, q, k⟩ := h
  refine ⟨Y, β, S, ρ, _, rl, q, fun items stays S1 β1 H1 J s1 io ⟨I, i0, ist, hlen, istep, iend⟩ => fun p hp => ?_⟩
  have hpY : p ∉ Y := fun hm => s1.ok.xtrk p hm hp
  obtain ⟨ok0, ex0⟩ := s1.ok.open hp (.dT [])
  have hgp := s1.ok.unseen hp
  have ne1 : ∀ b, H1 b ≠ none → b ≠ p := fun b h e => h (e ▸ hp)
  refine ⟨fun i m H' => m = items.length - i ∧ i ≤ items.length ∧ ∃ β' S' acc us, Lat K G Y β1 S1 H1 (p :: Y) β' S' H' ∧ (∀ a ∈ Y, Kept H1 H' a) ∧ (∀ a, H1 a ≠ none → H' a ≠ none) ∧ H' p = some (.dT us) ∧ RepT K (hid (p :: Y) β' S' H') β' us acc ∧ acc.length ≤ i ∧ I i acc S',
    ⟨items.length, by simp, Nat.zero_le _, β1, S1, [], [], ⟨ok0, .refl _, ex0⟩, fun a ha => .inl (upd_ne (ne1 a (s1.ok.xtrk a ha))), fun a ha => by rw [upd_ne (ne1 a ha)]; exact ha, upd_same, .nil, Nat.zero_le _, i0⟩, ?_⟩
  rintro i m H' ⟨rfl, hi, β', S', acc, us, lt, hx, htr, hpv, rp, hal, inv⟩
  by_cases hlt : i < items.length
  · have hit : items[i]? = some items[i] := List.getElem?_eq_getElem hlt
    obtain ⟨g1, g2⟩ := io.go _ _ _ _ lt (ist _ _ _ inv) i _ hit
    refine .inr ⟨g1, fun H3 => ∃ β' S' acc us, Lat K G Y β1 S1 H1 (p :: Y) β' S' H3 ∧ (∀ a ∈ Y, Kept H1 H3 a) ∧ (∀ a, H1 a ≠ none → H3 a ≠ none) ∧ H3 p = some (.dT us) ∧ RepT K (hid (p :: Y) β' S' H3) β' us acc ∧ acc.length ≤ i + 1 ∧ I (i + 1) acc S',
      fun H3 h3 => ⟨items.length - (i + 1), by omega, rfl, hlt, h3⟩, fun x H2 hy => ?_⟩
    obtain ⟨s2, rx⟩ := g2 x H2 hy
    obtain ⟨ρ2, hb2, hbody⟩ := istep i _ acc S' hit inv
    have rl1 : Rel K G (p :: Y) β' S' ρ σ H2 := ⟨s2.ok, rl.len, fun j d e => let ⟨v, e1, q⟩ := rl.get j d e; ⟨v, e1, (((s1.rep q).mono lt.ex lt.pre)).mono s2.ex s2.pre⟩⟩
    obtain ⟨σ2, hset, r2, hw⟩ := bind_ok hb2 (rl1.wipe vs) rx
    refine hset _ ⟨?_, p :: Y, β', S', ρ2, _, r2, hbody, fun b S3 β3 H3 s3 q3 => ?_⟩
    · rw [hw vs hv, wipe_wipe fun u hu => hu]
    · have s23 := s2.trans s3
      have hp3 : ∀ {β4 : List Addr} {S4 : Store} {H4 : Hp}, Step K G (p :: Y) β' S' H' β4 S4 H4 → H4 p = some (.dT us) := fun s4 => (s4.ext p (by simp)).at hpv fun _ z => (by cases z)
      cases b with
      | true =>
        refine ⟨p :: Y, β3, S3, ρ2, _, r2.step s3, q3, fun y S4 v β4 H4 s4 r4 q4 => ⟨p :: Y, β4, S4, ρ2, _, (r2.step s3).step s4, q4, fun z S5 w β5 H5 s5 r5 ⟨ks, ey, q5⟩ => ?_⟩⟩
        subst ey
        have s25 := (s23.trans s4).trans s5
        have r4' := s5.rep r4
        cases r4' with
        | @tup c vs' _ hc rv =>
          have ev := rv.keys
          subst ev
          have rp5 : RepT K (hid (p :: Y) β5 S5 H5) β5 us acc := RepT.mono s25.ex s25.pre rp
          refine ⟨c, us, ks, rfl, hid_ex _ _ hc, hp3 s25, by have := rp.len; omega, β5, S5, putT acc ks z, putK us ks w, ⟨s25.ok.touch hgp ⟨hp3 s25, fun _ z => (by cases z), fun _ _ => code_dT⟩ _, lt.pre.trans s25.pre, ?_⟩, fun a ha => ?_, fun a ha => ?_, upd_same, ?_, by have := len_putT acc ks z; omega, q5⟩
          · rw [hid_upd]
            exact lt.ex.trans s25.ex
          · exact ((hx a ha).trans (s25.ext a (by simp [ha]))).trans (.inl (upd_ne (fun e : a = p => hpY (e ▸ ha))))
          · by_cases e : a = p
            · rw [e, upd_same]
              simp
            · rw [upd_ne e]
              exact s25.trk a (htr a ha)
          · rw [hid_upd]
            exact RepT.put r5 rp5
      | false =>
        exact ⟨β3, S3, acc, us, ⟨s23.ok, lt.pre.trans s23.pre, lt.ex.trans s23.ex⟩, fun a ha => (hx a ha).trans (s23.ext a (by simp [ha])), fun a ha => s23.trk a (htr a ha), hp3 s23, RepT.mono s23.ex s23.pre rp, by omega, q3⟩
  · have e : i = items.length := by omega
    subst e
    obtain ⟨ok', ex'⟩ := lt.ok.close hgp hpv fun _ z => (by cases z)
    have hl : hid Y β' S' H' p = some (.dT us) := by
      rw [hid_of hpY fun n o e1 _ => lt.ok.out p (List.mem_of_getElem? e1) (by simp)]
      exact hpv
    refine .inl ⟨io.stop _ _ _ _ lt (ist _ _ _ inv), k _ S' _ β' H' ⟨s1.pre.trans lt.pre, (s1.ex.trans lt.ex).trans ex', fun a ha => (s1.ext a ha).trans (hx a ha), fun a ha => htr a (s1.trk a ha), ok'⟩ (.dit hl (RepT.mono ex' (.refl _) rp)) (iend _ _ inv)⟩
end
section
variable {X : Cx} {G : Gh} {e : Expr} {ts : TSr} {t : Tg} {tt : TB} {tk tv : TD} {vs : List Nat}
theorem de_dcT (h : PE X e (tDcT (tI X.K G ts) (toG X.K t) (tT X.K G tt) (tE X.K G tk) (tE X.K G tv) vs)) (hv : ∀ i ∈ t.slots, i ∈ vs) : PE X e (tE X.K G (eDcT ts t tt tk tv vs)) := h.imp fun _ _ _ q => dc_lift hv q
end
end NC
set_option Elab.async false
set_option linter.all false
set_option maxRecDepth 100000
set_option maxHeartbeats 1000000
namespace NC
open PySem PySem.Spec PyProof.Rows L2
open Evl (Ex)
section
variable {X : Cx} {G : Gh} {r r' : RD2}
theorem op_or {f : Value → Value → Sem Value} (h : OpR X f (l2 X.K G r)) (h' : OpR X f (l2 X.K G r')) : OpR X f (l2 X.K G fun x y S Q => r x y S Q ∨ r' x y S Q) := by
  intro pins s σ H x y v u Q I rx ry ⟨Y, β, S, dx, dy, Q', o, r1, r2, q, k⟩
  rcases q with q | q
  · exact h pins s σ H x y v u Q I rx ry ⟨Y, β, S, dx, dy, Q', o, r1, r2, q, k⟩
  · exact h' pins s σ H x y v u Q I rx ry ⟨Y, β, S, dx, dy, Q', o, r1, r2, q, k⟩
theorem ix_or (h : IxR X (l2 X.K G r)) (h' : IxR X (l2 X.K G r')) : IxR X (l2 X.K G fun x y S Q => r x y S Q ∨ r' x y S Q) := by
  intro value slice pins s σ H x y v u Q I rx ry ⟨Y, β, S, dx, dy, Q', o, r1, r2, q, k⟩ hs
  rcases q with q | q
  · exact h value slice pins s σ H x y v u Q I rx ry ⟨Y, β, S, dx, dy, Q', o, r1, r2, q, k⟩ hs
  · exact h' value slice pins s σ H x y v u Q I rx ry ⟨Y, β, S, dx, dy, Q', o, r1, r2, q, k⟩ hs
def rIsB : RD2 := fun x y S Q => ∃ a b, x = .bl a ∧ y = .bl b ∧ Q (.bl (decide (a = b))) S
def rIsU : RD2 := fun x y S Q => rIs x y S Q ∨ rIsB x y S Q
theorem o_isU : OpR X (compareOp .Is) (l2 X.K G rIsU) := op_or o_is (by
  intro pins s σ H x y v u Q I rx ry ⟨Y, β, S, dx, dy, Q', o, r1, r2, ⟨a, b, ex, ey, q⟩, k⟩
  subst ex
  subst ey
  cases r1
  cases r2
  exact op_is_bl pins s σ H _ _ v u Q I rx ry ⟨a, b, rfl, rfl, k _ S _ β H (.refl o) (.bl _) q⟩)
def rLtTD : RD2 := fun x y S Q => ∃ ns ms : List Int, drf S x = .tup (ns.map .int) ∧ drf S y = .tup (ms.map .int) ∧ Q (.bl (HT.lexLt ns ms)) S
def rLtU : RD2 := fun x y S Q => rLt x y S Q ∨ rLtTD x y S Q
theorem o_ltU (hu : X.A.units < cLine) : OpR X (compareOp .Lt) (l2 X.K G rLtU) := op_or o_lt (by
  intro pins s σ H x y v u Q I rx ry ⟨Y, β, S, dx, dy, Q', o, r1, r2, ⟨ns, ms, ex, ey, q⟩, k⟩
  obtain ⟨a, vs, rfl, h1, e1⟩ := ok_tup o r1 ex
  obtain ⟨b, ws, rfl, h2, e2⟩ := ok_tup o r2 ey
  have e1' := e1.int'
  have e2' := e2.int'
  subst e1'
  subst e2'
  exact op_ltT hu pins s σ H _ _ v u Q I rx ry ⟨a, b, ns, ms, rfl, rfl, .inl (.inl (hid_ex _ _ h1)), .inl (.inl (hid_ex _ _ h2)), k _ S _ β H (.refl o) (.bl _) q⟩)
def hasT (kvs : List (List Key × D)) (ks : List Key) : Bool := kvs.any fun p => decide (p.1 = ks)
def hasK (kvs : List (Key × D)) (k : Key) : Bool := kvs.any fun p => decide (p.1 = k)
def InDict (S : Store) (x y : D) (b : Bool) : Prop := (∃ kvs ks, drf S y = .dit kvs ∧ drf S x = .tup (ks.map kD) ∧ b = hasT kvs ks) ∨ ∃ kvs k, drf S y = .dic kvs ∧ x = kD k ∧ b = hasK kvs k
def rInDi : RD2 := fun x y S Q => ∃ b, InDict S x y b ∧ Q (.bl b) S
def rNiDi : RD2 := fun x y S Q => ∃ b, InDict S x y b ∧ Q (.bl (!b)) S
def rInU : RD2 := fun x y S Q => rInD2 x y S Q ∨ rInDi x y S Q
def rNiU : RD2 := fun x y S Q => rNiD2 x y S Q ∨ rNiDi x y S Q
theorem any_valV {κ : Type} [DecidableEq κ] (kvs : List (κ × V)) (k : κ) : (valV kvs k).isSome = kvs.any fun p => decide (p.1 = k) := (valV_any k kvs).symm
theorem rep_key {K : PySem.W.Frag} {B : Hp} {β : List Addr} {v : V} {k : Key} (r : Rep K B β v (kD k)) : v = kV k := by
  cases k <;> (cases r; rfl)
theorem dget {K : PySem.W.Frag} {Y β : List Addr} {S : Store} {H : Hp} {x y : V} {dx dy : D} (o : Ok K G Y β S H) (r1 : Rep K (hid Y β S H) β x dx) (r2 : Rep K (hid Y β S H) β y dy) {b : Bool} (h : InDict S dx dy b) : ∃ a w, y = .ref a ∧ DGet H a x w ∧ w.isSome = b := by
  rcases h with ⟨kvs, ks, ey, ex, eb⟩ | ⟨kvs, k, ey, ex, eb⟩
  · have e1 := o.drf r1
    have e2 := o.drf r2
    rw [ex] at e1
    rw [ey] at e2
    subst eb
    cases e2 with
    | dit h1 h2 =>
      cases e1 with
      | tup h3 h4 =>
        have ek := h4.keys
        subst ek
        exact ⟨_, _, rfl, .t h1 h3, (any_valV _ _).trans (h2.any (p := fun z => decide (z = ks)))⟩
  · have e2 := o.drf r2
    rw [ey] at e2
    subst ex
    subst eb
    cases rep_key r1
    cases e2 with
    | dic h1 h2 => exact ⟨_, _, rfl, .k h1, (any_valV _ _).trans (h2.any (p := fun z => decide (z = k)))⟩
theorem o_inU (hu : X.A.units + 65 < cLine) : OpR X (compareOp .In) (l2 X.K G rInU) := op_or (op_in' hu) (by
  intro pins s σ H x y v u Q I rx ry ⟨Y, β, S, dx, dy, Q', o, r1, r2, ⟨b, h, q⟩, k⟩
  obtain ⟨a, w, rfl, g, rfl⟩ := dget o r1 r2 h
  obtain rfl : u = Value.ref a := ry
  exact d_in (by omega) I g rx fun s' I' => ⟨.bl _, H, I', rfl, k _ S _ β H (.refl o) (.bl _) q⟩)
theorem o_niU (hu : X.A.units + 65 < cLine) : OpR X (compareOp .NotIn) (l2 X.K G rNiU) := op_or (op_ni' hu) (by
  intro pins s σ H x y v u Q I rx ry ⟨Y, β, S, dx, dy, Q', o, r1, r2, ⟨b, h, q⟩, k⟩
  obtain ⟨a, w, rfl, g, rfl⟩ := dget o r1 r2 h
  obtain rfl : u = Value.ref a := ry
  exact d_notIn (by omega) I g rx fun s' I' => ⟨.bl _, H, I', rfl, k _ S _ β H (.refl o) (.bl _) q⟩)
def getT (kvs : List (List Key × D)) (ks : List Key) : Option D := (kvs.find? fun p => decide (p.1 = ks)).map (·.2)
def getK (kvs : List (Key × D)) (k : Key) : Option D := (kvs.find? fun p => decide (p.1 = k)).map (·.2)
def rIxDi : RD2 := fun x y S Q => ∃ d, ((∃ kvs ks, drf S x = .dit kvs ∧ drf S y = .tup (ks.map kD) ∧ getT kvs ks = some d) ∨ ∃ kvs k, drf S x = .dic kvs ∧ y = kD k ∧ getK kvs k = some d) ∧ Q d S
def rIxU : RD2 := fun x y S Q => rIx2 x y S Q ∨ rIxDi x y S Q
theorem RepT.get {K : PySem.W.Frag} {B : Hp} {β : List Addr} {ks : List Key} {d : D} : ∀ {ds : List (List Key × D)} {kvs : List (List Key × V)}, RepT K B β kvs ds → getT ds ks = some d → ∃ v, valV kvs ks = some v ∧ Rep K B β v d
  | [], _, h, e => by cases e
  | (k', z) :: ds, _, h, e => by
    cases h with
    | cons h1 h2 =>
      unfold getT at e
      by_cases q : k' = ks
      · rw [List.find?_cons_of_pos (by simpa using q)] at e
        cases e
        exact ⟨_, valV_pos q, h1⟩
      · rw [List.find?_cons_of_neg (by simpa using q)] at e
        obtain ⟨v, e1, r⟩ := RepT.get h2 e
        exact ⟨v, by rw [valV_neg q]; exact e1, r⟩
theorem RepK.get {K : PySem.W.Frag} {B : Hp} {β : List Addr} {k : Key} {d : D} : ∀ {ds : List (Key × D)} {kvs : List (Key × V)}, RepK K B β kvs ds → getK ds k = some d → ∃ v, valV kvs k = some v ∧ Rep K B β v d
  | [], _, h, e => by cases e
  | (k', z) :: ds, _, h, e => by
    cases h with
    | cons h1 h2 =>
      unfold getK at e
      by_cases q : k' = k
      · rw [List.find?_cons_of_pos (by simpa using q)] at e
        cases e
        exact ⟨_, valV_pos q, h1⟩
      · rw [List.find?_cons_of_neg (by simpa using q)] at e
        obtain ⟨v, e1, r⟩ := RepK.get h2 e
        exact ⟨v, by rw [valV_neg q]; exact e1, r⟩
theorem ok_dict {K : PySem.W.Frag} {Y β : List Addr} {S : Store} {H : Hp} {x y : V} {dx dy d : D} (o : Ok K G Y β S H) (r1 : Rep K (hid Y β S H) β x dx) (r2 : Rep K (hid Y β S H) β y dy)
    (h : (∃ kvs ks, drf S dx = .dit kvs ∧ drf S dy = .tup (ks.map kD) ∧ getT kvs ks = some d) ∨ ∃ kvs k, drf S dx = .dic kvs ∧ dy = kD k ∧ getK kvs k = some d) : ∃ a w, x = .ref a ∧ DGet H a y (some w) ∧ Rep K (hid Y β S H) β w d := by
  rcases h with ⟨kvs, ks, ex, ey, eg⟩ | ⟨kvs, k, ex, ey, eg⟩
  · have e2 := o.drf r2
    rw [ey] at e2
    cases dx with
    | dit zs =>
      have : zs = kvs := by
        have z : D.dit zs = D.dit kvs := ex
        cases z
        rfl
      subst this
      cases r1 with
      | dit h1 h2 =>
        obtain ⟨w, e, rw'⟩ := h2.get eg
        cases e2 with
        | tup h3 h4 =>
          have ek := h4.keys
          subst ek
          exact ⟨_, w, rfl, by rw [← e]; exact .t (hid_ex _ _ h1) h3, rw'⟩
    | ref n =>
      simp only [NC.drf] at ex
      split at ex
      · cases ex
      · cases ex
      · rename_i ds hs
        cases ex
        obtain ⟨a, e1, us, h1, h2⟩ := o.obj n _ hs
        cases r1 with
        | ref e3 =>
          rw [e1] at e3
          cases e3
          obtain ⟨w, e, rw'⟩ := h2.get eg
          cases e2 with
          | tup h3 h4 =>
            have ek := h4.keys
            subst ek
            exact ⟨_, w, rfl, by rw [← e]; exact .t h1 h3, rw'⟩
      · cases ex
      · cases ex
    | _ => simp [NC.drf] at ex
  · subst ey
    cases rep_key r2
    cases dx with
    | dic zs =>
      have : zs = kvs := by
        have z : D.dic zs = D.dic kvs := ex
        cases z
        rfl
      subst this
      cases r1 with
      | dic h1 h2 =>
        obtain ⟨w, e, rw'⟩ := h2.get eg
        exact ⟨_, w, rfl, by rw [← e]; exact .k (hid_ex _ _ h1), rw'⟩
    | ref n =>
      simp only [NC.drf] at ex
      split at ex
      · cases ex
      · rename_i ds hs
        cases ex
        obtain ⟨a, e1, us, h1, h2⟩ := o.obj n _ hs
        cases r1 with
        | ref e3 =>
          rw [e1] at e3
          cases e3
          obtain ⟨w, e, rw'⟩ := h2.get eg
          exact ⟨_, w, rfl, by rw [← e]; exact .k h1, rw'⟩
      · cases ex
      · cases ex
      · cases ex
    | _ => simp [NC.drf] at ex
theorem dict_is {X : Cx} {pins : List (Addr × Obj)} {σ : L2.St} {H : Hp} {s : Shared} {a : Addr} {y : V} {w : Option V} (I : L2.Inv X pins σ H s) (g : DGet H a y w) : s.TypeIs (.ref a) "dict" := by
  rcases g with ⟨kvs, k, e, _, _⟩ | ⟨kvs, k, b, e, _, _, _⟩
  · obtain ⟨_, _, vs, _, dd⟩ := dk_rd I.hok e
    exact dd.mapOf.typeIs
  · obtain ⟨_, _, xs, _, o, es, ep, h1, h2, _⟩ := dt_rd I.hok e
    exact ⟨o, h1, h2.1⟩
theorem o_ixU (hu : X.A.units + 65 < cLine) : IxR X (l2 X.K G rIxU) := ix_or o_ix (by
  intro value slice pins s σ H x y v u Q I rx ry ⟨Y, β, S, dx, dy, Q', o, r1, r2, ⟨d, h, q⟩, k⟩ hs
  obtain ⟨a, w, rfl, g, rw'⟩ := ok_dict o r1 r2 h
  obtain rfl : v = Value.ref a := rx
  exact tail_any (dict_is I g) slot_dict_getitem.lookup (d_getItem (by omega) I g ry fun w' s' I' rv => ⟨w, H, I', rv, k _ S _ β H (.refl o) rw' q⟩) hs)
end
end NC
set_option Elab.async false
set_option linter.all false
set_option maxRecDepth 100000
set_option maxHeartbeats 1000000
namespace NC
open PySem PySem.Spec PyProof.Rows L2
open Evl (Ex)
section
variable {X : Cx} {G : Gh} {c : Expr} {body : List Stmt} {pos pos' : Pos} {tt : TB} {tb : TSd} {te : TD} {e : Expr} {i : Nat} {x : Str}
def sWhile (tt : TB) (tb : TSd) : TSd := fun N ρ S => ∃ W : Nat → Rho → Store → Prop, (∃ m, W m ρ S) ∧ ∀ m ρ' S', W m ρ' S' → tt ρ' S' fun b S1 =>
  if b = true then tb { N with nx := fun ρ2 S2 => ∃ m', m' < m ∧ W m' ρ2 S2, ct := fun ρ2 S2 => ∃ m', m' < m ∧ W m' ρ2 S2, bk := N.nx } ρ' S1 else N.nx ρ' S1
end
def pr (k : List Int) : Int × Int := (k.getD 0 0, k.getD 1 0)
end NC
set_option Elab.async false
set_option linter.all false
set_option maxRecDepth 100000
set_option maxHeartbeats 1000000
namespace NC
open PySem PySem.Spec PyProof.Rows L2
section
variable {X : Cx} {G : Gh}
theorem o_ltV (hu : X.A.units + 64 < cLine) : OpR X (compareOp .Lt) (l2 X.K G rLtU) := o_ltU (by omega)
end
def Dc1 (t : Tg) (tt : TB) (tk tv : TD) (vs : List Nat) (ρ : Rho) (items : List D) (stays : Store → Prop) (S1 : Store) (R : List (List Key × D) → Store → Prop) : Prop := ∃ I : Nat → List (List Key × D) → Store → Prop, I 0 [] S1 ∧ (∀ i acc S', I i acc S' → stays S') ∧ items.length ≤ sizeLine ∧
  (∀ i d acc S', items[i]? = some d → I i acc S' → ∃ ρ2, bindT t d (wipeD ρ vs) = some ρ2 ∧ tt ρ2 S' fun b S2 => if b = true then tk ρ2 S2 fun y S3 => tv ρ2 S3 fun z S4 => ∃ ks : List Key, y = .tup (ks.map kD) ∧ I (i + 1) (putT acc ks z) S4 else I (i + 1) acc S2) ∧ ∀ acc S', I items.length acc S' → R acc S'
def sPar3 (i j l : Nat) (tl : TLs) : TSd := fun N ρ S => tl ρ S fun ds S1 => ∃ d e f, ds = [d, e, f] ∧ N.nx (((ρ.set i (some d)).set j (some e)).set l (some f)) S1
theorem ds_par3 {X : Cx} {G : Gh} {st : Stmt} {i j l : Nat} {tl : TLs} (h : PS X st (tPar3 i j l (tA X.K G tl))) : PS X st (tS X.K G (sPar3 i j l tl)) := h.imp fun D' σ H ⟨Y, β, S, ρ, N, rl, q, ld⟩ =>
  ⟨Y, β, S, ρ, _, rl, q, fun ds S1 vs β1 H1 s1 r1 ⟨d, e, f, ed, hn⟩ => by
    subst ed
    cases r1 with
    | cons a1 r2 =>
      cases r2 with
      | cons a2 r3 =>
        cases r3 with
        | cons a3 r4 =>
          cases r4
          exact ⟨_, _, _, rfl, ld.nx _ S1 _ β1 H1 s1 ((((rl.step s1).set a1 i).set a2 j).set a3 l) hn⟩⟩
section
variable {ρ : Rho} {S : Store} {Q : QD} {N : DN} {a : Int} {i : Nat} {te : TD} {x y d : D}
theorem i_ltU {c : Int} (h : Q (.bl (decide (a < c))) S) : rLtU (.int a) (.int c) S Q := .inl (int2 trivial h)
theorem i_isU (h : Q (.bl (isN x)) S) : rIsU x .non S Q := .inl ⟨rfl, h⟩
theorem i_isB {b c : Bool} (h : Q (.bl (decide (b = c))) S) : rIsU (.bl b) (.bl c) S Q := .inr ⟨b, c, rfl, rfl, h⟩
theorem i_neg (h : Q (.int (-a)) S) : rNeg (.int a) S Q := by
  first | exact h | exact ⟨_, rfl, h⟩
theorem i_eDcT {ts : TSr} {t : Tg} {tt : TB} {tk tv : TD} {vs : List Nat} (h : ts ρ S fun items stays S1 => Dc1 t tt tk tv vs ρ items stays S1 fun acc S' => Q (.dit acc) S') : eDcT ts t tt tk tv vs ρ S Q := h
theorem i_sPar3 {tl : TLs} {j l : Nat} (h : tl ρ S fun ds S1 => ∃ d e f, ds = [d, e, f] ∧ N.nx (((ρ.set i (some d)).set j (some e)).set l (some f)) S1) : sPar3 i j l tl N ρ S := h
theorem i_three {P : D → D → D → Prop} {f : D} (h : P d x f) : ∃ y z w, [d, x, f] = [y, z, w] ∧ P y z w := ⟨d, x, f, rfl, h⟩
theorem ixU_of {xs : List D} {i : Nat} (h : seqOf (drf S x) = some xs) (e : xs[i]? = some d) (q : Q d S) : rIxU x (.int (i : Int)) S Q := .inl (ix_of h e q)
theorem ixU_at {xs : List D} {i : Int} (h : seqOf (drf S x) = some xs) (h0 : 0 ≤ i) (e : xs[i.toNat]? = some d) (q : Q d S) : rIxU x (.int i) S Q := .inl (ix_at h h0 e q)
theorem inU_sq {p : Int × Int} {ps : List (Int × Int)} (h : itemsD (drf S y) = some (ps.map sqD)) (q : Q (.bl (decide (p ∈ ps))) S) : rInU (sqD p) y S Q := .inl (in_sq h q)
theorem niU_sq {p : Int × Int} {ps : List (Int × Int)} (h : itemsD (drf S y) = some (ps.map sqD)) (q : Q (.bl (!decide (p ∈ ps))) S) : rNiU (sqD p) y S Q := .inl (ni_sq h q)
def sqK (p : Int × Int) : List Key := [.inl p.1, .inl p.2]
theorem sqK_inj {p q : Int × Int} (h : sqK p = sqK q) : p = q := by
  simp only [sqK, List.cons.injEq, Sum.inl.injEq, and_true] at h
  exact Prod.ext h.1 h.2
def ditS (ps : List (Int × Int)) : D := .dit (ps.map fun p => (sqK p, .bl true))
theorem hasT_sq (ps : List (Int × Int)) (p : Int × Int) : hasT (ps.map fun p => (sqK p, D.bl true)) (sqK p) = decide (p ∈ ps) := by
  unfold hasT
  rw [List.any_map, Bool.eq_iff_iff, List.any_eq_true]
  simp only [Function.comp, decide_eq_true_eq]
  exact ⟨fun ⟨q, hq, e⟩ => sqK_inj e ▸ hq, fun h => ⟨p, h, rfl⟩⟩
theorem inU_dit {p : Int × Int} {ps : List (Int × Int)} (h : drf S y = ditS ps) (q : Q (.bl (decide (p ∈ ps))) S) : rInU (sqD p) y S Q := .inr ⟨_, .inl ⟨_, sqK p, h, rfl, rfl⟩, by rw [hasT_sq]; exact q⟩
theorem putT_new {ps : List (Int × Int)} {p : Int × Int} (h : p ∉ ps) : putT (ps.map fun p => (sqK p, D.bl true)) (sqK p) (.bl true) = (ps ++ [p]).map fun p => (sqK p, D.bl true) := by
  have := hasT_sq ps p
  unfold hasT at this
  unfold putT
  rw [this, decide_eq_false h, if_neg (by decide), List.map_append]
  rfl
theorem dc_sq {i : Nat} {ps : List (Int × Int)} {stays : Store → Prop} (hn : ps.Nodup) (hl : ps.length ≤ sizeLine) (hi : i < ρ.length) {R : List (List Key × D) → Store → Prop} (hs : stays S) (q : R (ps.map fun p => (sqK p, D.bl true)) S) :
    Dc1 (.nm i) bYes (eVar i) (eC (.bl true)) [i] ρ (ps.map sqD) stays S R := by
  refine ⟨fun j acc S' => S' = S ∧ acc = (ps.take j).map fun p => (sqK p, D.bl true), ⟨rfl, rfl⟩, fun j acc S' h => by rw [h.1]; exact hs, by rw [List.length_map]; exact hl, ?_, ?_⟩
  · rintro j d acc S' hd ⟨rfl, rfl⟩
    rw [List.getElem?_map] at hd
    obtain ⟨p, hp, rfl⟩ := Option.map_eq_some_iff.mp hd
    have gi : ((wipeD ρ [i]).set i (some (sqD p)))[i]? = some (some (sqD p)) := List.getElem?_set_self (by rw [wipeD_len]; exact hi)
    refine ⟨_, by unfold bindT; rfl, i_bYes ?_⟩
    rw [if_pos rfl]
    refine i_eVar gi (i_eC ⟨sqK p, rfl, rfl, ?_⟩)
    have tk : ps.take (j + 1) = ps.take j ++ [p] := by rw [List.take_add_one, hp]; rfl
    rw [tk]
    refine putT_new fun hm => ?_
    have nd := List.Nodup.sublist (List.take_sublist (j + 1) ps) hn
    rw [tk, List.nodup_append] at nd
    exact nd.2.2 p hm p (List.mem_singleton.mpr rfl) rfl
  · rintro acc S' ⟨rfl, rfl⟩
    rw [List.length_map, List.take_length]
    exact q
end
end NC
set_option Elab.async false
set_option linter.all false
set_option maxRecDepth 100000
set_option maxHeartbeats 4000000
namespace NC
open PySem PySem.Spec PyProof.Rows L2
def urnBn (m : Int) : TSd := (sRet (eLstM (aCons (eLc (sSq (eCut (eVar 0) oNone (oSome (eC (.int m))))) (.nm 1) bYes (eB rInt1 (aCons (eVar 1) aNil)) [1]) (aCons (eC (.int 0)) (aCons (eC (.int 0)) aNil)))))
theorem urn_runn {m : Int} (h0 : 0 ≤ m) (xs : List D) (S : Store) (Q : QD) (h : rUrn xs S Q) : runD 2 (urnBn m) xs S Q := by
  obtain ⟨ns, rfl, rfl, hl, q⟩ := h
  have hc : cutD (ns.map D.int) none (some m) = (ns.take m.toNat).map D.int := by
    have := cut_to (l := ns.map D.int) (i := m.toNat)
    rw [Int.toNat_of_nonneg h0] at this
    rw [this, List.map_take]
  unfold urnBn
  simp only [ap_runD, ap_sSeq, ap_sIf, ap_sNil, ap_sRet, ap_sAsg, ap_sDrop, ap_sPut, ap_sPar, ap_nm, ap_eVar, ap_eC, ap_eOp, ap_eChain, ap_eB, ap_eUn, ap_eTup, ap_eLst, ap_eLstM, ap_eAnd, ap_eOr, ap_eNot, ap_eIf, ap_bOf, ap_bAnd, ap_bOr, ap_bNot, ap_bYes, ap_aNil, ap_aCons, ap_eCall, ap_eCallKw, ap_eCut, ap_oNone, ap_oSome, ap_eM, ap_sSq, ap_sRange1, ap_sRange2, ap_sEnum, ap_eIsi, ap_eLc, ap_eLcM, ap_sFor, startD, List.map_cons, List.map_nil, List.length_cons, List.length_nil, List.getElem?_cons_zero, List.getElem?_cons_succ, List.set_cons_zero, List.set_cons_succ, List.replicate, List.cons_append, List.nil_append, Option.some.injEq, exists_eq_left', Option.bind_some, Nat.sub_self, Nat.reduceAdd, Nat.reduceSub, Nat.reduceLeDiff]
  refine ⟨m, rfl, ?_⟩
  show ∃ ys, seqOf (D.lst (cutD (ns.map D.int) none (some m))) = some ys ∧ _
  rw [hc]
  refine ⟨_, rfl, ?_⟩
  have few : (ns.take m.toNat).length ≤ 63 := by
    rw [List.length_take]
    omega
  have hle : ((ns.take m.toNat).map D.int).length ≤ sizeLine := by
    rw [List.length_map]
    exact Nat.le_trans few (by decide)
  refine lc_map id rfl hle (fun d hd => ?_) ?_
  · obtain ⟨n, _, rfl⟩ := List.mem_map.mp hd
    exact ⟨_, rfl, fun Q' h => ⟨_, rfl, h⟩⟩
  · rw [List.map_id]
    exact ⟨by decide, q _ ⟨ns.take m.toNat, 0, 0, rfl, by decide, by decide, by decide, few⟩⟩
end NC
set_option Elab.async false
set_option linter.all false
set_option maxRecDepth 100000
set_option maxHeartbeats 4000000
namespace NC
open PySem PySem.Spec PyProof.Rows L2
abbrev Sq := Int × Int
def leftS (ps : List Sq) : Bool := ps.any fun p => decide (p.1 < 0)
theorem left_perm {ps qs : List Sq} (h : qs.Perm ps) : leftS qs = leftS ps := by
  unfold leftS
  rw [Bool.eq_iff_iff, List.any_eq_true, List.any_eq_true]
  exact ⟨fun ⟨x, h1, h2⟩ => ⟨x, h.mem_iff.mp h1, h2⟩, fun ⟨x, h1, h2⟩ => ⟨x, h.mem_iff.mpr h1, h2⟩⟩
end NC
set_option Elab.async false
set_option linter.all false
set_option maxRecDepth 100000
set_option maxHeartbeats 4000000
namespace NC
open PySem PySem.Spec PyProof.Rows L2
local macro_rules | `(tactic| walk_at "nc hd") => `(tactic| repeat (first | (with_reducible first | refine i_sIf ?_ | refine i_sNil ?_ | refine i_sRet ?_ | refine i_sAsg ?_ | refine i_sDrop ?_ | refine i_sPut ?_ | refine i_sPar ?_ | refine i_eC ?_ | refine i_eOp ?_ | refine i_eChain ?_ | refine i_eB ?_ | refine i_eUn ?_ | refine i_eTup ?_ | refine i_eLst ?_ | refine i_eLstM ?_ | refine i_eAnd ?_ | refine i_eOr ?_ | refine i_eNot ?_ | refine i_eIf ?_ | refine i_bOf ?_ | refine i_bAnd ?_ | refine i_bOr ?_ | refine i_bNot ?_ | refine i_bYes ?_ | refine i_aNil ?_ | refine i_aCons ?_ | refine i_eCall ?_ | refine i_eCallKw ?_ | refine i_eCut ?_ | refine i_oNone ?_ | refine i_oSome ?_ | refine i_eM ?_ | refine i_sSq ?_ | refine i_sRange1 ?_ | refine i_sRange2 ?_ | refine i_sEnum ?_ | refine i_eIsi ?_ | refine i_eIsi2 ?_ | refine i_eLc ?_ | refine i_eLcM ?_ | refine i_sFor ?_ | refine i_eDisp1 ?_ | refine i_bl ?_ | refine i_int ?_ | refine i_nm ?_ | refine i_one ?_ | refine i_two ?_ | refine i_rng ?_ | refine i_len0 ?_ | refine i_int1 ?_ | refine i_intb ?_ | refine i_abs ?_ | refine i_add ?_ | refine i_sub ?_ | refine i_lt ?_ | refine i_le ?_ | refine i_gt ?_ | refine i_ge ?_ | refine i_eqi ?_ | refine i_is ?_ | refine i_isn ?_ | refine i_nes ?_ | refine i_rbl ?_ | refine i_eCallX ?_ | refine i_eCallKwX ?_ | refine i_sRaiseF ?_ | refine i_eIsX ?_ | refine i_eFld ?_ | refine i_eDit1 ?_ | refine i_sTry ?_ | refine i_runX ?_ | refine i_ltU ?_ | refine i_isU ?_ | refine i_isnU ?_ | refine i_isS ?_ | refine i_isnS ?_ | refine i_isB ?_ | refine i_isnB ?_ | refine i_neg ?_ | refine i_eDcT ?_ | refine i_sPar3 ?_ | refine i_three ?_ | refine i_eFldU ?_ | refine i_eIsU ?_ | refine i_eFrzO ?_ | refine i_eMake ?_ | refine i_sFldP ?_ | refine i_eMeth ?_ | refine i_sWhile ?_ | refine i_aStar ?_ | refine i_eFn ?_ | refine i_sAsgL ?_ | refine i_sCont ?_ | refine i_sBrk ?_ | refine i_eDnT ?_ | refine i_eDnK ?_ | refine i_eDit1M ?_ | refine i_sDPutU ?_ | refine i_eListR2 ?_ | refine i_bool1 ?_ | refine i_eCName ?_ | refine i_sFlds ?_ | refine i_bTruL ?_ | refine i_eCutU ?_ | refine i_sStr ?_ | refine i_eJoined ?_ | refine i_dJs ?_ | refine i_dJn ?_ | refine i_eMakeX ?_ | refine i_eMethX ?_ | refine i_eFmt ?_ | refine i_eLc2 ?_ | refine i_sRng ?_ | refine i_sTryS ?_) | ((with_reducible refine i_eVarX ?_); refine ⟨_, rfl, ?_⟩) | ((with_reducible refine i_len1 ?_ ?_); · exact Nat.le_of_ble_eq_true rfl)))
local macro_rules | `(tactic| walk_at "nc hq") => `(tactic| repeat (first | (with_reducible first | refine i_sSeq ?_ | refine i_sIf ?_ | refine i_sNil ?_ | refine i_sRet ?_ | refine i_sAsg ?_ | refine i_sDrop ?_ | refine i_sPut ?_ | refine i_sPar ?_ | refine i_eC ?_ | refine i_eOp ?_ | refine i_eChain ?_ | refine i_eB ?_ | refine i_eUn ?_ | refine i_eTup ?_ | refine i_eLst ?_ | refine i_eLstM ?_ | refine i_eAnd ?_ | refine i_eOr ?_ | refine i_eNot ?_ | refine i_eIf ?_ | refine i_bOf ?_ | refine i_bAnd ?_ | refine i_bOr ?_ | refine i_bNot ?_ | refine i_bYes ?_ | refine i_aNil ?_ | refine i_aCons ?_ | refine i_eCall ?_ | refine i_eCallKw ?_ | refine i_eCut ?_ | refine i_oNone ?_ | refine i_oSome ?_ | refine i_eM ?_ | refine i_sSq ?_ | refine i_sRange1 ?_ | refine i_sRange2 ?_ | refine i_sEnum ?_ | refine i_eIsi ?_ | refine i_eIsi2 ?_ | refine i_eLc ?_ | refine i_eLcM ?_ | refine i_sFor ?_ | refine i_eDisp1 ?_ | refine i_bl ?_ | refine i_int ?_ | refine i_nm ?_ | refine i_one ?_ | refine i_two ?_ | refine i_rng ?_ | refine i_len0 ?_ | refine i_int1 ?_ | refine i_intb ?_ | refine i_abs ?_ | refine i_add ?_ | refine i_sub ?_ | refine i_lt ?_ | refine i_le ?_ | refine i_gt ?_ | refine i_ge ?_ | refine i_eqi ?_ | refine i_is ?_ | refine i_isn ?_ | refine i_nes ?_ | refine i_rbl ?_ | refine i_eCallX ?_ | refine i_eCallKwX ?_ | refine i_sRaiseF ?_ | refine i_eIsX ?_ | refine i_eFld ?_ | refine i_eDit1 ?_ | refine i_sTry ?_ | refine i_runX ?_ | refine i_ltU ?_ | refine i_isU ?_ | refine i_isnU ?_ | refine i_isS ?_ | refine i_isnS ?_ | refine i_isB ?_ | refine i_isnB ?_ | refine i_neg ?_ | refine i_eDcT ?_ | refine i_sPar3 ?_ | refine i_three ?_ | refine i_eFldU ?_ | refine i_eIsU ?_ | refine i_eFrzO ?_ | refine i_eMake ?_ | refine i_sFldP ?_ | refine i_eMeth ?_ | refine i_sWhile ?_ | refine i_aStar ?_ | refine i_eFn ?_ | refine i_sAsgL ?_ | refine i_sCont ?_ | refine i_sBrk ?_ | refine i_eDnT ?_ | refine i_eDnK ?_ | refine i_eDit1M ?_ | refine i_sDPutU ?_ | refine i_eListR2 ?_ | refine i_bool1 ?_ | refine i_eCName ?_ | refine i_sFlds ?_ | refine i_bTruL ?_ | refine i_eCutU ?_ | refine i_sStr ?_ | refine i_eJoined ?_ | refine i_dJs ?_ | refine i_dJn ?_ | refine i_eMakeX ?_ | refine i_eMethX ?_ | refine i_eFmt ?_ | refine i_eLc2 ?_ | refine i_sRng ?_ | refine i_sTryS ?_) | ((with_reducible refine i_eVarX ?_); refine ⟨_, rfl, ?_⟩) | ((with_reducible refine i_len1 ?_ ?_); · exact Nat.le_of_ble_eq_true rfl)))
def Grow (T T' : Store) : Prop := ∃ E, T' = T ++ E
theorem Grow.refl (T : Store) : Grow T T := ⟨[], (List.append_nil T).symm⟩
theorem Grow.trans {T T' T2 : Store} (h : Grow T T') (h' : Grow T' T2) : Grow T T2 := by
  obtain ⟨E, rfl⟩ := h
  obtain ⟨F, rfl⟩ := h'
  exact ⟨E ++ F, List.append_assoc ..⟩
theorem Grow.add (T E : Store) : Grow T (T ++ E) := ⟨E, rfl⟩
abbrev r_law_wind : RDs := rDraw
def r_need_right (cs : Cs) : RDx := fun xs S Q E => ∃ (ps : List Sq) (p : Str), xs = [.tup (ps.map sqD), .str p] ∧ ps.length ≤ 100 ∧ p.length ≤ 900 ∧ (leftS ps = true → E (cs.Misfit, [("part", .str p)]) S) ∧ (leftS ps = false → Q .non S)
def r_law_pick : RDs := fun xs S Q => ∃ (k : Nat) (o : SO) (T : Store) (d : D) (ds : List D), xs = [.ref 0, d] ∧ S = some o :: T ∧ Urn k o ∧ k < 900000 ∧ (∀ o, seqOf (drf (some o :: T) d) = some ds) ∧ 0 < ds.length ∧ ds.length ≤ 1000 ∧ ∀ (o' : SO) (e : D), Urn (k + 1) o' → e ∈ ds → Q e (some o' :: T)
def b_need_right (K : PySem.W.Frag) (cs : Cs) : XD → TSd := fun ED => (sIf (bOf (eOp rNe3 (eLc (sSq (eVar 0)) (.tp [(.nm 2), (.nm 3)]) (bOf (eOp rLtU (eVar 2) (eC (.int 0)))) (eVar 2) [2, 3]) (eLst aNil)))
    (sRaiseF ED cs.Misfit true ["part"] (aCons (eVar 1) aNil))
    sNil)
def b_law_pick : TSd := (sRet (eOp rIxU (eVar 1) (eCall r_law_wind (aCons (eVar 0) (aCons (eB rLen (aCons (eVar 1) aNil)) aNil)))))
theorem len_need_right (cs : Cs) (xs : List D) (S : Store) (Q : QD) (E : XD) (h : r_need_right cs xs S Q E) : xs.length = 2 := by obtain ⟨_, _, rfl, _⟩ := h; rfl
theorem len_law_pick (xs : List D) (S : Store) (Q : QD) (h : r_law_pick xs S Q) : xs.length = 2 := by obtain ⟨_, _, _, _, _, rfl, _⟩ := h; rfl
theorem few {n : Nat} (h : n ≤ 100) : n ≤ sizeLine := Nat.le_trans h (by decide)
theorem left_ne : ∀ ps : List Sq, (!((ps.filter fun p => decide (p.1 < 0)).map fun p => D.int p.1).isEmpty) = leftS ps
  | [] => rfl
  | a :: l => by
    have ih := left_ne l
    unfold leftS at ih ⊢
    rw [List.any_cons, ← ih]
    cases h : decide (a.1 < 0) <;> simp [List.filter_cons, h]
theorem run_need_right {K : PySem.W.Frag} {cs : Cs} (xs : List D) (S : Store) (Q : QD) (E : XD) (h : r_need_right cs xs S Q E) : runX 4 (b_need_right K cs) xs S Q E := by
  obtain ⟨ps, p, rfl, hl, hp, qn, qy⟩ := h
  refine i_runX ?_
  unfold b_need_right
  walk_at "nc hq"
  refine ⟨ps.map sqD, rfl, lc_ty (p := fun p => decide (p.1 < 0)) (g := fun p => .int p.1) rfl (few hl) (fun a ha => ⟨_, rfl, fun Q' q' => ?_, fun _ Q' q' => ?_⟩) ?_⟩
  · walk_at "nc hd"
    exact q'
  · walk_at "nc hd"
    exact q'
  walk_at "nc hd"
  refine ne_nil rfl ?_
  walk_at "nc hd"
  rw [left_ne]
  cases hs : leftS ps with
  | true =>
    refine iteT ?_
    walk_at "nc hd"
    exact ⟨okD_part hp, qn hs⟩
  | false =>
    refine iteF ?_
    walk_at "nc hd"
    exact qy hs
theorem run_law_pick (xs : List D) (S : Store) (Q : QD) (h : r_law_pick xs S Q) : runD 2 b_law_pick xs S Q := by
  obtain ⟨k, o, T, d, ds, rfl, rfl, u, hk, hd', h0, h1, q⟩ := h
  refine i_runD ?_
  unfold b_law_pick
  walk_at "nc hd"
  refine len_seq (hd' o) ?_
  walk_at "nc hd"
  refine draw_of u (by omega) (by omega) (by omega) fun o1 n u1 n0 n1 => ?_
  have lt : n.toNat < ds.length := by omega
  exact ixU_at (d := ds[n.toNat]) (hd' o1) n0 (List.getElem?_eq_getElem lt) (q o1 _ u1 (List.getElem_mem lt))
theorem i_eFrz {ρ : Rho} {S : Store} {Q : QD} {ta : TD} (h : ta ρ S (frzQ Q)) : eFrz ta ρ S Q := h
theorem frz_at {S : Store} {Q : QD} {n : Nat} {ds : List D} (h : S[n]? = some (some (.lst ds))) (q : Q (.lst ds) (S.set n none)) : frzQ Q (.ref n) S := ⟨ds, h, q⟩
section
variable {o : SO} {T : Store} {a b c : Option SO}
end
end NC
set_option Elab.async false
set_option linter.all false
set_option maxRecDepth 100000
set_option maxHeartbeats 4000000
namespace NC
open PySem PySem.Spec PyProof.Rows L2
theorem at_end {S : Store} {so : SO} : (S ++ [some so])[S.length]? = some (some so) := by rw [List.getElem?_append_right (Nat.le_refl _), Nat.sub_self]; rfl
theorem add_lst {x y : D} {a b : List D} {S : Store} {Q : QD} (hx : drf S x = .lst a) (hy : drf S y = .lst b) (hl : a.length + b.length ≤ sizeLine) (q : Q (.lst (a ++ b)) S) : rAdd x y S Q := by
  unfold rAdd
  rw [hx, hy]
  exact ⟨hl, q⟩
theorem range_at {lo hi : Int} {i : Nat} {e : D} (h : (rangeD lo hi)[i]? = some e) : e = .int (lo + i) ∧ i < (hi - lo).toNat := by
  have hi' : i < (hi - lo).toNat := by
    have := (List.getElem?_eq_some_iff.mp h).1
    rwa [rangeD_len] at this
  unfold rangeD at h
  rw [List.getElem?_map, List.getElem?_range hi'] at h
  exact ⟨(Option.some.inj h).symm, hi'⟩
theorem eq_self {x y : D} {S : Store} {Q : QD} {d : D} (hx : drf S x = d) (hy : drf S y = d) (hf : fl 60 d = true) (he : eqd d d = true) (q : Q (.bl true) S) : rEq3 x y S Q :=
  eq_dat (by rw [hx]; exact hf) (by rw [hy]; exact hf) (by rw [hx, hy, he]; exact q)
def Box (b : Int) (ps : List Sq) : Prop := ∀ p ∈ ps, (0 ≤ p.1 ∧ p.1 ≤ b) ∧ -b ≤ p.2 ∧ p.2 ≤ b
def Near (b : Int) (ps : List Sq) : Prop := ∀ p ∈ ps, p.1.natAbs ≤ b.toNat ∧ p.2.natAbs ≤ b.toNat
theorem Box.mono {b c : Int} {ps : List Sq} (h : Box b ps) (hb : b ≤ c) : Box c ps := fun p hp => by
  have := h p hp
  omega
theorem Box.perm {b : Int} {ps qs : List Sq} (h : Box b ps) (p : qs.Perm ps) : Box b qs := fun q hq => h q (p.mem_iff.mp hq)
theorem Near.mono {b c : Int} {ps : List Sq} (h : Near b ps) (hb : b ≤ c) : Near c ps := fun p hp => by
  have := h p hp
  omega
theorem Near.app {b : Int} {ps qs : List Sq} (h : Near b ps) (h' : Near b qs) : Near b (ps ++ qs) := fun p hp => (List.mem_append.mp hp).elim (h p) (h' p)
theorem sqs_row {d : D} {ps : List Sq} {zs : List D} (e : d = .lst zs ∨ d = .tup zs) (hz : zs = ps.map sqD ∨ zs = ps.map sqL) : sqsOf d = ps := by
  have es : seqOf d = some zs := by rcases e with rfl | rfl <;> rfl
  rw [sqs_of es]
  rcases hz with rfl | rfl <;> rw [List.map_map] <;> exact List.map_id ps
theorem are_row {d : D} {ps : List Sq} {zs : List D} (e : d = .lst zs ∨ d = .tup zs) (hz : zs = ps.map sqD ∨ zs = ps.map sqL) (hn : ps.Nodup) : areSq d = true := by
  have es : seqOf d = some zs := by rcases e with rfl | rfl <;> rfl
  refine are_of es (fun z h => ?_) ?_
  · rcases hz with rfl | rfl
    · obtain ⟨p, _, rfl⟩ := List.mem_map.mp h
      rfl
    · obtain ⟨p, _, rfl⟩ := List.mem_map.mp h
      rfl
  · have := sqs_row e hz
    rw [sqs_of es] at this
    rw [this]
    exact hn
end NC
set_option Elab.async false
set_option linter.all false
set_option maxRecDepth 100000
set_option maxHeartbeats 4000000
namespace NC
open PySem PySem.Spec PyProof.Rows L2
section
variable {X : Cx} {G : Gh} {a : Expr} {ta : TD} {p p2 q pos : Pos}
end
end NC
set_option Elab.async false
set_option linter.all false
set_option maxRecDepth 100000
set_option maxHeartbeats 1000000
namespace NC
open PySem PySem.Spec PyProof.Rows L2
open Evl (Ex)
section
variable {X : Cx} {G : Gh}
def rRepD : RD2 := fun x y S Q => ∃ xs k, drf S x = .lst xs ∧ y = .int k ∧ 0 ≤ k ∧ k ≤ 1000 ∧ xs.length * k.toNat ≤ sizeLine ∧ Q (.lst (List.replicate k.toNat xs).flatten) S
def rMulU : RD2 := fun x y S Q => rMulI x y S Q ∨ rRepD x y S Q
theorem Reps.rep {K : PySem.W.Frag} {B : Hp} {β : List Addr} {vs : List V} {ds : List D} (r : Reps K B β vs ds) : ∀ n : Nat, Reps K B β (List.replicate n vs).flatten (List.replicate n ds).flatten
  | 0 => .nil
  | n + 1 => by
    rw [List.replicate_succ, List.replicate_succ, List.flatten_cons, List.flatten_cons]
    exact r.append (Reps.rep r n)
theorem o_mulU : OpR X (binaryOp .Mult) (l2 X.K G rMulU) := op_or o_mul (by
  intro pins s σ H x y v u Q I rx ry ⟨Y, β, S, dx, dy, Q', o, r1, r2, ⟨xs, k, ex, ey, k0, k1, hl, q⟩, kk⟩
  subst ey
  cases r2
  obtain ⟨a, vs, rfl, h1, rr⟩ := ok_lst o r1 ex
  refine op_rep pins s σ H _ _ v u Q I rx ry ⟨a, k, vs, rfl, rfl, h1, by omega, by omega, by rw [rr.len]; exact hl, fun p hp => ?_⟩
  have st := o.new (.lst (List.replicate k.toNat vs).flatten) hp
  exact kk _ S _ β _ st (o.newLst hp (rr.rep _)) q)
def rMax2D : RDs := fun xs S Q => ∃ i j : Int, xs = [.int i, .int j] ∧ Q (.int (if j > i then j else i)) S
def rMin2D : RDs := fun xs S Q => ∃ i j : Int, xs = [.int i, .int j] ∧ Q (.int (if j < i then j else i)) S
def rMaxL : RDs := fun xs S Q => ∃ (d : D) (ns : List Int), xs = [d] ∧ drf S d = .lst (ns.map .int) ∧ 0 < ns.length ∧ ∀ m, m ∈ ns → (∀ y, y ∈ ns → y ≤ m) → Q (.int m) S
def rMinL : RDs := fun xs S Q => ∃ (d : D) (ns : List Int), xs = [d] ∧ drf S d = .lst (ns.map .int) ∧ 0 < ns.length ∧ ∀ m, m ∈ ns → (∀ y, y ∈ ns → m ≤ y) → Q (.int m) S
theorem c_max2 (hc : X.calm = true) : CallR X (.builtin "max") (ls X.K G rMax2D) := by
  rintro pins s σ H vs us Q I r ⟨Y, β, S, xs, Q', o, rr, ⟨i, j, rfl, q⟩, k⟩
  obtain ⟨v, w, rfl, rv, rw'⟩ := rr.two
  cases rv
  cases rw'
  exact call_max2 hc pins s σ H _ us Q I r ⟨i, j, rfl, k _ S _ β H (.refl o) (.int _) q⟩
theorem c_maxL (hc : X.calm = true) : CallR X (.builtin "max") (ls X.K G rMaxL) := by
  rintro pins s σ H vs us Q I r ⟨Y, β, S, xs, Q', o, rr, ⟨d, ns, rfl, hd, h0, q⟩, k⟩
  obtain ⟨v, rfl, rv⟩ := rr.one
  obtain ⟨a, ws, rfl, h1, rp⟩ := ok_lst o rv hd
  have e := rp.int'
  subst e
  exact cr_max hc pins s σ H _ us Q I r ⟨a, ns, rfl, .inl (.inl h1), h0, fun m m1 m2 => k _ S _ β H (.refl o) (.int _) (q m m1 m2)⟩
theorem c_minL (hc : X.calm = true) : CallR X (.builtin "min") (ls X.K G rMinL) := by
  rintro pins s σ H vs us Q I r ⟨Y, β, S, xs, Q', o, rr, ⟨d, ns, rfl, hd, h0, q⟩, k⟩
  obtain ⟨v, rfl, rv⟩ := rr.one
  obtain ⟨a, ws, rfl, h1, rp⟩ := ok_lst o rv hd
  have e := rp.int'
  subst e
  exact cr_min hc pins s σ H _ us Q I r ⟨a, ns, rfl, .inl (.inl h1), h0, fun m m1 m2 => k _ S _ β H (.refl o) (.int _) (q m m1 m2)⟩
theorem call_or {f : Value} {r r' : RDs} (h : CallR X f (ls X.K G r)) (h' : CallR X f (ls X.K G r')) : CallR X f (ls X.K G fun xs S Q => r xs S Q ∨ r' xs S Q) := by
  rintro pins s σ H vs us Q I rv ⟨Y, β, S, xs, Q', o, rr, q, k⟩
  rcases q with q | q
  · exact h pins s σ H vs us Q I rv ⟨Y, β, S, xs, Q', o, rr, q, k⟩
  · exact h' pins s σ H vs us Q I rv ⟨Y, β, S, xs, Q', o, rr, q, k⟩
theorem c_min2 (hc : X.calm = true) : CallR X (.builtin "min") (ls X.K G rMin2D) := by
  rintro pins s σ H vs us Q I r ⟨Y, β, S, xs, Q', o, rr, ⟨i, j, rfl, q⟩, k⟩
  obtain ⟨v, w, rfl, rv, rw'⟩ := rr.two
  cases rv
  cases rw'
  exact call_min2 hc pins s σ H _ us Q I r ⟨i, j, rfl, k _ S _ β H (.refl o) (.int _) q⟩
def rMinU : RDs := fun xs S Q => rMin2D xs S Q ∨ rMinL xs S Q
theorem c_minU (hc : X.calm = true) : CallR X (.builtin "min") (ls X.K G rMinU) := call_or (c_min2 hc) (c_minL hc)
def rMaxU : RDs := fun xs S Q => rMax2D xs S Q ∨ rMaxL xs S Q
theorem c_maxU (hc : X.calm = true) : CallR X (.builtin "max") (ls X.K G rMaxU) := call_or (c_max2 hc) (c_maxL hc)
variable {e : Expr} {ta : TD} {apos pos : Pos}
end
end NC
set_option Elab.async false
set_option linter.all false
set_option maxRecDepth 100000
set_option maxHeartbeats 1000000
namespace NC
open PySem PySem.Spec PyProof.Rows L2
open Evl (Ex)
abbrev Tab := List (List Int × List Int)
def kI (ns : List Int) : List Key := ns.map Sum.inl
def KTab (P : Program) (w : World) (K : PySem.W.Frag) (d : Addr) (tab : Tab) : Prop := ∃ (o : Obj) (es : Array DictEntry) (ep : Nat) (xs : List (List Key × Addr × Value)),
  K.lookup d = some o ∧ o.ExactDict ∧ o.data = .dict es ep ∧ es.toList = xs.map (entryOfKey (tupleKind (mixKind P w))) ∧ (∀ x ∈ xs, ∃ ns : List Int, x.1 = kI ns ∧ KTup K x.2.1 (ns.map V.int)) ∧ (xs.map (·.1)).Nodup ∧ (d == sysModules) = false ∧
  (∀ ks, (atKey xs (kI ks)).isSome = tab.any fun p => decide (p.1 = ks)) ∧ ∀ ks vs, tab.lookup ks = some vs → ∃ a b, atKey xs (kI ks) = some (a, .ref b) ∧ KTup K b (vs.map V.int)
theorem kI_kV (ns : List Int) : (kI ns).map kV = ns.map V.int := by
  unfold kI
  rw [List.map_map]
  rfl
section
variable {X : Cx} {G : Gh} {pins : List (Addr × Obj)} {σ : L2.St} {H : Hp} {s : Shared} {d : Addr} {tab : Tab}
theorem ktup_key (I : L2.Inv X pins σ H s) {a : Addr} {ns : List Int} (h : SqT X.K H a (ns.map V.int)) : (tupleKind (mixKind X.prog X.w)).is s.heap (kI ns) a := by
  obtain ⟨its, r, ⟨o, h1, h2, n, h3⟩, _⟩ := I.tuple h
  rw [← kI_kV] at r
  exact ⟨o, its.toArray, n, h1, h2, h3, by simpa using items_are r⟩
theorem KTab.at (I : L2.Inv X pins σ H s) (T : KTab X.prog X.w X.K d tab) : ∃ xs : List (List Key × Addr × Value), s.heap.DictOfH (tupleKind (mixKind X.prog X.w)) d xs ∧ (d == sysModules) = false ∧
    (∀ ks, (atKey xs (kI ks)).isSome = tab.any fun p => decide (p.1 = ks)) ∧ ∀ ks vs, tab.lookup ks = some vs → ∃ a b, atKey xs (kI ks) = some (a, .ref b) ∧ KTup X.K b (vs.map V.int) := by
  obtain ⟨o, es, ep, xs, h1, h2, h3, h4, h5, h6, h7, h8, h9⟩ := T
  refine ⟨xs, ⟨o, es, ep, I.kIn d o h1, h2, h3, h4, fun x hx => ?_, h6⟩, h7, h8, h9⟩
  obtain ⟨ns, e, k⟩ := h5 x hx
  rw [e]
  exact ktup_key I (.inr k)
end
section
variable {X : Cx} {G : Gh} {g : Str} {d : Addr} {tab : Tab} {e : Expr} {ta : TD} {p pos : Pos}
end
end NC
set_option Elab.async false
set_option linter.all false
set_option maxRecDepth 100000
set_option maxHeartbeats 1000000
namespace NC
open PySem PySem.Spec PyProof.Rows L2
open Evl (Ex)
end NC
set_option Elab.async false
set_option linter.all false
set_option maxRecDepth 100000
set_option maxHeartbeats 4000000
namespace NC
open PySem PySem.Spec PyProof.Rows L2
section
variable {S : Store} {Q : QD} {x d : D} {ρ : Rho}
theorem i_ix0 (h : ∃ xs d, seqOf (drf S x) = some xs ∧ xs[0]? = some d ∧ Q d S) : rIxU x (.int 0) S Q := let ⟨_, _, a, b, c⟩ := h; ixU_of (i := 0) a b c
theorem i_ix1 (h : ∃ xs d, seqOf (drf S x) = some xs ∧ xs[1]? = some d ∧ Q d S) : rIxU x (.int 1) S Q := let ⟨_, _, a, b, c⟩ := h; ixU_of (i := 1) a b c
theorem i_ix2 (h : ∃ xs d, seqOf (drf S x) = some xs ∧ xs[2]? = some d ∧ Q d S) : rIxU x (.int 2) S Q := let ⟨_, _, a, b, c⟩ := h; ixU_of (i := 2) a b c
theorem i_ix3 (h : ∃ xs d, seqOf (drf S x) = some xs ∧ xs[3]? = some d ∧ Q d S) : rIxU x (.int 3) S Q := let ⟨_, _, a, b, c⟩ := h; ixU_of (i := 3) a b c
theorem i_tp {ts : List Tg} {P : Rho → Prop} (h : ∃ ρ', bindT (.tp ts) d ρ = some ρ' ∧ P ρ') : ∃ ρ', bindT (.tp ts) d ρ = some ρ' ∧ P ρ' := h
theorem i_len (h : ∃ ys, seqOf (drf S x) = some ys ∧ Q (.int ys.length) S) : rLen [x] S Q := let ⟨_, a, b⟩ := h; len_seq a b
theorem i_list (h : ∃ ys, seqOf (drf S x) = some ys ∧ Q (.lst ys) S) : rList [x] S Q := h
theorem i_tuple (h : ∃ ys, itemsD (drf S x) = some ys ∧ Q (.tup ys) S) : rTuple [x] S Q := h
theorem i_kw {xs ys : List D} {n m : Nat} {P : Prop} (h : xs.length = n ∧ ys.length = m ∧ P) : xs.length = n ∧ ys.length = m ∧ P := h
theorem i_eqs {x y : Str} (h : Q (.bl (decide (x = y))) S) : rEq3 (.str x) (.str y) S Q := ⟨_, .txt, h⟩
theorem i_modL {a c : Int} (hc : 0 < c) (h : Q (.int (a % c)) S) : rMod (.int a) (.int c) S Q := int2 hc h
end
theorem iteNT {A B : Prop} (h : B) : if (!true) = true then A else B := h
theorem iteNF {A B : Prop} (h : A) : if (!false) = true then A else B := h
mutual
theorem eqd_refl : ∀ {n : Nat} {d : D}, fl n d = true → eqd d d = true
  | _, .non, _ => rfl
  | _, .bl b, _ => by simp [eqd, pd, PyData.eqv]
  | _, .int i, _ => by simp [eqd, pd, PyData.eqv]
  | _, .str x, _ => by simp [eqd, pd, PyData.eqv]
  | 0, .lst xs, h => by simp [fl] at h
  | 0, .tup xs, h => by simp [fl] at h
  | n + 1, .lst xs, h => by
    have := eqds_refl (n := n) (ds := xs) (by simpa [fl] using h)
    simpa [eqd, eqds, pd, PyData.eqv] using this
  | n + 1, .tup xs, h => by
    have := eqds_refl (n := n) (ds := xs) (by simpa [fl] using h)
    simpa [eqd, eqds, pd, PyData.eqv] using this
  | _, .ro xs, h => by simp [fl] at h
  | _, .kt xs, h => by simp [fl] at h
  | _, .dic kvs, h => by simp [fl] at h
  | _, .dit kvs, h => by simp [fl] at h
  | _, .ref n, h => by simp [fl] at h
theorem eqds_refl : ∀ {n : Nat} {ds : List D}, fls n ds = true → eqds ds ds = true
  | _, [], _ => rfl
  | n, d :: ds, h => by
    rw [fls, Bool.and_eq_true] at h
    have a := eqd_refl h.1
    have b := eqds_refl h.2
    unfold eqd at a
    unfold eqds at b ⊢
    rw [pds, PyData.eqvAll, a, b]
    rfl
end
theorem eq_same {x y : D} {S : Store} {Q : QD} {d : D} (hx : drf S x = d) (hy : drf S y = d) (hf : fl 60 d = true) (q : Q (.bl true) S) : rEq3 x y S Q := eq_self hx hy hf (eqd_refl hf) q
theorem ne_same {x y : D} {S : Store} {Q : QD} {d : D} (hx : drf S x = d) (hy : drf S y = d) (hf : fl 60 d = true) (q : Q (.bl false) S) : rNe3 x y S Q :=
  ne_dat (by rw [hx]; exact hf) (by rw [hy]; exact hf) (by rw [hx, hy, eqd_refl hf]; exact q)
theorem nes_same {x : Str} {S : Store} {Q : QD} (q : Q (.bl false) S) : rNe3 (.str x) (.str x) S Q := ne_str (by rw [decide_eq_true rfl]; exact q)
theorem eqs_same {x : Str} {S : Store} {Q : QD} (q : Q (.bl true) S) : rEq3 (.str x) (.str x) S Q := i_eqs (by rw [decide_eq_true rfl]; exact q)
def told2 (a b : Str) : D := .tup [.str a, .str b]
theorem grow_get {S S' : Store} (g : Grow S S') {n : Nat} {x : Option SO} (h : S[n]? = some x) : S'[n]? = some x := by
  obtain ⟨E, rfl⟩ := g
  rw [List.getElem?_append_left (List.getElem?_eq_some_iff.mp h).1]
  exact h
theorem sml_of {n : Int} (h : n.natAbs ≤ 100) : Sml n := Nat.lt_of_le_of_lt h (by decide)
def RowV (d : D) (ps : List Sq) : Prop := ∃ zs, (d = .lst zs ∨ d = .tup zs) ∧ zs.map sqOf = ps ∧ (∀ z ∈ zs, SqV z) ∧ ps.length < 60 ∧ ps.Nodup
theorem RowV.seq {d : D} {ps : List Sq} (h : RowV d ps) : ∃ zs, seqOf d = some zs ∧ zs.map sqOf = ps := by
  obtain ⟨zs, rfl | rfl, e, _, _, _⟩ := h <;> exact ⟨zs, rfl, e⟩
theorem RowV.len {d : D} {ps : List Sq} (h : RowV d ps) : ps.length < 60 := let ⟨_, _, _, _, l, _⟩ := h; l
theorem RowV.nd {d : D} {ps : List Sq} (h : RowV d ps) : ps.Nodup := let ⟨_, _, _, _, _, n⟩ := h; n
theorem RowV.shw {d : D} {ps : List Sq} (h : RowV d ps) : NC.shw 59 d = true := by
  obtain ⟨zs, e, _, hz, _, _⟩ := h
  exact shw_many (w := 150) e fun z hm => (hz z hm).shw
theorem RowV.wid {d : D} {ps : List Sq} (h : RowV d ps) : NC.wid d ≤ 60 * (150 + 2) + 3 := by
  obtain ⟨zs, e, rfl, hz, hl, _⟩ := h
  exact wid_many e (fun z hm => (hz z hm).wid) (by rw [List.length_map] at hl; omega)
end NC
set_option Elab.async false
set_option linter.all false
set_option maxRecDepth 100000
set_option maxHeartbeats 4000000
namespace NC
open PySem PySem.Spec PyProof.Rows L2
section
variable {X : Cx} {G : Gh} {e o : Expr} {es : List Expr} {ta tv : TD} {tl : TLs} {p pos apos : Pos}
def aStar (ta : TD) (tl : TLs) : TLs := fun ρ S Q => ta ρ S fun x S1 => ∃ xs, seqOf (drf S1 x) = some xs ∧ tl ρ S1 fun ys S2 => Q (xs ++ ys) S2
theorem da_star (ha : PE X e (tE X.K G ta)) (hr : PA X es (tA X.K G tl)) (hs : starEach (.Starred e p :: es) X.env = (true, eval e X.env) :: starEach es X.env := by rfl) : PA X (.Starred e p :: es) (tA X.K G (aStar ta tl)) :=
  (StX.pa_star ha hr hs).imp fun σ H Q ⟨Y, β, S, ρ, Q', rl, q, k⟩ => ⟨Y, β, S, ρ, _, rl, q, fun x S1 v β1 H1 s1 r1 ⟨xs, hx, q1⟩ => by
    obtain ⟨a, vs, rfl, hk, rs⟩ := ok_seq s1.ok r1 hx
    exact ⟨a, vs, rfl, hk.symm, ⟨Y, β1, S1, ρ, _, rl.step s1, q1, fun ys S2 us β2 H2 s2 r2 q2 => k _ S2 _ β2 H2 (s1.trans s2) ((s2.reps rs).append r2) q2⟩⟩⟩
end
def putO (f : Str) (d : D) : List (Str × D) → List (Str × D)
  | [] => [(f, d)]
  | (g, x) :: r => if g = f then (g, d) :: r else (g, x) :: putO f d r
section
variable {K : PySem.W.Frag} {B : Hp} {β : List Addr} {f : Str}
theorem RepF.put {v : V} {d : D} (r : Rep K B β v d) : ∀ {vs : List (Str × V)} {ds : List (Str × D)}, RepF K B β vs ds → RepF K B β (putF f v vs) (putO f d ds)
  | _, [], h => by cases h; exact .cons r .nil
  | _, (g, e) :: ds, h => by
    cases h with
    | cons r1 h2 =>
      unfold putF putO
      by_cases q : g = f
      · rw [if_pos q, if_pos q]
        exact .cons r h2
      · rw [if_neg q, if_neg q]
        exact .cons r1 (RepF.put r h2)
theorem RepF.len : ∀ {vs : List (Str × V)} {ds : List (Str × D)}, RepF K B β vs ds → vs.length = ds.length
  | _, [], h => by cases h; rfl
  | _, (g, e) :: ds, h => by
    cases h with
    | cons r1 h2 => simp [RepF.len h2]
theorem RepF.lookN : ∀ {vs : List (Str × V)} {ds : List (Str × D)}, RepF K B β vs ds → ds.lookup f = none → vs.lookup f = none
  | _, [], h, _ => by cases h; rfl
  | _, (g, e) :: ds, h, l => by
    cases h with
    | cons r1 h2 =>
      simp only [List.lookup] at l ⊢
      split at l
      · cases l
      · exact RepF.lookN h2 l
end
theorem code_ins {c C dx : Addr} {q : Str} {us : List (Str × V)} : HO.ins C dx us ≠ LamX.CodeO c q := fun z => by
  unfold LamX.CodeO at z
  cases z
theorem ok_obj {K : PySem.W.Frag} {G : Gh} {Y β : List Addr} {S : Store} {H : Hp} (o : Ok K G Y β S H) {v : V} {d : D} {C : Addr} {fs : List (Str × D)} (r : Rep K (hid Y β S H) β v d) (h : drf S d = .obj C fs) :
    ∃ a dx vs, v = .ref a ∧ H a = some (.ins C dx vs) ∧ RepF K (hid Y β S H) β vs fs := by
  cases d with
  | obj C' gs =>
    have z : D.obj C' gs = D.obj C fs := h
    cases z
    cases r with
    | obj h1 h2 _ => exact ⟨_, _, _, rfl, hid_ex _ _ h1, h2⟩
  | ref n =>
    simp only [NC.drf] at h
    split at h
    · cases h
    · cases h
    · cases h
    · rename_i C2 ds hs
      cases h
      obtain ⟨a, e1, dx, us, h1, h2, _⟩ := o.obj n _ hs
      cases r with
      | ref e3 =>
        rw [e1] at e3
        cases e3
        exact ⟨_, dx, us, rfl, h1, h2⟩
    · cases h
  | _ => simp [NC.drf] at h
def eFldU (K : PySem.W.Frag) (f : Str) (ta : TD) : TD := fun ρ S Q => ta ρ S fun x S1 =>
  (∃ n C es d, x = .ref n ∧ S1[n]? = some (some (.exc C es)) ∧ XfC K C ∧ PySem.W.findIn K (.ref C) f = some none ∧ es.lookup f = some d ∧ Q d S1) ∨
  ∃ C fs d, drf S1 x = .obj C fs ∧ Cls K C ∧ NoAttr K C f ∧ fs.lookup f = some d ∧ Q d S1
theorem de_fldU {X : Cx} {G : Gh} {f : Str} {e : Expr} {ta : TD} {pos : Pos} (he : PE X e (tE X.K G ta)) (hb : attributeBase e f X.env (eval e X.env) = eval e X.env := by rfl) : PE X (.Attribute e f pos) (tE X.K G (eFldU X.K f ta)) := by
  constructor
  rintro pins s σ H Q I ⟨Y, β, S, ρ, Q', rl, q, k⟩
  refine attr_of hb (thn (he.run pins s σ H (fun v H1 => ∃ S1 β1 d, Step X.K G Y β S H β1 S1 H1 ∧ Rep X.K (hid Y β1 S1 H1) β1 v d ∧ ((∃ n C es d', d = .ref n ∧ S1[n]? = some (some (.exc C es)) ∧ XfC X.K C ∧ PySem.W.findIn X.K (.ref C) f = some none ∧ es.lookup f = some d' ∧ Q' d' S1) ∨
    ∃ C fs d', NC.drf S1 d = .obj C fs ∧ Cls X.K C ∧ NoAttr X.K C f ∧ fs.lookup f = some d' ∧ Q' d' S1)) I ⟨Y, β, S, ρ, _, rl, q, fun d S' v β' H' st r q' => ⟨S', β', d, st, r, q'⟩⟩) ?_)
  rintro u s1 ⟨v, H1, I1, rv, S1, β1, d, st, r, ⟨n, C, es, d', rfl, hs, T, no, l, q'⟩ | ⟨C, fs, d', hd, c, n, l, q'⟩⟩
  · obtain ⟨a, e1, dd, fs, e2, e3, rf⟩ := st.ok.obj n _ hs
    have ev : v = .ref a := by
      cases r with
      | ref z =>
        rw [e1] at z
        cases z
        rfl
    subst ev
    cases (show u = Value.ref a from rv)
    obtain ⟨ox, od, mA, J, look, rel⟩ := exc_at I1.hok e2 (hid_ex _ _ e3)
    obtain ⟨v', l', r'⟩ := rf.look l
    obtain ⟨u', hu, ru⟩ := RelO.some_of (v := v') (o := mA f) (by rw [← l']; exact rel f)
    exact HandSPX.exc_get I1.kIn J T.ga T.gg T.exC (PySem.W.findObj_own T.hdC no rfl (by rw [look, hu])) (handed_of ru) ⟨v', H1, I1.tok _, ru, k d' S1 v' β1 H1 st r' q'⟩
  · obtain ⟨a, dx, vs, rfl, ha, rf⟩ := ok_obj st.ok r hd
    cases (show u = Value.ref a from rv)
    obtain ⟨v', l', r'⟩ := rf.look l
    exact getattr_ok I1 ha c n l' fun u2 s2 I2 ru => ⟨v', H1, I2, ru, k d' S1 v' β1 H1 st r' q'⟩
def sFldP (K : PySem.W.Frag) (f : Str) (ta tv : TD) : TSd := fun N ρ S => tv ρ S fun d S1 => ta ρ S1 fun x S2 => ∃ n C fs, x = .ref n ∧ S2[n]? = some (some (.ins C fs)) ∧ Cls K C ∧ NoAttr K C f ∧ fs.length < 900 ∧ N.nx ρ (S2.set n (some (.ins C (putO f d fs))))
theorem ds_fldP {X : Cx} {G : Gh} {f : Str} {o value : Expr} {ta tv : TD} {pos pos' : Pos} (ha : PE X o (tE X.K G ta)) (hv : PE X value (tE X.K G tv)) (hs : swapsWith value (some (.Attribute o f pos')) pos.line X.env = pure false := by rfl) :
    PS X (.Assign [.Attribute o f pos'] value pos) (tS X.K G (sFldP X.K f ta tv)) := (ps_fld ha hv hs).imp fun D' σ H ⟨Y, β, S, ρ, N, rl, q, l⟩ =>
  ⟨Y, β, S, ρ, _, rl, q, fun d S1 v β1 H1 s1 r1 q1 => ⟨Y, β1, S1, ρ, _, rl.step s1, q1, fun x S2 w β2 H2 s2 r2 ⟨n, C, fs, ex, hs, c, no, hl, hn⟩ => by
    subst ex
    obtain ⟨a, e1, dx, us, h1, h2, hk⟩ := s2.ok.obj n _ hs
    cases r2 with
    | ref e3 =>
      rw [e1] at e3
      cases e3
      have s3 := s2.ok.putG (so := .ins C (putO f d fs)) (ob := .ins C dx (putF f v us)) hs e1 ⟨h1, fun _ z => (by cases z), fun _ _ => code_ins⟩ fun B β' ex pr => ⟨dx, _, upd_same, RepF.put ((s2.rep r1).mono ex pr) (h2.mono ex pr), hk⟩
      exact ⟨a, C, dx, us, rfl, h1, c, no, by rw [h2.len]; omega, l.nx ρ _ σ β2 _ ((s1.trans s2).trans s3) (((rl.step s1).step s2).step s3) hn⟩⟩⟩
theorem make_guards {A : Around} {args : Args} (hg : A.guards = some []) : (A.under (.builtin "type.__call__" args)).guards = some [] := by
  have h : (Code.builtin "type.__call__" args).isGuard = false := by
    show guardIds.contains "type.__call__" = false
    decide +kernel
  simp [Around.under, Code.guards, h, pushGuards, hg]
def tMakeG (C : Addr) (sp : Sp) (E : XK) (t : TA) : TE := fun σ H Q => t σ H fun vs H1 => ∀ x dx, H1 x = none → H1 dx = none → dx ≠ x →
  sp (.ref x :: vs) (upd (upd H1 dx (.own x)) x (.ins C dx [])) (fun v H2 => v = .non ∧ Q (.ref x) H2) E
section
variable {X : Cx} {CX : CXT} {k : Nat} {f C : Addr} {fd : FuncData} {ps : List Str} {sp : Sp} {E : XK} {x : Str} {p pos apos : Pos} {e o : Expr} {es : List Expr} {t : TA} {ta : TE} {m : Str}
theorem run_mkG {pins : List (Addr × Obj)} {σ : L2.St} {H : Hp} {s : Shared} {Q : VK} {us as : List Value} {kw : List (Str × Value)} {vs : List V} (M : Mk X.K C f) (F : FnG X.prog X.w X.K X.mg X.base CX k f fd ps sp) (hr : Room (k + 1) X.A) (hgd : X.A.guards = some [])
    (hb : ∀ (s' : Shared) (y : Value), X.K.In s'.heap → BindsTo s' fd ⟨y :: us, kw⟩ (ps.zip (y :: as))) (hx : Passes CX X E) (I : L2.Inv X pins σ H s) (r : Vals vs as)
    (h : ∀ y dx, H y = none → H dx = none → dx ≠ y → sp (.ref y :: vs) (upd (upd H dx (.own y)) y (.ins C dx [])) (fun v H2 => v = .non ∧ Q (.ref y) H2) E) :
    wpAny (model X.prog X.w) X.A (call (.ref C) us kw) (EP X pins σ Q) X.xe s := by
  have q1 := h (s.heap.objs.size + 1) s.heap.objs.size (I.hok.fresh (Nat.le_succ _)) (I.hok.fresh (Nat.le_refl _)) (Nat.ne_of_lt (Nat.lt_succ_self _))
  have J := Inv.made (C := C) I
  refine wpAny_call (make_map (f := f) I.kIn M.makes M.init (beq_iff_eq.mp M.fn) (codeAny_mono (F.go _ X.stack _ _ ⟨.ref (s.heap.objs.size + 1) :: us, kw⟩ (.ref (s.heap.objs.size + 1) :: as) _ _ E (hr.make C us kw) (make_guards hgd) (J.env0.make C us kw) (hb _ _ J.kIn) (.cons (show L2.RelV (V.ref (s.heap.objs.size + 1)) (Value.ref (s.heap.objs.size + 1)) from rfl) r) q1) ?_))
  rintro (err | fl) s' hq
  · exact hx pins σ _ _ err s' J hq
  · cases fl with
    | ret u =>
      obtain ⟨v, H', I3, rv, ev, q3⟩ := J.after hq
      cases ev
      exact ⟨rv, .ref (s.heap.objs.size + 1), H', I3, rfl, q3⟩
    | next => exact hq.elim
    | brk => exact hq.elim
    | cont => exact hq.elim
theorem pe_mkG (M : Mk X.K C f) (F : FnG X.prog X.w X.K X.mg X.base CX k f fd ps sp) (hr : Room (k + 1) X.A) (hgd : X.A.guards = some []) (hg : Gl X x) (hm : X.mg x = some (.ref C)) (hb : Binds X.K fd ps []) (hx : Passes CX X E)
    (ha : PA X (e :: es) t) (hdb : (x == ("__debug__" : Str)) = false := by decide) (he : starEach (e :: es) X.env = (false, eval e X.env) :: starEach es X.env := by rfl) (hpl : (backTo pos (starEach es X.env)).any (·.1) = false := by rfl) :
    PE X (.Call (.Name x p) (e :: es) [] pos) (tMakeG C sp E t) := by
  constructor
  intro pins s σ H Q I h
  refine wpAny_Call_Name_kw (ld_glob I hg hm ?_ hdb)
  refine PySem.W.callWith_K (h₀ := X.base) I.ok.mod.kin M.kp (thn (ha.run pos pins s σ H _ I h) ?_) he hpl
  rintro us s1 ⟨vs, H1, I1, r, q⟩
  refine ⟨I1.kIn, run_mkG (as := us) M F hr hgd (fun s' y kin => ?_) hx I1 r q⟩
  have hl : (y :: us ++ []).length = ps.length := by
    obtain ⟨z⟩ : Nonempty Unit := ⟨()⟩
    have q1 := q (s1.heap.objs.size + 1) s1.heap.objs.size (I1.hok.fresh (Nat.le_succ _)) (I1.hok.fresh (Nat.le_refl _)) (Nat.ne_of_lt (Nat.lt_succ_self _))
    have := F.many _ _ _ _ q1
    rw [List.append_nil]
    simp only [List.length_cons] at this ⊢
    rw [← r.length]
    exact this
  have z := hb s' (y :: us) kin hl
  rw [List.append_nil] at z
  exact z
def tMakeGK (C : Addr) (sp : Sp) (n m : Nat) (perm : List Nat) (E : XK) (t tk : TA) : TE := fun σ H Q => t σ H fun vs H1 => tk σ H1 fun zs H2 => vs.length = n ∧ zs.length = m ∧
  ∀ x dx, H2 x = none → H2 dx = none → dx ≠ x → sp (.ref x :: pick perm (vs ++ zs) .non) (upd (upd H2 dx (.own x)) x (.ins C dx [])) (fun v H3 => v = .non ∧ Q (.ref x) H3) E
structure KwM (K : PySem.W.Frag) (fd : FuncData) (ps : List Str) (n : Nat) (ks : List Str) (perm : List Nat) : Prop where
  to : ∀ (s : Shared) (y : Value) (us ws : List Value), K.In s.heap → us.length = n → ws.length = ks.length → BindsTo s fd ⟨y :: us, ks.zip ws⟩ (ps.zip (y :: pick perm (us ++ ws) .none))
end
section
variable {K : PySem.W.Frag} {Y β : List Addr} {S : Store} {H : Hp}
theorem Ok.made (o : Ok K G Y β S H) {x dx : Addr} {C : Addr} (hk : KOk K C) (hx : H x = none) (hd : H dx = none) (hn : dx ≠ x) : Step K G Y β S H (β ++ [x]) (S ++ [some (.ins C [])]) (upd (upd H dx (.own x)) x (.ins C dx [])) := by
  have s1 := o.new (.own x) hd
  have hx1 : upd H dx (.own x) x = none := by rw [upd_ne (Ne.symm hn)]; exact hx
  exact s1.trans (s1.ok.alloc' hx1 fun B β' _ _ => ⟨dx, [], upd_same, .nil, hk⟩)
theorem Ok.frzO (o : Ok K G Y β S H) {n : Nat} {C : Addr} {fs : List (Str × D)} (hs : S[n]? = some (some (.ins C fs))) : Step K G Y β S H β (S.set n none) H ∧ ∀ a, β[n]? = some a → Rep K (hid Y β (S.set n none) H) β (.ref a) (.obj C fs) := by
  obtain ⟨s1, h⟩ := o.frzG hs
  refine ⟨s1, fun a ha => ?_⟩
  obtain ⟨⟨dx, vs, h1, h2, hk⟩, h3⟩ := h a ha
  exact .obj (h3.trans h1) h2 hk
end
def frzO (Q : QD) : QD := fun d S => ∃ n C fs, d = .ref n ∧ S[n]? = some (some (.ins C fs)) ∧ Q (.obj C fs) (S.set n none)
def eFrzO (t : TD) : TD := fun ρ S Q => t ρ S (frzO Q)
theorem de_frzO {X : Cx} {G : Gh} {e : Expr} {ta : TD} (h : PE X e (tE X.K G ta)) : PE X e (tE X.K G (eFrzO ta)) := h.imp fun σ H Q ⟨Y, β, S, ρ, Q', rl, q, k⟩ => ⟨Y, β, S, ρ, _, rl, q, fun x S1 v β1 H1 s1 r1 ⟨n, C, fs, ex, hs, q1⟩ => by
  subst ex
  obtain ⟨s2, h2⟩ := s1.ok.frzO hs
  cases r1 with
  | ref e1 => exact k _ _ _ β1 H1 (s1.trans s2) (h2 _ e1) q1⟩
def eMakeX (K : PySem.W.Frag) (r : RDx) (C : Addr) (ED : XD) (tl : TLs) : TD := fun ρ S Q => tl ρ S fun xs S1 => KOk K C ∧ r (.ref S1.length :: xs) (S1 ++ [some (.ins C [])]) (fun d S2 => d = .non ∧ Q (.ref S1.length) S2) ED
section
variable {X : Cx} {G : Gh} {k : Nat} {f C : Addr} {fd : FuncData} {ps : List Str} {x m : Str} {p pos apos : Pos} {e o : Expr} {es : List Expr} {ta : TD} {tl : TLs}
end
end NC
set_option Elab.async false
set_option linter.all false
set_option maxRecDepth 100000
set_option maxHeartbeats 4000000
namespace NC
open PySem PySem.Spec PyProof.Rows L2
def isaB (K : PySem.W.Frag) (C : Addr) : Bool := PySem.W.plainGet K C Str.empty && PySem.W.hasDictIn K C && PySem.W.plainOver K C && decide (PySem.W.findIn K (.ref C) "__setattr__" = some (some (.builtin "object.__setattr__"))) &&
  decide (PySem.W.findIn K (.ref C) "__class__" = some (some (.builtin "object.__class__"))) && decide (PySem.W.specialIn K (.builtin "object.__class__") "__get__" = some (some (.builtin "getset_descriptor.__get__"))) &&
  decide (PySem.W.takesIn K (.builtin "object.__class__") = some true) && decide (PySem.W.mroIn K C (.type "object") = some true)
theorem isaB_ok {K : PySem.W.Frag} {C : Addr} (h : isaB K C = true) : IsaC K C := by
  unfold isaB at h
  simp only [Bool.and_eq_true, decide_eq_true_eq] at h
  obtain ⟨⟨⟨⟨⟨⟨⟨a, b⟩, c⟩, d⟩, e⟩, f⟩, g⟩, i⟩ := h
  exact ⟨⟨a, b, c, d⟩, e, f, g, i⟩
def TyO (K : PySem.W.Frag) (S : Store) (x : D) (t : Value) : Prop := (∃ n, tyD (drf S x) = some n ∧ t = .type n) ∨ ∃ C fs, drf S x = .obj C fs ∧ IsaC K C ∧ t = .ref C
theorem tyO_ok {K : PySem.W.Frag} {G : Gh} {Y β : List Addr} {S : Store} {H : Hp} (o : Ok K G Y β S H) {v : V} {d : D} {t : Value} (r : Rep K (hid Y β S H) β v d) (h : TyO K S d t) : TyX K H v t := by
  rcases h with ⟨n, h, rfl⟩ | ⟨C, fs, h, c, rfl⟩
  · exact ty_ok o r h
  · obtain ⟨a, dx, vs, rfl, ha, _⟩ := ok_obj o r h
    exact .base (.ins ha c.cl c.ha c.hn c.ht c.hm)
def eIsU (K : PySem.W.Frag) (C : Addr) (ta : TD) : TD := fun ρ S Q => ta ρ S fun x S1 => ∃ b, (((∀ n D es, x = .ref n → S1[n]? = some (some (.exc D es)) → L2.ExcC K D) ∧ xis K S1 x C = some b) ∨ ∃ t, TyO K S1 x t ∧ PySem.W.kitOne K t (.ref C) = some b) ∧ Q (.bl b) S1
def rIsU' (K : PySem.W.Frag) (C : Addr) : List V → Hp → VK → Prop := fun xs H Q => rIsX K C xs H Q ∨ rIsi K xs H Q
theorem call_isu {X : Cx} {C : Addr} : CallR X (.builtin "isinstance") (rIsU' X.K C) := fun pins s σ H xs us Q I r h => h.elim (call_isx pins s σ H xs us Q I r) (call_isi pins s σ H xs us Q I r)
theorem de_isu {X : Cx} {G : Gh} {C : Addr} {e : Expr} {ta : TD} (h : PE X e (tCB (rIsU' X.K C) (tCons (tE X.K G ta) (tCons (tC (.ref C)) tNil)))) : PE X e (tE X.K G (eIsU X.K C ta)) := h.imp fun σ H Q ⟨Y, β, S, ρ, Q', rl, q, k⟩ => ⟨Y, β, S, ρ, _, rl, q, fun x S1 v β1 H1 s1 r1 ⟨b, hb, q1⟩ => by
  have fin := k (.bl b) S1 _ β1 H1 s1 (.bl b) q1
  rcases hb with ⟨hT, hb⟩ | ⟨t, ht, hk⟩
  · refine .inl ⟨v, b, rfl, fin, ?_⟩
    cases x with
    | non =>
      cases r1
      exact .inl ⟨rfl, hb⟩
    | ref n =>
      simp only [xis] at hb
      split at hb
      · rename_i D es hs
        obtain ⟨a, e1, dd, fs, e2, e3, rf⟩ := s1.ok.obj n _ hs
        cases r1 with
        | ref z =>
          rw [e1] at z
          cases z
          exact .inr ⟨a, D, dd, fs, rfl, e2, hid_ex _ _ e3, hT n D es rfl hs, hb⟩
      · cases hb
    | _ => simp [xis] at hb
  · exact .inr ⟨v, .ref C, t, .ref C, b, rfl, .own C, tyO_ok s1.ok r1 ht, hk, fin⟩⟩
def rEqO (K : PySem.W.Frag) (C : Addr) (r : RDs) : RD2 := fun x y S Q => ∃ fs t, drf S x = .obj C fs ∧ TyO K S y t ∧ PySem.W.notFirst K C t = true ∧ r [x, y] S fun d S' => (∃ b, d = .bl b) ∧ Q d S'
theorem op_eqO {X : Cx} {G : Gh} {k : Nat} {C f : Addr} {fd : FuncData} {ps : List Str} {r : RDs} (hs : PySem.W.findIn X.K (.ref C) "__eq__" = some (some (.ref f))) (hf : PySem.W.isFn X.K (.ref f) = true) (F : FnG X.prog X.w X.K X.mg X.base CX0 k f fd ps (lsp X.K G.T r)) (hb : Binds X.K fd ps [])
    (hr : Room k X.A) (hgd : X.A.guards = some []) (hu : X.A.units < cLine) : OpR X (compareOp .Eq) (l2 X.K G (rEqO X.K C r)) := by
  rintro pins s σ H x y v u Q I rx ry ⟨Y, β, S, dx, dy, Q', o, r1, r2, ⟨fs, t, h1, h2, nf, q⟩, kk⟩
  obtain ⟨a, da, vs, rfl, ha, _⟩ := ok_obj o r1 h1
  cases (show v = Value.ref a from rx)
  obtain ⟨mA, J, _⟩ := ins_get I.hok ha
  obtain ⟨od, J, _⟩ := J.look
  obtain ⟨m, hF⟩ := I.fr
  obtain ⟨P, Z, hp, _⟩ := kit_of I ry (tyO_ok o r2 h2)
  show wpAny _ _ (richCompare .Eq (.ref a) u) _ _ _
  refine PySem.W.cmp_K (op := .Eq) (tb := t) hu hF I.ok.mod.kin J (Z.ty _ _ I.kIn hp) nf hs hf ?_
  have hsp : lsp X.K G.T r [V.ref a, y] H (fun w H' => (∃ b, w = .bl b) ∧ Q w H') E0 := by
    refine ⟨Y, β, S, [dx, dy], _, o.free, .cons r1 (.cons r2 .nil), q, ?_⟩
    rintro d S' w β' H' s' rw' ⟨⟨b, rfl⟩, q'⟩
    cases rw'
    exact ⟨⟨b, rfl⟩, kk _ S' _ β' H' (s'.back o) (.bl b) q'⟩
  have hl := F.many _ _ _ _ hsp
  have z := hb s [.ref a, u] I.kIn (by simpa using hl)
  rw [List.append_nil] at z
  refine wpAny_mono (runG (us := [.ref a, u]) (kw := []) F hr hgd z pass0 I (.cons (show L2.RelV (V.ref a) (Value.ref a) from rfl) (.cons ry .nil)) hsp) ?_ fun _ _ h => h
  rintro w s' ⟨z, H', I', rz, ⟨b, ez⟩, qz⟩
  subst ez
  cases (show w = Value.bool b from rz)
  exact ⟨.bl b, H', I', rfl, qz⟩
def tMethG (C : Addr) (m : Str) (sp : Sp) (E : XK) (ta : TE) (t : TA) : TE := fun σ H Q => ta σ H fun x H1 => ∃ a dx fs, x = .ref a ∧ H1 a = some (.ins C dx fs) ∧ fs.lookup m = none ∧ t σ H1 fun vs H2 => sp (x :: vs) H2 Q E
section
variable {X : Cx} {G : Gh} {CX : CXT} {k : Nat} {f C : Addr} {fd : FuncData} {ps : List Str} {sp : Sp} {E : XK} {m : Str} {p pos apos : Pos} {e o : Expr} {es : List Expr} {t : TA} {te : TE} {ta : TD} {tl : TLs}
theorem pe_methG {pl : Sem Bool} (he : PE X o te) (c : Cls X.K C) (hm : Meth X.K C m f) (F : FnG X.prog X.w X.K X.mg X.base CX k f fd ps sp) (hr : Room k X.A) (hgd : X.A.guards = some []) (hb : Binds X.K fd ps []) (hx : Passes CX X E) (ha : PA X (e :: es) t)
    (hst : starEach (e :: es) X.env = (false, eval e X.env) :: starEach es X.env := by rfl) (hpl : (backTo pos (starEach es X.env)).any (·.1) = false := by rfl)
    (ht : eval (.Call (.Attribute o m apos) (e :: es) [] pos) X.env = (do
      let ov ← eval o X.env
      standAt apos.atName
      let (g, first) ← holding [ov] (getMethod ov m pl)
      callWith pos g first (backTo pos (starEach (e :: es) X.env)) (backToKw pos (keywordEach [] X.env))) := by rfl) :
    PE X (.Call (.Attribute o m apos) (e :: es) [] pos) (tMethG C m sp E te t) := by
  constructor
  intro pins s σ H Q I h
  refine PySem.W.methodCall_KW (pl := pl) (thn (he.run pins s σ H _ I h) ?_) ht
  rintro u s1 ⟨x, H1, I1, rx, a, dx, fs, ex, ea, l, q⟩
  subst ex
  cases (show u = Value.ref a from rx)
  refine getmeth_ok I1 ea c hm l ?_
  refine PySem.W.callWith_K (first := [.ref a]) (h₀ := X.base) I.ok.mod.kin hm.kp (thn (ha.run pos pins s1 σ H1 _ I1 q) ?_) hst hpl
  rintro us s2 ⟨vs, H2, I2, r, q2⟩
  have hl : (Value.ref a :: us).length = ps.length := by
    have z := F.many _ _ _ _ q2
    simp only [List.length_cons] at z ⊢
    rw [← r.length]
    exact z
  have z := hb s2 (.ref a :: us) I2.kIn (by rw [List.append_nil]; exact hl)
  rw [List.append_nil] at z
  exact ⟨I2.kIn, runG (us := .ref a :: us) (kw := []) F hr hgd z hx I2 (.cons (show L2.RelV (V.ref a) (Value.ref a) from rfl) r) q2⟩
end
end NC
set_option Elab.async false
set_option linter.all false
set_option maxRecDepth 100000
set_option maxHeartbeats 4000000
namespace NC
open PySem PySem.Spec PyProof.Rows L2
section
variable {P : Program} {w : World} {K : PySem.W.Frag} {mg : Str → Option Value} {base : Heap} {k : Nat} {x qual : Str} {st : Stmt} {f : Addr} {fd : FuncData} {N ps : List Str} {tb : TSd} {r : RDs} {T : List (Addr × Str)}
end
def kitTB (K : PySem.W.Frag) (C : Addr) : Bool := tyNames.all fun t => PySem.W.kitOne K (.type t) (.ref C) == some false
theorem kitTB_ok {K : PySem.W.Frag} {C : Addr} (h : kitTB K C = true) : ∀ t ∈ tyNames, PySem.W.kitOne K (.type t) (.ref C) = some false := fun t ht => beq_iff_eq.mp (List.all_eq_true.mp h t ht)
def kobB (K : PySem.W.Frag) (C : Addr) : Bool := isaB K C && tyNames.all fun t => PySem.W.kitOne K (.ref C) (.type t) == some false
theorem kobB_ok {K : PySem.W.Frag} {C : Addr} (h : kobB K C = true) : KOk K C := by
  have h := (Bool.and_eq_true _ _).mp h
  exact ⟨isaB_ok h.1, fun t ht => beq_iff_eq.mp (List.all_eq_true.mp h.2 t ht)⟩
def nfTB (K : PySem.W.Frag) (C : Addr) : Bool := tyNames.all fun t => PySem.W.notFirst K C (.type t)
theorem nfTB_ok {K : PySem.W.Frag} {C : Addr} (h : nfTB K C = true) : ∀ t ∈ tyNames, PySem.W.notFirst K C (.type t) = true := fun t ht => List.all_eq_true.mp h t ht
theorem ty_in {d : D} {t : String} (h : tyD d = some t) : t ∈ tyNames := by
  cases d <;> simp only [tyD, Option.some.injEq] at h <;> first | (subst h; decide) | cases h
end NC
set_option Elab.async false
set_option linter.all false
set_option maxRecDepth 100000
set_option maxHeartbeats 4000000
namespace NC
open PySem PySem.Spec PyProof.Rows L2
local macro_rules | `(tactic| walk_at "nc hd") => `(tactic| repeat (first | (with_reducible first | refine i_sIf ?_ | refine i_sNil ?_ | refine i_sRet ?_ | refine i_sAsg ?_ | refine i_sDrop ?_ | refine i_sPut ?_ | refine i_sPar ?_ | refine i_eC ?_ | refine i_eOp ?_ | refine i_eChain ?_ | refine i_eB ?_ | refine i_eUn ?_ | refine i_eTup ?_ | refine i_eLst ?_ | refine i_eLstM ?_ | refine i_eAnd ?_ | refine i_eOr ?_ | refine i_eNot ?_ | refine i_eIf ?_ | refine i_bOf ?_ | refine i_bAnd ?_ | refine i_bOr ?_ | refine i_bNot ?_ | refine i_bYes ?_ | refine i_aNil ?_ | refine i_aCons ?_ | refine i_eCall ?_ | refine i_eCallKw ?_ | refine i_eCut ?_ | refine i_oNone ?_ | refine i_oSome ?_ | refine i_eM ?_ | refine i_sSq ?_ | refine i_sRange1 ?_ | refine i_sRange2 ?_ | refine i_sEnum ?_ | refine i_eIsi ?_ | refine i_eIsi2 ?_ | refine i_eLc ?_ | refine i_eLcM ?_ | refine i_sFor ?_ | refine i_eDisp1 ?_ | refine i_bl ?_ | refine i_int ?_ | refine i_nm ?_ | refine i_one ?_ | refine i_two ?_ | refine i_rng ?_ | refine i_len0 ?_ | refine i_int1 ?_ | refine i_intb ?_ | refine i_abs ?_ | refine i_add ?_ | refine i_sub ?_ | refine i_lt ?_ | refine i_le ?_ | refine i_gt ?_ | refine i_ge ?_ | refine i_eqi ?_ | refine i_is ?_ | refine i_isn ?_ | refine i_nes ?_ | refine i_rbl ?_ | refine i_eCallX ?_ | refine i_eCallKwX ?_ | refine i_sRaiseF ?_ | refine i_eIsX ?_ | refine i_eFld ?_ | refine i_eDit1 ?_ | refine i_sTry ?_ | refine i_runX ?_ | refine i_ltU ?_ | refine i_isU ?_ | refine i_isnU ?_ | refine i_isS ?_ | refine i_isnS ?_ | refine i_isB ?_ | refine i_isnB ?_ | refine i_neg ?_ | refine i_eDcT ?_ | refine i_sPar3 ?_ | refine i_three ?_ | refine i_eFldU ?_ | refine i_eIsU ?_ | refine i_eFrzO ?_ | refine i_eMake ?_ | refine i_sFldP ?_ | refine i_eMeth ?_ | refine i_sWhile ?_ | refine i_aStar ?_ | refine i_eFn ?_ | refine i_sAsgL ?_ | refine i_sCont ?_ | refine i_sBrk ?_ | refine i_eDnT ?_ | refine i_eDnK ?_ | refine i_eDit1M ?_ | refine i_sDPutU ?_ | refine i_eListR2 ?_ | refine i_bool1 ?_ | refine i_eCName ?_ | refine i_sFlds ?_ | refine i_bTruL ?_ | refine i_eCutU ?_ | refine i_sStr ?_ | refine i_eJoined ?_ | refine i_dJs ?_ | refine i_dJn ?_ | refine i_eMakeX ?_ | refine i_eMethX ?_ | refine i_eFmt ?_ | refine i_eLc2 ?_ | refine i_sRng ?_ | refine i_sTryS ?_) | ((with_reducible refine i_eVarX ?_); refine ⟨_, rfl, ?_⟩) | ((with_reducible refine i_len1 ?_ ?_); · exact Nat.le_of_ble_eq_true rfl)))
local macro_rules | `(tactic| walk_at "nc hq") => `(tactic| repeat (first | (with_reducible first | refine i_sSeq ?_ | refine i_sIf ?_ | refine i_sNil ?_ | refine i_sRet ?_ | refine i_sAsg ?_ | refine i_sDrop ?_ | refine i_sPut ?_ | refine i_sPar ?_ | refine i_eC ?_ | refine i_eOp ?_ | refine i_eChain ?_ | refine i_eB ?_ | refine i_eUn ?_ | refine i_eTup ?_ | refine i_eLst ?_ | refine i_eLstM ?_ | refine i_eAnd ?_ | refine i_eOr ?_ | refine i_eNot ?_ | refine i_eIf ?_ | refine i_bOf ?_ | refine i_bAnd ?_ | refine i_bOr ?_ | refine i_bNot ?_ | refine i_bYes ?_ | refine i_aNil ?_ | refine i_aCons ?_ | refine i_eCall ?_ | refine i_eCallKw ?_ | refine i_eCut ?_ | refine i_oNone ?_ | refine i_oSome ?_ | refine i_eM ?_ | refine i_sSq ?_ | refine i_sRange1 ?_ | refine i_sRange2 ?_ | refine i_sEnum ?_ | refine i_eIsi ?_ | refine i_eIsi2 ?_ | refine i_eLc ?_ | refine i_eLcM ?_ | refine i_sFor ?_ | refine i_eDisp1 ?_ | refine i_bl ?_ | refine i_int ?_ | refine i_nm ?_ | refine i_one ?_ | refine i_two ?_ | refine i_rng ?_ | refine i_len0 ?_ | refine i_int1 ?_ | refine i_intb ?_ | refine i_abs ?_ | refine i_add ?_ | refine i_sub ?_ | refine i_lt ?_ | refine i_le ?_ | refine i_gt ?_ | refine i_ge ?_ | refine i_eqi ?_ | refine i_is ?_ | refine i_isn ?_ | refine i_nes ?_ | refine i_rbl ?_ | refine i_eCallX ?_ | refine i_eCallKwX ?_ | refine i_sRaiseF ?_ | refine i_eIsX ?_ | refine i_eFld ?_ | refine i_eDit1 ?_ | refine i_sTry ?_ | refine i_runX ?_ | refine i_ltU ?_ | refine i_isU ?_ | refine i_isnU ?_ | refine i_isS ?_ | refine i_isnS ?_ | refine i_isB ?_ | refine i_isnB ?_ | refine i_neg ?_ | refine i_eDcT ?_ | refine i_sPar3 ?_ | refine i_three ?_ | refine i_eFldU ?_ | refine i_eIsU ?_ | refine i_eFrzO ?_ | refine i_eMake ?_ | refine i_sFldP ?_ | refine i_eMeth ?_ | refine i_sWhile ?_ | refine i_aStar ?_ | refine i_eFn ?_ | refine i_sAsgL ?_ | refine i_sCont ?_ | refine i_sBrk ?_ | refine i_eDnT ?_ | refine i_eDnK ?_ | refine i_eDit1M ?_ | refine i_sDPutU ?_ | refine i_eListR2 ?_ | refine i_bool1 ?_ | refine i_eCName ?_ | refine i_sFlds ?_ | refine i_bTruL ?_ | refine i_eCutU ?_ | refine i_sStr ?_ | refine i_eJoined ?_ | refine i_dJs ?_ | refine i_dJn ?_ | refine i_eMakeX ?_ | refine i_eMethX ?_ | refine i_eFmt ?_ | refine i_eLc2 ?_ | refine i_sRng ?_ | refine i_sTryS ?_) | ((with_reducible refine i_eVarX ?_); refine ⟨_, rfl, ?_⟩) | ((with_reducible refine i_len1 ?_ ?_); · exact Nat.le_of_ble_eq_true rfl)))
local macro_rules | `(tactic| walk_at "nc hh") => `(tactic| repeat (first | (with_reducible first | refine nes_same ?_ | refine eqs_same ?_ | refine iteT ?_ | refine iteF ?_ | refine iteNT ?_ | refine iteNF ?_) | (with_reducible first | refine i_sIf ?_ | refine i_sNil ?_ | refine i_sRet ?_ | refine i_sAsg ?_ | refine i_sDrop ?_ | refine i_sPut ?_ | refine i_sPar ?_ | refine i_eC ?_ | refine i_eOp ?_ | refine i_eChain ?_ | refine i_eB ?_ | refine i_eUn ?_ | refine i_eTup ?_ | refine i_eLst ?_ | refine i_eLstM ?_ | refine i_eAnd ?_ | refine i_eOr ?_ | refine i_eNot ?_ | refine i_eIf ?_ | refine i_bOf ?_ | refine i_bAnd ?_ | refine i_bOr ?_ | refine i_bNot ?_ | refine i_bYes ?_ | refine i_aNil ?_ | refine i_aCons ?_ | refine i_eCall ?_ | refine i_eCallKw ?_ | refine i_eCut ?_ | refine i_oNone ?_ | refine i_oSome ?_ | refine i_eM ?_ | refine i_sSq ?_ | refine i_sRange1 ?_ | refine i_sRange2 ?_ | refine i_sEnum ?_ | refine i_eIsi ?_ | refine i_eIsi2 ?_ | refine i_eLc ?_ | refine i_eLcM ?_ | refine i_sFor ?_ | refine i_eDisp1 ?_ | refine i_bl ?_ | refine i_int ?_ | refine i_nm ?_ | refine i_one ?_ | refine i_two ?_ | refine i_rng ?_ | refine i_len0 ?_ | refine i_int1 ?_ | refine i_intb ?_ | refine i_abs ?_ | refine i_add ?_ | refine i_sub ?_ | refine i_lt ?_ | refine i_le ?_ | refine i_gt ?_ | refine i_ge ?_ | refine i_eqi ?_ | refine i_is ?_ | refine i_isn ?_ | refine i_nes ?_ | refine i_rbl ?_ | refine i_eCallX ?_ | refine i_eCallKwX ?_ | refine i_sRaiseF ?_ | refine i_eIsX ?_ | refine i_eFld ?_ | refine i_eDit1 ?_ | refine i_sTry ?_ | refine i_runX ?_ | refine i_ltU ?_ | refine i_isU ?_ | refine i_isnU ?_ | refine i_isS ?_ | refine i_isnS ?_ | refine i_isB ?_ | refine i_isnB ?_ | refine i_neg ?_ | refine i_eDcT ?_ | refine i_sPar3 ?_ | refine i_three ?_ | refine i_eFldU ?_ | refine i_eIsU ?_ | refine i_eFrzO ?_ | refine i_eMake ?_ | refine i_sFldP ?_ | refine i_eMeth ?_ | refine i_sWhile ?_ | refine i_aStar ?_ | refine i_eFn ?_ | refine i_sAsgL ?_ | refine i_sCont ?_ | refine i_sBrk ?_ | refine i_eDnT ?_ | refine i_eDnK ?_ | refine i_eDit1M ?_ | refine i_sDPutU ?_ | refine i_eListR2 ?_ | refine i_bool1 ?_ | refine i_eCName ?_ | refine i_sFlds ?_ | refine i_bTruL ?_ | refine i_eCutU ?_ | refine i_sStr ?_ | refine i_eJoined ?_ | refine i_dJs ?_ | refine i_dJn ?_ | refine i_eMakeX ?_ | refine i_eMethX ?_ | refine i_eFmt ?_ | refine i_eLc2 ?_ | refine i_sRng ?_ | refine i_sTryS ?_) | ((with_reducible refine i_eVarX ?_); refine ⟨_, rfl, ?_⟩) | ((with_reducible refine i_len1 ?_ ?_); · exact Nat.le_of_ble_eq_true rfl) | ((with_reducible first | refine i_ix0 ?_ | refine i_ix1 ?_ | refine i_ix2 ?_ | refine i_ix3 ?_); refine ⟨_, _, rfl, rfl, ?_⟩) | ((with_reducible refine i_tp ?_); refine ⟨_, by unfold bindT; rfl, ?_⟩) | ((with_reducible first | refine i_len ?_ | refine i_list ?_ | refine i_listU ?_ | refine i_tuple ?_ | refine i_sqE ?_); refine ⟨_, rfl, ?_⟩) | ((with_reducible refine i_modL ?_ ?_); · decide) | (with_reducible refine i_eqs ?_) | (with_reducible first | refine cl_power (by assumption) ?_ | refine cl_height (by assumption) ?_ | refine cl_origins (by assumption) ?_ | refine cl_lasted (by assumption) ?_ | refine cl_square (by assumption) ?_ | refine cl_turn (by assumption) ?_ | refine is_cl (by assumption) ?_ | refine st_wide (by assumption) ?_ | refine st_power (by assumption) ?_ | refine st_far (by assumption) ?_) | ((with_reducible refine i_kw ?_); refine ⟨rfl, rfl, ?_⟩)))
local macro_rules | `(tactic| walk_at "nc hs") => `(tactic| repeat (first | (with_reducible first | refine nes_same ?_ | refine eqs_same ?_ | refine iteT ?_ | refine iteF ?_ | refine iteNT ?_ | refine iteNF ?_) | (with_reducible first | refine i_sSeq ?_ | refine i_sIf ?_ | refine i_sNil ?_ | refine i_sRet ?_ | refine i_sAsg ?_ | refine i_sDrop ?_ | refine i_sPut ?_ | refine i_sPar ?_ | refine i_eC ?_ | refine i_eOp ?_ | refine i_eChain ?_ | refine i_eB ?_ | refine i_eUn ?_ | refine i_eTup ?_ | refine i_eLst ?_ | refine i_eLstM ?_ | refine i_eAnd ?_ | refine i_eOr ?_ | refine i_eNot ?_ | refine i_eIf ?_ | refine i_bOf ?_ | refine i_bAnd ?_ | refine i_bOr ?_ | refine i_bNot ?_ | refine i_bYes ?_ | refine i_aNil ?_ | refine i_aCons ?_ | refine i_eCall ?_ | refine i_eCallKw ?_ | refine i_eCut ?_ | refine i_oNone ?_ | refine i_oSome ?_ | refine i_eM ?_ | refine i_sSq ?_ | refine i_sRange1 ?_ | refine i_sRange2 ?_ | refine i_sEnum ?_ | refine i_eIsi ?_ | refine i_eIsi2 ?_ | refine i_eLc ?_ | refine i_eLcM ?_ | refine i_sFor ?_ | refine i_eDisp1 ?_ | refine i_bl ?_ | refine i_int ?_ | refine i_nm ?_ | refine i_one ?_ | refine i_two ?_ | refine i_rng ?_ | refine i_len0 ?_ | refine i_int1 ?_ | refine i_intb ?_ | refine i_abs ?_ | refine i_add ?_ | refine i_sub ?_ | refine i_lt ?_ | refine i_le ?_ | refine i_gt ?_ | refine i_ge ?_ | refine i_eqi ?_ | refine i_is ?_ | refine i_isn ?_ | refine i_nes ?_ | refine i_rbl ?_ | refine i_eCallX ?_ | refine i_eCallKwX ?_ | refine i_sRaiseF ?_ | refine i_eIsX ?_ | refine i_eFld ?_ | refine i_eDit1 ?_ | refine i_sTry ?_ | refine i_runX ?_ | refine i_ltU ?_ | refine i_isU ?_ | refine i_isnU ?_ | refine i_isS ?_ | refine i_isnS ?_ | refine i_isB ?_ | refine i_isnB ?_ | refine i_neg ?_ | refine i_eDcT ?_ | refine i_sPar3 ?_ | refine i_three ?_ | refine i_eFldU ?_ | refine i_eIsU ?_ | refine i_eFrzO ?_ | refine i_eMake ?_ | refine i_sFldP ?_ | refine i_eMeth ?_ | refine i_sWhile ?_ | refine i_aStar ?_ | refine i_eFn ?_ | refine i_sAsgL ?_ | refine i_sCont ?_ | refine i_sBrk ?_ | refine i_eDnT ?_ | refine i_eDnK ?_ | refine i_eDit1M ?_ | refine i_sDPutU ?_ | refine i_eListR2 ?_ | refine i_bool1 ?_ | refine i_eCName ?_ | refine i_sFlds ?_ | refine i_bTruL ?_ | refine i_eCutU ?_ | refine i_sStr ?_ | refine i_eJoined ?_ | refine i_dJs ?_ | refine i_dJn ?_ | refine i_eMakeX ?_ | refine i_eMethX ?_ | refine i_eFmt ?_ | refine i_eLc2 ?_ | refine i_sRng ?_ | refine i_sTryS ?_) | ((with_reducible refine i_eVarX ?_); refine ⟨_, rfl, ?_⟩) | ((with_reducible refine i_len1 ?_ ?_); · exact Nat.le_of_ble_eq_true rfl) | ((with_reducible first | refine i_ix0 ?_ | refine i_ix1 ?_ | refine i_ix2 ?_ | refine i_ix3 ?_); refine ⟨_, _, rfl, rfl, ?_⟩) | ((with_reducible refine i_tp ?_); refine ⟨_, by unfold bindT; rfl, ?_⟩) | ((with_reducible first | refine i_len ?_ | refine i_list ?_ | refine i_listU ?_ | refine i_tuple ?_ | refine i_sqE ?_); refine ⟨_, rfl, ?_⟩) | ((with_reducible refine i_modL ?_ ?_); · decide) | (with_reducible refine i_eqs ?_) | (with_reducible first | refine cl_power (by assumption) ?_ | refine cl_height (by assumption) ?_ | refine cl_origins (by assumption) ?_ | refine cl_lasted (by assumption) ?_ | refine cl_square (by assumption) ?_ | refine cl_turn (by assumption) ?_ | refine is_cl (by assumption) ?_ | refine st_wide (by assumption) ?_ | refine st_power (by assumption) ?_ | refine st_far (by assumption) ?_) | ((with_reducible refine i_kw ?_); refine ⟨rfl, rfl, ?_⟩)))
def FldO (K : PySem.W.Frag) (f : Str) (x : D) (S1 : Store) (Q : QD) : Prop :=
  (∃ n C es d, x = .ref n ∧ S1[n]? = some (some (.exc C es)) ∧ XfC K C ∧ PySem.W.findIn K (.ref C) f = some none ∧ es.lookup f = some d ∧ Q d S1) ∨
  ∃ C fs d, drf S1 x = .obj C fs ∧ Cls K C ∧ NoAttr K C f ∧ fs.lookup f = some d ∧ Q d S1
theorem fldO_of {K : PySem.W.Frag} {f : Str} {x d : D} {S : Store} {Q : QD} {C : Addr} {fs : List (Str × D)} (h : drf S x = .obj C fs) (c : Cls K C) (n : NoAttr K C f) (l : fs.lookup f = some d) (q : Q d S) : FldO K f x S Q := .inr ⟨C, fs, d, h, c, n, l, q⟩
def IsO (K : PySem.W.Frag) (C : Addr) (x : D) (S1 : Store) (Q : QD) : Prop := ∃ b, (((∀ n D es, x = .ref n → S1[n]? = some (some (.exc D es)) → L2.ExcC K D) ∧ xis K S1 x C = some b) ∨ ∃ t, TyO K S1 x t ∧ PySem.W.kitOne K t (.ref C) = some b) ∧ Q (.bl b) S1
section
variable {K : PySem.W.Frag} {C : Addr} {f m : Str} {ta tv : TD} {tl : TLs} {ρ : Rho} {S : Store} {Q : QD} {QL : List D → Store → Prop} {N : DN} {r : RDs}
theorem i_eFldU (h : ta ρ S fun x S1 => FldO K f x S1 Q) : eFldU K f ta ρ S Q := h
theorem i_eIsU (h : ta ρ S fun x S1 => IsO K C x S1 Q) : eIsU K C ta ρ S Q := h
theorem i_aStar (h : ta ρ S fun x S1 => ∃ xs, seqOf (drf S1 x) = some xs ∧ tl ρ S1 fun ys S2 => QL (xs ++ ys) S2) : aStar ta tl ρ S QL := h
theorem i_sqE {x : D} {P : List D → Prop} (h : ∃ xs, seqOf (drf S x) = some xs ∧ P xs) : ∃ xs, seqOf (drf S x) = some xs ∧ P xs := h
theorem i_eFrzO (h : ta ρ S (frzO Q)) : eFrzO ta ρ S Q := h
theorem i_sFldP (h : tv ρ S fun d S1 => ta ρ S1 fun x S2 => ∃ n C fs, x = .ref n ∧ S2[n]? = some (some (.ins C fs)) ∧ Cls K C ∧ NoAttr K C f ∧ fs.length < 900 ∧ N.nx ρ (S2.set n (some (.ins C (putO f d fs))))) : sFldP K f ta tv N ρ S := h
theorem i_sWhile {tt : TB} {tb : TSd} (h : ∃ W : Nat → Rho → Store → Prop, (∃ m, W m ρ S) ∧ ∀ m ρ' S', W m ρ' S' → tt ρ' S' fun b S1 =>
  if b = true then tb { N with nx := fun ρ2 S2 => ∃ m', m' < m ∧ W m' ρ2 S2, ct := fun ρ2 S2 => ∃ m', m' < m ∧ W m' ρ2 S2, bk := N.nx } ρ' S1 else N.nx ρ' S1) : sWhile tt tb N ρ S := h
end
def within (d : D) (lo hi : Option Int) : Bool := match d with
  | .int n => (match lo with | none => true | some l => decide (l ≤ n)) && (match hi with | none => true | some u => decide (n ≤ u))
  | _ => false
def combsP (p : Int) : Int := 4 * p ^ 3 + 1
def hexp (p : Int) : Nat := Builtin.Int.intBits (16 * p ^ 5 - 1) + (4 * p ^ 3).toNat
def hgtP (p : Int) : Int := 2 ^ hexp p
def endP (p s : Int) : Int := hgtP p / 2 ^ (s + 1).toNat
def Pw (p : Int) : Prop := 1 ≤ p ∧ p ≤ 9
def dueF (p : Int) (o : Sq) (s : Int) : Int := o.1 - p * (hgtP p - o.2) + (s - o.1 + p * (hgtP p - o.2)) % combsP p
def dueN (p : Int) (o : Sq) (s : Int) : Int := (o.1 + p * (hgtP p - o.2) - dueF p o s) / combsP p + 1
structure Clb where
  p : Int
  os : List Sq
  ls : List Int
  q : Sq
def Clb.D (cs : Cs) (c : Clb) : D := .obj cs.Climb [("power", .int c.p), ("height", .int (hgtP c.p)), ("origins", .tup (c.os.map sqD)), ("lasted", .tup (c.ls.map .int)), ("square", sqD c.q), ("turn", .int c.ls.sum)]
def Clb.st (c : Clb) : Int := (c.os.length : Int) - 1
structure Clb.Ok (c : Clb) : Prop where
  pw : Pw c.p
  o0 : 0 < c.os.length
  ol : c.ls.length = c.os.length
  few : c.os.length ≤ 1000
def Clb.last (c : Clb) : Int := c.ls.getLastD 0
def Clb.og (c : Clb) : Sq := c.os.getLastD (0, 0)
def Clb.las (c : Clb) (t : Int) : List Int := c.ls.dropLast ++ [c.last + t]
def Clb.ends (c : Clb) (g : Sq) : Bool := !(decide (c.st = combsP c.p) || decide (endP c.p c.st < hgtP c.p - g.2))
def Clb.go (c : Clb) (t : Int) (g : Sq) : Clb := if c.ends g = false then ⟨c.p, c.os, c.las t, g⟩ else ⟨c.p, c.os ++ [g], c.las t ++ [0], g⟩
def Clb.due (c : Clb) : Int := if c.st = combsP c.p then 0 else c.p * dueN c.p c.og c.st
structure KCl (K : PySem.W.Frag) (cs : Cs) : Prop where
  c : IsaC K cs.Climb
  ko : KOk K cs.Climb
  t : ∀ t ∈ tyNames, PySem.W.kitOne K (.type t) (.ref cs.Climb) = some false
  q : ∀ t ∈ tyNames, PySem.W.notFirst K cs.Climb (.type t) = true
  k : PySem.W.kitOne K (.ref cs.Climb) (.ref cs.Climb) = some true
  o_power : NoAttr K cs.Climb "power"
  o_height : NoAttr K cs.Climb "height"
  o_origins : NoAttr K cs.Climb "origins"
  o_lasted : NoAttr K cs.Climb "lasted"
  o_square : NoAttr K cs.Climb "square"
  o_turn : NoAttr K cs.Climb "turn"
section
variable {K : PySem.W.Frag} {cs : Cs} {c : Clb} {S : Store} {Q : QD}
theorem cl_power (kc : KCl K cs) (q : Q (.int c.p) S) : FldO K "power" (c.D cs) S Q := fldO_of rfl kc.c.cl kc.o_power rfl q
theorem cl_height (kc : KCl K cs) (q : Q (.int (hgtP c.p)) S) : FldO K "height" (c.D cs) S Q := fldO_of rfl kc.c.cl kc.o_height rfl q
theorem cl_origins (kc : KCl K cs) (q : Q (.tup (c.os.map sqD)) S) : FldO K "origins" (c.D cs) S Q := fldO_of rfl kc.c.cl kc.o_origins rfl q
theorem cl_lasted (kc : KCl K cs) (q : Q (.tup (c.ls.map .int)) S) : FldO K "lasted" (c.D cs) S Q := fldO_of rfl kc.c.cl kc.o_lasted rfl q
theorem cl_square (kc : KCl K cs) (q : Q (sqD c.q) S) : FldO K "square" (c.D cs) S Q := fldO_of rfl kc.c.cl kc.o_square rfl q
theorem cl_turn (kc : KCl K cs) (q : Q (.int c.ls.sum) S) : FldO K "turn" (c.D cs) S Q := fldO_of rfl kc.c.cl kc.o_turn rfl q
theorem is_cl (kc : KCl K cs) (q : Q (.bl true) S) : IsO K cs.Climb (c.D cs) S Q := ⟨true, .inr ⟨_, .inr ⟨_, _, rfl, kc.c, rfl⟩, kc.k⟩, q⟩
end
end NC
set_option Elab.async false
set_option linter.all false
set_option maxRecDepth 100000
set_option maxHeartbeats 4000000
namespace NC
open PySem PySem.Spec PyProof.Rows L2
local macro_rules | `(tactic| walk_at "nc hh") => `(tactic| repeat (first | (with_reducible first | refine nes_same ?_ | refine eqs_same ?_ | refine iteT ?_ | refine iteF ?_ | refine iteNT ?_ | refine iteNF ?_) | (with_reducible first | refine i_sIf ?_ | refine i_sNil ?_ | refine i_sRet ?_ | refine i_sAsg ?_ | refine i_sDrop ?_ | refine i_sPut ?_ | refine i_sPar ?_ | refine i_eC ?_ | refine i_eOp ?_ | refine i_eChain ?_ | refine i_eB ?_ | refine i_eUn ?_ | refine i_eTup ?_ | refine i_eLst ?_ | refine i_eLstM ?_ | refine i_eAnd ?_ | refine i_eOr ?_ | refine i_eNot ?_ | refine i_eIf ?_ | refine i_bOf ?_ | refine i_bAnd ?_ | refine i_bOr ?_ | refine i_bNot ?_ | refine i_bYes ?_ | refine i_aNil ?_ | refine i_aCons ?_ | refine i_eCall ?_ | refine i_eCallKw ?_ | refine i_eCut ?_ | refine i_oNone ?_ | refine i_oSome ?_ | refine i_eM ?_ | refine i_sSq ?_ | refine i_sRange1 ?_ | refine i_sRange2 ?_ | refine i_sEnum ?_ | refine i_eIsi ?_ | refine i_eIsi2 ?_ | refine i_eLc ?_ | refine i_eLcM ?_ | refine i_sFor ?_ | refine i_eDisp1 ?_ | refine i_bl ?_ | refine i_int ?_ | refine i_nm ?_ | refine i_one ?_ | refine i_two ?_ | refine i_rng ?_ | refine i_len0 ?_ | refine i_int1 ?_ | refine i_intb ?_ | refine i_abs ?_ | refine i_add ?_ | refine i_sub ?_ | refine i_lt ?_ | refine i_le ?_ | refine i_gt ?_ | refine i_ge ?_ | refine i_eqi ?_ | refine i_is ?_ | refine i_isn ?_ | refine i_nes ?_ | refine i_rbl ?_ | refine i_eCallX ?_ | refine i_eCallKwX ?_ | refine i_sRaiseF ?_ | refine i_eIsX ?_ | refine i_eFld ?_ | refine i_eDit1 ?_ | refine i_sTry ?_ | refine i_runX ?_ | refine i_ltU ?_ | refine i_isU ?_ | refine i_isnU ?_ | refine i_isS ?_ | refine i_isnS ?_ | refine i_isB ?_ | refine i_isnB ?_ | refine i_neg ?_ | refine i_eDcT ?_ | refine i_sPar3 ?_ | refine i_three ?_ | refine i_eFldU ?_ | refine i_eIsU ?_ | refine i_eFrzO ?_ | refine i_eMake ?_ | refine i_sFldP ?_ | refine i_eMeth ?_ | refine i_sWhile ?_ | refine i_aStar ?_ | refine i_eFn ?_ | refine i_sAsgL ?_ | refine i_sCont ?_ | refine i_sBrk ?_ | refine i_eDnT ?_ | refine i_eDnK ?_ | refine i_eDit1M ?_ | refine i_sDPutU ?_ | refine i_eListR2 ?_ | refine i_bool1 ?_ | refine i_eCName ?_ | refine i_sFlds ?_ | refine i_bTruL ?_ | refine i_eCutU ?_ | refine i_sStr ?_ | refine i_eJoined ?_ | refine i_dJs ?_ | refine i_dJn ?_ | refine i_eMakeX ?_ | refine i_eMethX ?_ | refine i_eFmt ?_ | refine i_eLc2 ?_ | refine i_sRng ?_ | refine i_sTryS ?_) | ((with_reducible refine i_eVarX ?_); refine ⟨_, rfl, ?_⟩) | ((with_reducible refine i_len1 ?_ ?_); · exact Nat.le_of_ble_eq_true rfl) | ((with_reducible first | refine i_ix0 ?_ | refine i_ix1 ?_ | refine i_ix2 ?_ | refine i_ix3 ?_); refine ⟨_, _, rfl, rfl, ?_⟩) | ((with_reducible refine i_tp ?_); refine ⟨_, by unfold bindT; rfl, ?_⟩) | ((with_reducible first | refine i_len ?_ | refine i_list ?_ | refine i_listU ?_ | refine i_tuple ?_ | refine i_sqE ?_); refine ⟨_, rfl, ?_⟩) | ((with_reducible refine i_modL ?_ ?_); · decide) | (with_reducible refine i_eqs ?_) | (with_reducible first | refine cl_power (by assumption) ?_ | refine cl_height (by assumption) ?_ | refine cl_origins (by assumption) ?_ | refine cl_lasted (by assumption) ?_ | refine cl_square (by assumption) ?_ | refine cl_turn (by assumption) ?_ | refine is_cl (by assumption) ?_ | refine st_wide (by assumption) ?_ | refine st_power (by assumption) ?_ | refine st_far (by assumption) ?_) | ((with_reducible refine i_kw ?_); refine ⟨rfl, rfl, ?_⟩)))
local macro_rules | `(tactic| walk_at "nc hs") => `(tactic| repeat (first | (with_reducible first | refine nes_same ?_ | refine eqs_same ?_ | refine iteT ?_ | refine iteF ?_ | refine iteNT ?_ | refine iteNF ?_) | (with_reducible first | refine i_sSeq ?_ | refine i_sIf ?_ | refine i_sNil ?_ | refine i_sRet ?_ | refine i_sAsg ?_ | refine i_sDrop ?_ | refine i_sPut ?_ | refine i_sPar ?_ | refine i_eC ?_ | refine i_eOp ?_ | refine i_eChain ?_ | refine i_eB ?_ | refine i_eUn ?_ | refine i_eTup ?_ | refine i_eLst ?_ | refine i_eLstM ?_ | refine i_eAnd ?_ | refine i_eOr ?_ | refine i_eNot ?_ | refine i_eIf ?_ | refine i_bOf ?_ | refine i_bAnd ?_ | refine i_bOr ?_ | refine i_bNot ?_ | refine i_bYes ?_ | refine i_aNil ?_ | refine i_aCons ?_ | refine i_eCall ?_ | refine i_eCallKw ?_ | refine i_eCut ?_ | refine i_oNone ?_ | refine i_oSome ?_ | refine i_eM ?_ | refine i_sSq ?_ | refine i_sRange1 ?_ | refine i_sRange2 ?_ | refine i_sEnum ?_ | refine i_eIsi ?_ | refine i_eIsi2 ?_ | refine i_eLc ?_ | refine i_eLcM ?_ | refine i_sFor ?_ | refine i_eDisp1 ?_ | refine i_bl ?_ | refine i_int ?_ | refine i_nm ?_ | refine i_one ?_ | refine i_two ?_ | refine i_rng ?_ | refine i_len0 ?_ | refine i_int1 ?_ | refine i_intb ?_ | refine i_abs ?_ | refine i_add ?_ | refine i_sub ?_ | refine i_lt ?_ | refine i_le ?_ | refine i_gt ?_ | refine i_ge ?_ | refine i_eqi ?_ | refine i_is ?_ | refine i_isn ?_ | refine i_nes ?_ | refine i_rbl ?_ | refine i_eCallX ?_ | refine i_eCallKwX ?_ | refine i_sRaiseF ?_ | refine i_eIsX ?_ | refine i_eFld ?_ | refine i_eDit1 ?_ | refine i_sTry ?_ | refine i_runX ?_ | refine i_ltU ?_ | refine i_isU ?_ | refine i_isnU ?_ | refine i_isS ?_ | refine i_isnS ?_ | refine i_isB ?_ | refine i_isnB ?_ | refine i_neg ?_ | refine i_eDcT ?_ | refine i_sPar3 ?_ | refine i_three ?_ | refine i_eFldU ?_ | refine i_eIsU ?_ | refine i_eFrzO ?_ | refine i_eMake ?_ | refine i_sFldP ?_ | refine i_eMeth ?_ | refine i_sWhile ?_ | refine i_aStar ?_ | refine i_eFn ?_ | refine i_sAsgL ?_ | refine i_sCont ?_ | refine i_sBrk ?_ | refine i_eDnT ?_ | refine i_eDnK ?_ | refine i_eDit1M ?_ | refine i_sDPutU ?_ | refine i_eListR2 ?_ | refine i_bool1 ?_ | refine i_eCName ?_ | refine i_sFlds ?_ | refine i_bTruL ?_ | refine i_eCutU ?_ | refine i_sStr ?_ | refine i_eJoined ?_ | refine i_dJs ?_ | refine i_dJn ?_ | refine i_eMakeX ?_ | refine i_eMethX ?_ | refine i_eFmt ?_ | refine i_eLc2 ?_ | refine i_sRng ?_ | refine i_sTryS ?_) | ((with_reducible refine i_eVarX ?_); refine ⟨_, rfl, ?_⟩) | ((with_reducible refine i_len1 ?_ ?_); · exact Nat.le_of_ble_eq_true rfl) | ((with_reducible first | refine i_ix0 ?_ | refine i_ix1 ?_ | refine i_ix2 ?_ | refine i_ix3 ?_); refine ⟨_, _, rfl, rfl, ?_⟩) | ((with_reducible refine i_tp ?_); refine ⟨_, by unfold bindT; rfl, ?_⟩) | ((with_reducible first | refine i_len ?_ | refine i_list ?_ | refine i_listU ?_ | refine i_tuple ?_ | refine i_sqE ?_); refine ⟨_, rfl, ?_⟩) | ((with_reducible refine i_modL ?_ ?_); · decide) | (with_reducible refine i_eqs ?_) | (with_reducible first | refine cl_power (by assumption) ?_ | refine cl_height (by assumption) ?_ | refine cl_origins (by assumption) ?_ | refine cl_lasted (by assumption) ?_ | refine cl_square (by assumption) ?_ | refine cl_turn (by assumption) ?_ | refine is_cl (by assumption) ?_ | refine st_wide (by assumption) ?_ | refine st_power (by assumption) ?_ | refine st_far (by assumption) ?_) | ((with_reducible refine i_kw ?_); refine ⟨rfl, rfl, ?_⟩)))
theorem set_get {S : Store} {n : Nat} {a b : Option SO} (h : S[n]? = some a) : (S.set n b)[n]? = some b := List.getElem?_set_self (List.getElem?_eq_some_iff.mp h).1
theorem eqd_sqs : ∀ a b : List Sq, eqd (.tup (a.map sqD)) (.tup (b.map sqD)) = decide (a = b)
  | [], [] => rfl
  | [], _ :: _ => rfl
  | _ :: _, [] => rfl
  | p :: a, q :: b => by
    have h := eqd_sqs a b
    have h1 := eqd_sq p q
    have e : eqd (.tup ((p :: a).map sqD)) (.tup ((q :: b).map sqD)) = (eqd (sqD p) (sqD q) && eqd (.tup (a.map sqD)) (.tup (b.map sqD))) := by
      simp [eqd, pd, pds, PyData.eqv, PyData.eqvAll]
    rw [e, h, h1]
    by_cases x : p = q <;> by_cases y : a = b <;> simp [x, y]
theorem fl_sqT (n : Nat) (a : List Sq) : fl (n + 2) (.tup (a.map sqD)) = true := by
  show fls (n + 1) (a.map sqD) = true
  exact fls_sq n a
theorem frz_end {S : Store} {C : Addr} {fs : List (Str × D)} {Q : QD} (q : ∀ S', Grow S S' → Q (.obj C fs) S') : frzO Q (.ref S.length) ((S ++ [some (SO.ins C [])]).set S.length (some (SO.ins C fs))) := by
  rw [List.set_append_right _ _ (Nat.le_refl _), Nat.sub_self]
  refine ⟨_, C, fs, rfl, at_end, ?_⟩
  rw [List.set_append_right _ _ (Nat.le_refl _), Nat.sub_self]
  exact q _ (Grow.add _ _)
theorem Clb.Ok.og {c : Clb} (h : c.Ok) : c.os.getD (c.os.length - 1) (0, 0) = c.og := by
  unfold Clb.og
  rw [List.getD_eq_getElem?_getD, List.getLastD_eq_getLast?, List.getLast?_eq_getElem?]
end NC
set_option Elab.async false
set_option linter.all false
set_option maxRecDepth 100000
set_option maxHeartbeats 4000000
namespace NC
open PySem PySem.Spec PyProof.Rows L2
end NC
set_option Elab.async false
set_option linter.all false
set_option maxRecDepth 100000
set_option maxHeartbeats 4000000
namespace NC
open PySem PySem.Spec PyProof.Rows L2
local macro_rules | `(tactic| walk_at "nc hs") => `(tactic| repeat (first | (with_reducible first | refine nes_same ?_ | refine eqs_same ?_ | refine iteT ?_ | refine iteF ?_ | refine iteNT ?_ | refine iteNF ?_) | (with_reducible first | refine i_sSeq ?_ | refine i_sIf ?_ | refine i_sNil ?_ | refine i_sRet ?_ | refine i_sAsg ?_ | refine i_sDrop ?_ | refine i_sPut ?_ | refine i_sPar ?_ | refine i_eC ?_ | refine i_eOp ?_ | refine i_eChain ?_ | refine i_eB ?_ | refine i_eUn ?_ | refine i_eTup ?_ | refine i_eLst ?_ | refine i_eLstM ?_ | refine i_eAnd ?_ | refine i_eOr ?_ | refine i_eNot ?_ | refine i_eIf ?_ | refine i_bOf ?_ | refine i_bAnd ?_ | refine i_bOr ?_ | refine i_bNot ?_ | refine i_bYes ?_ | refine i_aNil ?_ | refine i_aCons ?_ | refine i_eCall ?_ | refine i_eCallKw ?_ | refine i_eCut ?_ | refine i_oNone ?_ | refine i_oSome ?_ | refine i_eM ?_ | refine i_sSq ?_ | refine i_sRange1 ?_ | refine i_sRange2 ?_ | refine i_sEnum ?_ | refine i_eIsi ?_ | refine i_eIsi2 ?_ | refine i_eLc ?_ | refine i_eLcM ?_ | refine i_sFor ?_ | refine i_eDisp1 ?_ | refine i_bl ?_ | refine i_int ?_ | refine i_nm ?_ | refine i_one ?_ | refine i_two ?_ | refine i_rng ?_ | refine i_len0 ?_ | refine i_int1 ?_ | refine i_intb ?_ | refine i_abs ?_ | refine i_add ?_ | refine i_sub ?_ | refine i_lt ?_ | refine i_le ?_ | refine i_gt ?_ | refine i_ge ?_ | refine i_eqi ?_ | refine i_is ?_ | refine i_isn ?_ | refine i_nes ?_ | refine i_rbl ?_ | refine i_eCallX ?_ | refine i_eCallKwX ?_ | refine i_sRaiseF ?_ | refine i_eIsX ?_ | refine i_eFld ?_ | refine i_eDit1 ?_ | refine i_sTry ?_ | refine i_runX ?_ | refine i_ltU ?_ | refine i_isU ?_ | refine i_isnU ?_ | refine i_isS ?_ | refine i_isnS ?_ | refine i_isB ?_ | refine i_isnB ?_ | refine i_neg ?_ | refine i_eDcT ?_ | refine i_sPar3 ?_ | refine i_three ?_ | refine i_eFldU ?_ | refine i_eIsU ?_ | refine i_eFrzO ?_ | refine i_eMake ?_ | refine i_sFldP ?_ | refine i_eMeth ?_ | refine i_sWhile ?_ | refine i_aStar ?_ | refine i_eFn ?_ | refine i_sAsgL ?_ | refine i_sCont ?_ | refine i_sBrk ?_ | refine i_eDnT ?_ | refine i_eDnK ?_ | refine i_eDit1M ?_ | refine i_sDPutU ?_ | refine i_eListR2 ?_ | refine i_bool1 ?_ | refine i_eCName ?_ | refine i_sFlds ?_ | refine i_bTruL ?_ | refine i_eCutU ?_ | refine i_sStr ?_ | refine i_eJoined ?_ | refine i_dJs ?_ | refine i_dJn ?_ | refine i_eMakeX ?_ | refine i_eMethX ?_ | refine i_eFmt ?_ | refine i_eLc2 ?_ | refine i_sRng ?_ | refine i_sTryS ?_) | ((with_reducible refine i_eVarX ?_); refine ⟨_, rfl, ?_⟩) | ((with_reducible refine i_len1 ?_ ?_); · exact Nat.le_of_ble_eq_true rfl) | ((with_reducible first | refine i_ix0 ?_ | refine i_ix1 ?_ | refine i_ix2 ?_ | refine i_ix3 ?_); refine ⟨_, _, rfl, rfl, ?_⟩) | ((with_reducible refine i_tp ?_); refine ⟨_, by unfold bindT; rfl, ?_⟩) | ((with_reducible first | refine i_len ?_ | refine i_list ?_ | refine i_listU ?_ | refine i_tuple ?_ | refine i_sqE ?_); refine ⟨_, rfl, ?_⟩) | ((with_reducible refine i_modL ?_ ?_); · decide) | (with_reducible refine i_eqs ?_) | (with_reducible first | refine cl_power (by assumption) ?_ | refine cl_height (by assumption) ?_ | refine cl_origins (by assumption) ?_ | refine cl_lasted (by assumption) ?_ | refine cl_square (by assumption) ?_ | refine cl_turn (by assumption) ?_ | refine is_cl (by assumption) ?_ | refine st_wide (by assumption) ?_ | refine st_power (by assumption) ?_ | refine st_far (by assumption) ?_) | ((with_reducible refine i_kw ?_); refine ⟨rfl, rfl, ?_⟩)))
def eFn (f : Addr) : TD := fun _ S Q => Q (.fnc f) S
theorem de_fn {X : Cx} {G : Gh} {x : Str} {f f' : Addr} {pos : Pos} (hm : X.mg x = some (.ref f)) (z : f' = f) (hg : Gl X x := by rfl) (hd : (x == ("__debug__" : Str)) = false := by decide) : PE X (.Name x pos) (tE X.K G (eFn f')) := by
  subst z
  exact (pe_glob (v := .ref f') hg hm rfl hd).imp fun σ H Q ⟨Y, β, S, ρ, Q', rl, q, k⟩ => k _ S _ β H (.refl rl.ok) .fnc q
inductive CallsG (X : Cx) (T : List (Addr × Str)) : List (Addr × RDx) → Prop
  | nil : CallsG X T []
  | cons {f f' : Addr} {k : Nat} {fd : FuncData} {ps : List Str} {r : RDx} {rs : List (Addr × RDx)} : FnG X.prog X.w X.K X.mg X.base (L2.CX X.prog X.w) k f fd ps (lspx X.K T r) → Room k X.A → PySem.W.keepIn X.K (.ref f) = true → Binds X.K fd ps [] → f' = f → CallsG X T rs → CallsG X T ((f', r) :: rs)
def eCallV (i : Nat) (rs : List (Addr × RDx)) (ED : XD) (tl : TLs) : TD := fun ρ S Q => ∃ f r, (f, r) ∈ rs ∧ ρ[i]? = some (some (.fnc f)) ∧ tl ρ S fun xs S1 => r xs S1 Q ED
theorem CallsG.of {X : Cx} {T : List (Addr × Str)} {f : Addr} {r : RDx} : ∀ {rs : List (Addr × RDx)}, CallsG X T rs → (f, r) ∈ rs → ∃ k fd ps, FnG X.prog X.w X.K X.mg X.base (L2.CX X.prog X.w) k f fd ps (lspx X.K T r) ∧ Room k X.A ∧ PySem.W.keepIn X.K (.ref f) = true ∧ Binds X.K fd ps []
  | [], _, h => nomatch h
  | (g, s) :: rs, .cons F hr hk hb z c, h => by
    rcases List.mem_cons.mp h with e | e
    · cases e
      subst z
      exact ⟨_, _, _, F, hr, hk, hb⟩
    · exact c.of e
section
variable {L : List W0} {X : Cx} {k i : Nat} {f : Addr} {fd : FuncData} {ps : List Str} {x : Str} {p pos : Pos} {e : Expr} {es : List Expr} {r : RDx} {rs : List (Addr × RDx)} {tl : TLs} {ED : XD} {w0 : W0} {T : List (Addr × Str)} {CX : CXT} {sp : Sp} {E : XK} {t : TA}
theorem pe_callV (F : FnG X.prog X.w X.K X.mg X.base CX k f fd ps sp) (hr : Room k X.A) (hgd : X.A.guards = some []) (hN : X.N[i]? = some x) (hv : Vis X.env.scope x) (hk : PySem.W.keepIn X.K (.ref f) = true) (hb : Binds X.K fd ps []) (hx : Passes CX X E)
    (ha : PA X (e :: es) t) (hdb : (x == ("__debug__" : Str)) = false := by decide) (hcd : (x == ("__classdict__" : Str)) = false := by decide) (he : starEach (e :: es) X.env = (false, eval e X.env) :: starEach es X.env := by rfl) (hpl : (backTo pos (starEach es X.env)).any (·.1) = false := by rfl) :
    PE X (.Call (.Name x p) (e :: es) [] pos) (fun σ H Q => σ[i]? = some (some (.ref f)) ∧ tCallG sp [] E t σ H Q) := by
  constructor
  rintro pins s σ H Q I ⟨at_i, h⟩
  apply wpAny_Call_Name_kw
  refine thn ((pe_var (pos := p) (i := i) hN hv hdb hcd).run pins s σ H (fun v H1 => v = .ref f ∧ H1 = H) I ⟨.ref f, at_i, rfl, rfl⟩) ?_
  rintro u s0 ⟨v, H0, I0, rv, rfl, rfl⟩
  obtain rfl : u = Value.ref f := rv
  apply PySem.W.callWith_K (h₀ := X.base) I0.ok.mod.kin hk _ he hpl
  refine thn (ha.run pos pins s0 σ H0 _ I0 h) ?_
  rintro us s1 ⟨vs, H1, I1, r, q⟩
  have r2 : Vals (vs ++ []) (us ++ []) := r.append .nil
  exact ⟨I1.kIn, runG F hr hgd (hb s1 us I1.kIn (by rw [← r2.length]; exact F.many _ _ _ _ q)) hx I1 r2 q⟩
theorem de_callV (tk : Takes X (fun cls d _ H => WD X.K T w0 ED cls d H)) (c : CallsG X T rs) (hgd : X.A.guards = some []) (hN : X.N[i]? = some x) (hv : Vis X.env.scope x)
    (ha : PA X (e :: es) (tA X.K ⟨w0 :: L, T⟩ tl)) (hdb : (x == ("__debug__" : Str)) = false := by decide) (hcd : (x == ("__classdict__" : Str)) = false := by decide) (he : starEach (e :: es) X.env = (false, eval e X.env) :: starEach es X.env := by rfl) (hpl : (backTo pos (starEach es X.env)).any (·.1) = false := by rfl) :
    PE X (.Call (.Name x p) (e :: es) [] pos) (tE X.K ⟨w0 :: L, T⟩ (eCallV i rs ED tl)) := by
  constructor
  rintro pins s σ H Q I ⟨Y, β, S, ρ, Q', rl, ⟨f, r, mem, hρ, q⟩, kk⟩
  obtain ⟨k, fd, ps, F, hr, hk, hb⟩ := c.of mem
  obtain ⟨v, ev, rv⟩ := rl.get i _ hρ
  cases rv
  refine (pe_callV F hr hgd hN hv hk hb (passX tk) ha hdb hcd he hpl).run pins s σ H Q I ⟨ev, Y, β, S, ρ, _, rl, q, fun xs S1 vs β1 H1 s1 r1 q1 => ?_⟩
  show lspx X.K T r (vs ++ []) H1 Q _
  rw [List.append_nil]
  exact ⟨Y, β1, S1, xs, Q', ED, s1.ok.free, r1, q1, fun z S3 w β3 H3 s3 r3 q3 => kk z S3 w β3 H3 (s1.trans (s3.back s1.ok)) r3 q3, fun cls d H' h => h.up (s1.ok.gh w0 (List.mem_cons_self ..))⟩
end
section
variable {ρ : Rho} {S : Store} {Q : QD} {f : Addr} {i : Nat} {rs : List (Addr × RDx)} {ED : XD} {tl : TLs}
theorem i_eFn (h : Q (.fnc f) S) : eFn f ρ S Q := h
theorem i_eCallV {r : RDx} (hm : (f, r) ∈ rs) (hρ : ρ[i]? = some (some (.fnc f))) (h : tl ρ S fun xs S1 => r xs S1 Q ED) : eCallV i rs ED tl ρ S Q := ⟨f, r, hm, hρ, h⟩
end
end NC
set_option Elab.async false
set_option linter.all false
set_option maxRecDepth 100000
set_option maxHeartbeats 4000000
namespace NC
open PySem PySem.Spec PyProof.Rows L2
local macro_rules | `(tactic| walk_at "nc hh") => `(tactic| repeat (first | (with_reducible first | refine nes_same ?_ | refine eqs_same ?_ | refine iteT ?_ | refine iteF ?_ | refine iteNT ?_ | refine iteNF ?_) | (with_reducible first | refine i_sIf ?_ | refine i_sNil ?_ | refine i_sRet ?_ | refine i_sAsg ?_ | refine i_sDrop ?_ | refine i_sPut ?_ | refine i_sPar ?_ | refine i_eC ?_ | refine i_eOp ?_ | refine i_eChain ?_ | refine i_eB ?_ | refine i_eUn ?_ | refine i_eTup ?_ | refine i_eLst ?_ | refine i_eLstM ?_ | refine i_eAnd ?_ | refine i_eOr ?_ | refine i_eNot ?_ | refine i_eIf ?_ | refine i_bOf ?_ | refine i_bAnd ?_ | refine i_bOr ?_ | refine i_bNot ?_ | refine i_bYes ?_ | refine i_aNil ?_ | refine i_aCons ?_ | refine i_eCall ?_ | refine i_eCallKw ?_ | refine i_eCut ?_ | refine i_oNone ?_ | refine i_oSome ?_ | refine i_eM ?_ | refine i_sSq ?_ | refine i_sRange1 ?_ | refine i_sRange2 ?_ | refine i_sEnum ?_ | refine i_eIsi ?_ | refine i_eIsi2 ?_ | refine i_eLc ?_ | refine i_eLcM ?_ | refine i_sFor ?_ | refine i_eDisp1 ?_ | refine i_bl ?_ | refine i_int ?_ | refine i_nm ?_ | refine i_one ?_ | refine i_two ?_ | refine i_rng ?_ | refine i_len0 ?_ | refine i_int1 ?_ | refine i_intb ?_ | refine i_abs ?_ | refine i_add ?_ | refine i_sub ?_ | refine i_lt ?_ | refine i_le ?_ | refine i_gt ?_ | refine i_ge ?_ | refine i_eqi ?_ | refine i_is ?_ | refine i_isn ?_ | refine i_nes ?_ | refine i_rbl ?_ | refine i_eCallX ?_ | refine i_eCallKwX ?_ | refine i_sRaiseF ?_ | refine i_eIsX ?_ | refine i_eFld ?_ | refine i_eDit1 ?_ | refine i_sTry ?_ | refine i_runX ?_ | refine i_ltU ?_ | refine i_isU ?_ | refine i_isnU ?_ | refine i_isS ?_ | refine i_isnS ?_ | refine i_isB ?_ | refine i_isnB ?_ | refine i_neg ?_ | refine i_eDcT ?_ | refine i_sPar3 ?_ | refine i_three ?_ | refine i_eFldU ?_ | refine i_eIsU ?_ | refine i_eFrzO ?_ | refine i_eMake ?_ | refine i_sFldP ?_ | refine i_eMeth ?_ | refine i_sWhile ?_ | refine i_aStar ?_ | refine i_eFn ?_ | refine i_sAsgL ?_ | refine i_sCont ?_ | refine i_sBrk ?_ | refine i_eDnT ?_ | refine i_eDnK ?_ | refine i_eDit1M ?_ | refine i_sDPutU ?_ | refine i_eListR2 ?_ | refine i_bool1 ?_ | refine i_eCName ?_ | refine i_sFlds ?_ | refine i_bTruL ?_ | refine i_eCutU ?_ | refine i_sStr ?_ | refine i_eJoined ?_ | refine i_dJs ?_ | refine i_dJn ?_ | refine i_eMakeX ?_ | refine i_eMethX ?_ | refine i_eFmt ?_ | refine i_eLc2 ?_ | refine i_sRng ?_ | refine i_sTryS ?_) | ((with_reducible refine i_eVarX ?_); refine ⟨_, rfl, ?_⟩) | ((with_reducible refine i_len1 ?_ ?_); · exact Nat.le_of_ble_eq_true rfl) | ((with_reducible first | refine i_ix0 ?_ | refine i_ix1 ?_ | refine i_ix2 ?_ | refine i_ix3 ?_); refine ⟨_, _, rfl, rfl, ?_⟩) | ((with_reducible refine i_tp ?_); refine ⟨_, by unfold bindT; rfl, ?_⟩) | ((with_reducible first | refine i_len ?_ | refine i_list ?_ | refine i_listU ?_ | refine i_tuple ?_ | refine i_sqE ?_); refine ⟨_, rfl, ?_⟩) | ((with_reducible refine i_modL ?_ ?_); · decide) | (with_reducible refine i_eqs ?_) | (with_reducible first | refine cl_power (by assumption) ?_ | refine cl_height (by assumption) ?_ | refine cl_origins (by assumption) ?_ | refine cl_lasted (by assumption) ?_ | refine cl_square (by assumption) ?_ | refine cl_turn (by assumption) ?_ | refine is_cl (by assumption) ?_ | refine st_wide (by assumption) ?_ | refine st_power (by assumption) ?_ | refine st_far (by assumption) ?_) | ((with_reducible refine i_kw ?_); refine ⟨rfl, rfl, ?_⟩)))
local macro_rules | `(tactic| walk_at "nc hs") => `(tactic| repeat (first | (with_reducible first | refine nes_same ?_ | refine eqs_same ?_ | refine iteT ?_ | refine iteF ?_ | refine iteNT ?_ | refine iteNF ?_) | (with_reducible first | refine i_sSeq ?_ | refine i_sIf ?_ | refine i_sNil ?_ | refine i_sRet ?_ | refine i_sAsg ?_ | refine i_sDrop ?_ | refine i_sPut ?_ | refine i_sPar ?_ | refine i_eC ?_ | refine i_eOp ?_ | refine i_eChain ?_ | refine i_eB ?_ | refine i_eUn ?_ | refine i_eTup ?_ | refine i_eLst ?_ | refine i_eLstM ?_ | refine i_eAnd ?_ | refine i_eOr ?_ | refine i_eNot ?_ | refine i_eIf ?_ | refine i_bOf ?_ | refine i_bAnd ?_ | refine i_bOr ?_ | refine i_bNot ?_ | refine i_bYes ?_ | refine i_aNil ?_ | refine i_aCons ?_ | refine i_eCall ?_ | refine i_eCallKw ?_ | refine i_eCut ?_ | refine i_oNone ?_ | refine i_oSome ?_ | refine i_eM ?_ | refine i_sSq ?_ | refine i_sRange1 ?_ | refine i_sRange2 ?_ | refine i_sEnum ?_ | refine i_eIsi ?_ | refine i_eIsi2 ?_ | refine i_eLc ?_ | refine i_eLcM ?_ | refine i_sFor ?_ | refine i_eDisp1 ?_ | refine i_bl ?_ | refine i_int ?_ | refine i_nm ?_ | refine i_one ?_ | refine i_two ?_ | refine i_rng ?_ | refine i_len0 ?_ | refine i_int1 ?_ | refine i_intb ?_ | refine i_abs ?_ | refine i_add ?_ | refine i_sub ?_ | refine i_lt ?_ | refine i_le ?_ | refine i_gt ?_ | refine i_ge ?_ | refine i_eqi ?_ | refine i_is ?_ | refine i_isn ?_ | refine i_nes ?_ | refine i_rbl ?_ | refine i_eCallX ?_ | refine i_eCallKwX ?_ | refine i_sRaiseF ?_ | refine i_eIsX ?_ | refine i_eFld ?_ | refine i_eDit1 ?_ | refine i_sTry ?_ | refine i_runX ?_ | refine i_ltU ?_ | refine i_isU ?_ | refine i_isnU ?_ | refine i_isS ?_ | refine i_isnS ?_ | refine i_isB ?_ | refine i_isnB ?_ | refine i_neg ?_ | refine i_eDcT ?_ | refine i_sPar3 ?_ | refine i_three ?_ | refine i_eFldU ?_ | refine i_eIsU ?_ | refine i_eFrzO ?_ | refine i_eMake ?_ | refine i_sFldP ?_ | refine i_eMeth ?_ | refine i_sWhile ?_ | refine i_aStar ?_ | refine i_eFn ?_ | refine i_sAsgL ?_ | refine i_sCont ?_ | refine i_sBrk ?_ | refine i_eDnT ?_ | refine i_eDnK ?_ | refine i_eDit1M ?_ | refine i_sDPutU ?_ | refine i_eListR2 ?_ | refine i_bool1 ?_ | refine i_eCName ?_ | refine i_sFlds ?_ | refine i_bTruL ?_ | refine i_eCutU ?_ | refine i_sStr ?_ | refine i_eJoined ?_ | refine i_dJs ?_ | refine i_dJn ?_ | refine i_eMakeX ?_ | refine i_eMethX ?_ | refine i_eFmt ?_ | refine i_eLc2 ?_ | refine i_sRng ?_ | refine i_sTryS ?_) | ((with_reducible refine i_eVarX ?_); refine ⟨_, rfl, ?_⟩) | ((with_reducible refine i_len1 ?_ ?_); · exact Nat.le_of_ble_eq_true rfl) | ((with_reducible first | refine i_ix0 ?_ | refine i_ix1 ?_ | refine i_ix2 ?_ | refine i_ix3 ?_); refine ⟨_, _, rfl, rfl, ?_⟩) | ((with_reducible refine i_tp ?_); refine ⟨_, by unfold bindT; rfl, ?_⟩) | ((with_reducible first | refine i_len ?_ | refine i_list ?_ | refine i_listU ?_ | refine i_tuple ?_ | refine i_sqE ?_); refine ⟨_, rfl, ?_⟩) | ((with_reducible refine i_modL ?_ ?_); · decide) | (with_reducible refine i_eqs ?_) | (with_reducible first | refine cl_power (by assumption) ?_ | refine cl_height (by assumption) ?_ | refine cl_origins (by assumption) ?_ | refine cl_lasted (by assumption) ?_ | refine cl_square (by assumption) ?_ | refine cl_turn (by assumption) ?_ | refine is_cl (by assumption) ?_ | refine st_wide (by assumption) ?_ | refine st_power (by assumption) ?_ | refine st_far (by assumption) ?_) | ((with_reducible refine i_kw ?_); refine ⟨rfl, rfl, ?_⟩)))
def topP (p : Int) : Nat → Int
  | 0 => hgtP p
  | s + 1 => endP p s
def Clb.fin (c : Clb) (n : Int) (g : Sq) : Clb := ⟨c.p, c.os ++ [g], c.ls.dropLast ++ [c.last + n] ++ [0], g⟩
theorem grow_head {o : SO} {T S' : Store} (g : Grow (some o :: T) S') : ∃ T', S' = some o :: T' ∧ Grow T T' := by
  obtain ⟨E, rfl⟩ := g
  exact ⟨T ++ E, rfl, Grow.add _ _⟩
structure Led (p : Int) (i : Nat) (c : Clb) : Prop where
  ok : c.Ok
  pe : c.p = p
  ol : c.os.length = i + 1
  top : hgtP p - c.q.2 = topP p i
  la : c.last = 0
theorem Led.pw {p : Int} {i : Nat} {c : Clb} (h : Led p i c) : Pw p := h.pe ▸ h.ok.pw
theorem Led.st {p : Int} {i : Nat} {c : Clb} (h : Led p i c) : c.st = i := by
  have := h.ol
  unfold Clb.st
  omega
end NC
set_option Elab.async false
set_option linter.all false
set_option maxRecDepth 100000
set_option maxHeartbeats 1000000
namespace NC
open PySem PySem.Spec PyProof.Rows L2
section
variable {P : Program} {w : World} {h : Heap} {A : Around} {E : Value → Shared → Prop} {s : Shared}
end
--MK
section
variable {X : Cx} {pins : List (Addr × Obj)} {σ : L2.St} {H : Hp} {s : Shared} {β : List Addr}
end
section
variable {X : Cx} {G : Gh} {pins : List (Addr × Obj)} {σ : L2.St} {H : Hp} {s : Shared}
end
end NC
set_option Elab.async false
set_option linter.all false
set_option maxRecDepth 100000
set_option maxHeartbeats 1000000
namespace NC
open PySem PySem.Spec PyProof.Rows L2
theorem i_isS {b : Bool} {S : Store} {Q : QD} (h : Q (.bl true) S) : rIsU (.bl b) (.bl b) S Q := .inr ⟨b, b, rfl, rfl, by rw [decide_eq_true rfl]; exact h⟩
structure Dn (p : Int) (i : Nat) (r : Int) (c : Clb) : Prop where
  ok : c.Ok
  pe : c.p = p
  ol : c.os.length = i + 1
  la : c.last = 0
  og : c.og = c.q
  top : hgtP p - c.q.2 = topP p i - r
  r0 : 0 ≤ r
  r1 : r < p
  ic : (i : Int) ≤ combsP p
  old : ∀ j, j < i → p * dueN p (c.os.getD j (0, 0)) j ≤ c.ls.getD j 0 ∧ -(p * (c.q.2 - (c.os.getD j (0, 0)).2)) ≤ c.q.1 - (c.os.getD j (0, 0)).1 ∧ c.q.1 - (c.os.getD j (0, 0)).1 ≤ p * (c.q.2 - (c.os.getD j (0, 0)).2)
  all : ∀ o ∈ c.os, -(p * hgtP p) ≤ o.1 ∧ o.1 ≤ p * hgtP p ∧ 0 ≤ o.2 ∧ o.2 ≤ hgtP p
  xq : -(p * c.q.2) ≤ c.q.1 ∧ c.q.1 ≤ p * c.q.2
  y0 : 0 ≤ c.q.2
section
variable {p r : Int} {i : Nat} {c : Clb}
theorem Dn.pw (h : Dn p i r c) : Pw p := h.pe ▸ h.ok.pw
theorem Dn.st (h : Dn p i r c) : c.st = i := by
  have := h.ol
  unfold Clb.st
  omega
end
end NC
set_option Elab.async false
set_option linter.all false
set_option maxRecDepth 100000
set_option maxHeartbeats 1000000
namespace NC
open PySem PySem.Spec PyProof.Rows L2
open Evl (Ex)
section
variable {X : Cx} {G : Gh} {pos : Pos}
end
section
variable {K : PySem.W.Frag} {G : Gh} {Y β β' : List Addr} {S S' : Store} {H H' : Hp} {a : Addr}
theorem Ok.tupAt (o : Ok K G Y β S H) {q : Addr} {us : List V} (h : H q = some (.tup us)) : hid Y β S H q = some (.tup us) := by
  rw [hid_of]
  · exact h
  · exact fun z => o.tb.nt q z us h
  · intro n so e1 e2
    obtain ⟨b, e3, r⟩ := o.obj n so e2
    rw [e1] at e3
    cases e3
    cases so with
    | lst _ => obtain ⟨_, z, _⟩ := r; rw [h] at z; cases z
    | exc _ _ => obtain ⟨_, _, z, _⟩ := r; rw [h] at z; unfold excH at z; cases z
    | fn _ _ => obtain ⟨_, z⟩ := r; rw [h] at z; unfold fnH at z; cases z
    | dct _ => obtain ⟨_, z, _⟩ := r; rw [h] at z; cases z
    | dtt _ => obtain ⟨_, z, _⟩ := r; rw [h] at z; cases z
    | dcl _ _ _ => obtain ⟨z, _⟩ := r; rw [h] at z; cases z
    | dtl _ _ _ => obtain ⟨z, _⟩ := r; rw [h] at z; cases z
    | ins _ _ => obtain ⟨_, _, z, _⟩ := r; rw [h] at z; cases z
    | rng _ _ => have z : _ = _ := r; rw [h] at z; cases z
theorem Reps.ofKeys {B : Hp} : ∀ {ks : List Key}, Reps K B β (ks.map kV) (ks.map kD)
  | [] => .nil
  | .inl i :: ks => .cons (.int i) Reps.ofKeys
  | .inr x :: ks => .cons (.str x) Reps.ofKeys
theorem Ok.keyAt (o : Ok K G Y β S H) {q : Addr} {ks : List Key} (h : H q = some (.tup (ks.map kV))) : Rep K (hid Y β S H) β (.ref q) (.tup (ks.map kD)) := .tup (o.tupAt h) Reps.ofKeys
end
section
variable {X : Cx} {G : Gh} {o i value : Expr} {pos pos' : Pos} {td tk tv : TD}
end
section
variable {X : Cx} {G : Gh} {iter tg : Expr} {pos : Pos} {body : List Stmt} {t : Tg} {tb : TSd}
end
def rListDi : RDs := fun xs S Q => ∃ x kvs, xs = [x] ∧ drf S x = .dit kvs ∧ Q (.lst (kvs.map fun p => .tup (p.1.map kD))) S
theorem reps_keys {K : PySem.W.Frag} {G : Gh} {Y β : List Addr} {S : Store} {H B : Hp} (o : Ok K G Y β S H) : ∀ {kvs : List (List Key × D)} {us : List (List Key × V)} {bs : List Addr}, RepT K B β us kvs → IsKeys H us bs → Reps K (hid Y β S H) β (bs.map V.ref) (kvs.map fun p => .tup (p.1.map kD))
  | [], _, _, r, h => by
    cases r
    cases h
    exact .nil
  | (k, d) :: kvs, _, _, r, h => by
    cases r with
    | cons r1 r2 =>
      cases h with
      | cons h1 h2 => exact .cons (o.keyAt h1) (reps_keys o r2 h2)
theorem c_listDi {X : Cx} {G : Gh} (hc : X.calm = true) : CallR X (.type "list") (ls X.K G rListDi) := by
  intro pins s σ H vs us Q I rv ⟨Y, β, S, xs, Q', o, rs, ⟨x, kvs, exs, ex, q⟩, k⟩
  subst exs
  obtain ⟨v, rfl, r1⟩ := rs.one
  have r1' := o.drf r1
  rw [ex] at r1'
  cases r1' with
  | @dit a us' _ hH rT =>
    refine call_list_dT hc pins s σ H _ us Q I rv ⟨a, us', rfl, .inl hH, fun p bs hp hk => ?_⟩
    have st := o.new (.lst (bs.map V.ref)) hp
    exact k _ S _ β _ st (o.newLst hp (reps_keys o rT hk)) q
def rListU : RDs := fun xs S Q => rList xs S Q ∨ rListDi xs S Q
theorem ls_or {K : PySem.W.Frag} {G : Gh} {r r' : RDs} {vs : List V} {H : Hp} {Q : VK} (h : ls K G (fun xs S Q => r xs S Q ∨ r' xs S Q) vs H Q) : ls K G r vs H Q ∨ ls K G r' vs H Q := by
  obtain ⟨Y, β, S, xs, Q', o, rs, q | q, k⟩ := h
  · exact .inl ⟨Y, β, S, xs, Q', o, rs, q, k⟩
  · exact .inr ⟨Y, β, S, xs, Q', o, rs, q, k⟩
theorem call_orD {X : Cx} {G : Gh} {f : Value} {r r' : RDs} (h : CallR X f (ls X.K G r)) (h' : CallR X f (ls X.K G r')) : CallR X f (ls X.K G fun xs S Q => r xs S Q ∨ r' xs S Q) := fun pins s σ H xs us Q I rx q => (ls_or q).elim (h pins s σ H xs us Q I rx) (h' pins s σ H xs us Q I rx)
section
variable {X : Cx} {G : Gh} {k v : Expr} {ta tb : TD} {pos : Pos}
end
section
variable {S : Store} {Q : QD} {x : D} {ρ : Rho} {N : DN} {ta : TD} {ts : List Tg}
theorem i_listU (h : ∃ ys, seqOf (drf S x) = some ys ∧ Q (.lst ys) S) : rListU [x] S Q := .inl (i_list h)
end
end NC
set_option Elab.async false
set_option linter.all false
set_option maxRecDepth 100000
set_option maxHeartbeats 1000000
namespace NC
open PySem PySem.Spec PyProof.Rows L2
open PySem.W
section
variable {prog : Program} {w : World} {A : Around} {E : Value → Shared → Prop} {s : Shared} {K : PySem.W.Frag} {x C L f : Addr} {h₀ : Heap} {m : Str → Option Value} {ox : Obj} {od : Option Obj} {b tb : Value}
theorem ne_slot : Slot "object" "__ne__" "object.__ne__" :=
  Slot.of (T := "object") (name := "__ne__") (owner := "object") (n := "__ne__") (by rw [typeLookup_type, builtinLookup_eq_fast]; kernel_rfl) (by decide +kernel) (by decide +kernel) (by decide +kernel)
    (.inl (by decide +kernel)) (by rw [isSubtype_type]; kernel_rfl)
theorem ne_args (a b : Value) : argsOk "object.__ne__" ⟨[a, b], []⟩ := by unfold argsOk; kernel_rfl
theorem ifBuilt_K {M : Model} {args : List Value} {name : Str} {id : String} {Q : Option Value → Shared → Prop} (X : K.In s.heap) (I : InstAt s.heap x ox C od) (hs : findIn K (.ref C) name = some (some (.builtin id))) (hb : ∀ self, bindSpecial (.builtin id) self = pure (.builtin id, [self]))
    (h : wpAny M A (call (.builtin id) (.ref x :: args)) (fun v => Q (some v)) E s) : wpAny M A (callSpecialIfBound? (.ref x) name args) Q E s := by
  simp only [callSpecialIfBound?, bindSpecialIfBound?]
  refine wpAny_holding (wpAny_bind (wpAny_bind (wpAny_bind (I.type.here ((PySem.W.looks_findIn X hs).here ?_)))))
  refine wpAny_bind (wpAny_askSetting (wpAny_ite ?_))
  have fin : wpAny M A (call (.builtin id) ([.ref x] ++ args) >>= fun v => pure (some v)) Q E s := wpAny_bind (wpAny_mono h (fun v s' h' => wpAny_pure h') fun _ _ h' => h')
  simp only [hb]
  split
  · exact wpAny_bind (wpAny_pure (wpAny_pure fin))
  · exact wpAny_tryCatch (wpAny_bind (wpAny_pure (wpAny_pure fin)))
theorem neO_body {Q : Fin → Shared → Prop} (hu : A.units < cLine) (X : K.In s.heap) (I : InstAt s.heap x ox C od) (hs : findIn K (.ref C) "__eq__" = some (some (.ref f))) (hf : isFn K (.ref f) = true)
    (h : wpAny (model prog w) A (call (.ref f) [.ref x, b]) (fun v s' => ∃ k, v = .bool k ∧ Q (.done (.ret (.bool (!k)))) s') E s) :
    wpAny (model prog w) A (Builtin.«object.__ne__» ⟨[.ref x, b], []⟩) Q E s := by
  unfold Builtin.«object.__ne__»
  repeat (first
    | with_reducible refine wpAny_cRoomFor hu ?_
    | (refine wpAny_bind (m := callSpecialIfBound? (.ref x) (Str.ofString "__eq__") [b])
        (PySem.W.ifBound_K X I hs hf (wpAny_mono h (fun r s' hr => by
          obtain ⟨b, rfl, hq⟩ := hr
          repeat (first | exact hq | exact wpAny_pure hq | exact wpAny_truthy_bool hq | (refine wpAny_bind (m := truthy (.bool _)) (wpAny_truthy_bool ?_)) | wp_step)) fun _ _ e => e)))
    | wp_step)
theorem neO_K {Q : Value → Shared → Prop} (hu : A.units + 1 < cLine) (F : PyProof.Rows.Fr h₀ L s.heap m) (X₀ : K.In h₀) (I : InstAt s.heap x ox C od) (hb : Looks (model prog w) s.heap (typeOf b) tb) (hn : notFirst K C tb = true)
    (hne : findIn K (.ref C) "__ne__" = some (some (.builtin "object.__ne__"))) (hm : mroIn K C (.type "object") = some true) (hs : findIn K (.ref C) "__eq__" = some (some (.ref f))) (hf : isFn K (.ref f) = true)
    (h : wpAny (model prog w) A.in1 (call (.ref f) [.ref x, b]) (fun v s' => ∃ k, v = .bool k ∧ Q (.bool (!k)) s') E s) : wpAny (model prog w) A (richCompare .NotEq (.ref x) b) Q E s := by
  have X := X₀.keeps F.keep
  have sub : Looks (model prog w) s.heap (isInstance (.ref x) (.type "object")) true := I.type.andThen (PySem.W.looks_mroIn X hm)
  have one : wpAny (model prog w) A (tryCompare (.ref x) "__ne__" b) (fun r s' => ∃ v, r = some v ∧ Q v s') E s := by
    unfold tryCompare
    refine wpAny_bind (ifBuilt_K X I hne ne_slot.bind (wpAny_call (codeAny_call_builtin ne_slot.plain PySem.F.cmpEntry_ne (PySem.W.check_slot PySem.F.cmpKind_ne PySem.F.cmpSplit_ne sub (ne_args _ _)
      (neO_body (A := A.in1) hu X I hs hf (wpAny_mono h (fun v s' hv => ?_) fun _ _ e => e))))))
    obtain ⟨k, rfl, hq⟩ := hv
    exact ⟨k, rfl, wpAny_pure ⟨_, rfl, hq⟩⟩
  unfold richCompare
  simp only [oneThing_ref]
  refine wpAny_holding (wpAny_bind (wpAny_cRoomFor (Nat.lt_of_succ_lt hu) ?_))
  refine wpAny_bind (I.type.here (wpAny_bind (hb.here ?_)))
  split
  · rename_i q
    have e : PySem.W.subIn K tb (.ref C) = some false := by
      rcases Bool.or_eq_true_iff.mp hn with e | e
      · rw [beq_iff_eq.mp e] at q; simp at q
      · exact beq_iff_eq.mp e
    refine wpAny_bind ((PySem.W.looks_subIn X e).here ?_)
    simp only [Bool.false_eq_true, if_false]
    refine wpAny_bind (wpAny_mono one (fun r s' z => ?_) fun _ _ e => e)
    obtain ⟨v, rfl, hq⟩ := z
    exact wpAny_pure hq
  · refine wpAny_bind (wpAny_pure ?_)
    simp only [Bool.false_eq_true, if_false]
    refine wpAny_bind (wpAny_mono one (fun r s' z => ?_) fun _ _ e => e)
    obtain ⟨v, rfl, hq⟩ := z
    exact wpAny_pure hq
end
def rNeO (K : PySem.W.Frag) (C : Addr) (r : RDs) : RD2 := fun x y S Q => ∃ fs t, drf S x = .obj C fs ∧ TyO K S y t ∧ PySem.W.notFirst K C t = true ∧ r [x, y] S fun d S' => ∃ b, d = .bl b ∧ Q (.bl (!b)) S'
theorem op_neO {X : Cx} {G : Gh} {k : Nat} {C f : Addr} {fd : FuncData} {ps : List Str} {r : RDs} (ic : IsaC X.K C) (hne : PySem.W.findIn X.K (.ref C) "__ne__" = some (some (.builtin "object.__ne__"))) (hs : PySem.W.findIn X.K (.ref C) "__eq__" = some (some (.ref f))) (hf : PySem.W.isFn X.K (.ref f) = true) (F : FnG X.prog X.w X.K X.mg X.base CX0 k f fd ps (lsp X.K G.T r)) (hb : Binds X.K fd ps [])
    (hr : Room (k + 1) X.A) (hgd : X.A.guards = some []) (hu : X.A.units + 64 < cLine) : OpR X (compareOp .NotEq) (l2 X.K G (rNeO X.K C r)) := by
  rintro pins s σ H x y v u Q I rx ry ⟨Y, β, S, dx, dy, Q', o, r1, r2, ⟨fs, t, h1, h2, nf, q⟩, kk⟩
  obtain ⟨a, da, vs, rfl, ha, _⟩ := ok_obj o r1 h1
  cases (show v = Value.ref a from rx)
  obtain ⟨mA, J, _⟩ := ins_get I.hok ha
  obtain ⟨od, J, _⟩ := J.look
  obtain ⟨m, hF⟩ := I.fr
  obtain ⟨P, Z, hp, _⟩ := kit_of I ry (tyO_ok o r2 h2)
  show wpAny _ _ (richCompare .NotEq (.ref a) u) _ _ _
  refine neO_K (tb := t) (by omega) hF I.ok.mod.kin J (Z.ty _ _ I.kIn hp) nf hne ic.hm hs hf ?_
  have hsp : lsp X.K G.T r [V.ref a, y] H (fun w H' => ∃ b, w = .bl b ∧ Q (.bl (!b)) H') E0 := by
    refine ⟨Y, β, S, [dx, dy], _, o.free, .cons r1 (.cons r2 .nil), q, ?_⟩
    rintro d S' w β' H' s' rw' ⟨b, rfl, q'⟩
    cases rw'
    exact ⟨b, rfl, kk _ S' _ β' H' (s'.back o) (.bl _) q'⟩
  have hl := F.many _ _ _ _ hsp
  have z := hb s [.ref a, u] I.kIn (by simpa using hl)
  rw [List.append_nil] at z
  apply wpAny_call
  refine codeAny_mono (F.go X.A.in1 X.stack s H ⟨[.ref a, u], []⟩ _ _ _ E0 hr.in1 hgd I.env0.in1 z (.cons (show L2.RelV (V.ref a) (Value.ref a) from rfl) (.cons ry .nil)) hsp) ?_
  rintro (err | fl) s' hq
  · exact pass0 pins σ H s err s' I hq
  · cases fl with
    | ret w =>
      have hh := I.after hq
      obtain ⟨z, H', I', rz, b, ez, qz⟩ := hh
      subst ez
      cases (show w = Value.bool b from rz)
      exact ⟨b, rfl, .bl _, H', I', rfl, qz⟩
    | next => exact hq.elim
    | brk => exact hq.elim
    | cont => exact hq.elim
section
variable {prog : Program} {w : World} {A : Around} {E : Value → Shared → Prop} {s : Shared}
end
end NC
set_option Elab.async false
set_option linter.all false
set_option maxRecDepth 100000
set_option maxHeartbeats 1000000
namespace NC
open PySem PySem.Spec PyProof.Rows L2
section
variable {X : Cx} {G : Gh} {a b : Expr} {ta tb : TD} {p p' pos pos' : Pos}
end
section
variable {X : Cx} {G : Gh} {a b c : Expr} {ta tb tc : TD} {pos : Pos}
end
theorem set_set {A : Store} {m : Nat} {x y : Option SO} (h : A[m]? = some x) : (A.set m y).set m x = A := by
  rw [List.set_set]
  obtain ⟨l, e⟩ := List.getElem?_eq_some_iff.mp h
  rw [← e]
  exact List.set_getElem_self l
end NC
set_option Elab.async false
set_option linter.all false
set_option maxRecDepth 100000
set_option maxHeartbeats 4000000
namespace NC
open PySem PySem.Spec PyProof.Rows L2
def FnRG (P : Program) (w : World) (K : PySem.W.Frag) (mg : Str → Option Value) (base : Heap) (CX : CXT) (k : Nat) (f : Addr) (sp : Sp) : Prop :=
  ∀ (A : Around) (outer : List Env) (s : Shared) (H : Hp) (us : List Value) (vs : List V) (Q : VK) (E : XK), Room k A → A.guards = some [] → Env0 P w K mg base A outer s H → Vals vs us → sp vs H Q E →
    codeAny (model P w) A (.call (.ref f) ⟨us, []⟩) (CR CX outer P w H s Q E) s
section
variable {P : Program} {w : World} {K : PySem.W.Frag} {mg : Str → Option Value} {base : Heap} {CX : CXT} {k : Nat} {f : Addr} {fd : FuncData} {ps : List Str} {sp sp' : Sp}
theorem FnRG.up (F : FnRG P w K mg base CX k f sp) {j : Nat} (h : k ≤ j) : FnRG P w K mg base CX j f sp := fun A outer s H us vs Q E hr => F A outer s H us vs Q E (hr.mono h)
theorem FnRG.imp (F : FnRG P w K mg base CX k f sp) (h : ∀ vs H Q E, sp' vs H Q E → sp vs H Q E) : FnRG P w K mg base CX k f sp' := fun A outer s H us vs Q E hr g e0 r hs => F A outer s H us vs Q E hr g e0 r (h _ _ _ _ hs)
theorem Reps.split {B : Hp} {β : List Addr} : ∀ {xs ys : List D} {vs : List V}, Reps K B β vs (xs ++ ys) → ∃ v1 v2, vs = v1 ++ v2 ∧ Reps K B β v1 xs ∧ Reps K B β v2 ys
  | [], ys, vs, h => ⟨[], vs, rfl, .nil, h⟩
  | x :: xs, ys, vs, h => by
    cases h with
    | cons h1 h2 =>
      obtain ⟨v1, v2, e, r1, r2⟩ := Reps.split h2
      exact ⟨_ :: v1, v2, by rw [e]; rfl, .cons h1 r1, r2⟩
end
structure SupO (K : PySem.W.Frag) (C fP : Addr) : Prop where
  cl : PySem.W.isClsIn K C = true
  sup : PySem.W.ks_superIn K C C "__init__" = some (some (.ref fP))
  fn : PySem.W.typeIn K (.ref fP) = some (.type "function")
  fi : PySem.W.fnIn K fP = true
  opq : PySem.W.nsIn K PySem.cStatics "thirdparty.any" = some none
  slf : PySem.W.mroIn K C (.ref C) = some true
end NC
set_option Elab.async false
set_option linter.all false
set_option maxRecDepth 100000
set_option maxHeartbeats 4000000
namespace NC
open PySem PySem.Spec PyProof.Rows L2
section
variable {P : Program} {w : World} {K : PySem.W.Frag} {mg : Str → Option Value} {base : Heap} {k : Nat}
end
end NC
set_option Elab.async false
set_option linter.all false
set_option maxRecDepth 100000
set_option maxHeartbeats 4000000
namespace NC
open PySem PySem.Spec PyProof.Rows L2
section
variable {X : Cx} {G : Gh} {k : Nat} {L : List (Addr × Bool)} {e : Expr} {ta : TD}
end
section
variable {ρ : Rho} {S : Store} {Q : QD} {N : DN} {ta : TD} {K : PySem.W.Frag} {x : D}
end
theorem FnG.none {P : Program} {w : World} {K : PySem.W.Frag} {mg : Str → Option Value} {base : Heap} {CX : CXT} {k : Nat} {f : Addr} {fd : FuncData} {ps : List Str} {T : List (Addr × Str)} {r : RDs} (h : ∀ xs S Q, r xs S Q → False) : FnG P w K mg base CX k f fd ps (lsp K T r) :=
  ⟨fun vs H Q E ⟨_, _, _, _, _, _, _, q, _⟩ => (h _ _ _ q).elim, fun A outer s H args us vs Q E _ _ _ _ _ ⟨_, _, _, _, _, _, _, q, _⟩ => (h _ _ _ q).elim⟩
end NC
set_option Elab.async false
set_option linter.all false
set_option maxRecDepth 100000
set_option maxHeartbeats 4000000
namespace NC
open PySem PySem.Spec PyProof.Rows L2
local macro_rules | `(tactic| walk_at "nc hd") => `(tactic| repeat (first | (with_reducible first | refine i_sIf ?_ | refine i_sNil ?_ | refine i_sRet ?_ | refine i_sAsg ?_ | refine i_sDrop ?_ | refine i_sPut ?_ | refine i_sPar ?_ | refine i_eC ?_ | refine i_eOp ?_ | refine i_eChain ?_ | refine i_eB ?_ | refine i_eUn ?_ | refine i_eTup ?_ | refine i_eLst ?_ | refine i_eLstM ?_ | refine i_eAnd ?_ | refine i_eOr ?_ | refine i_eNot ?_ | refine i_eIf ?_ | refine i_bOf ?_ | refine i_bAnd ?_ | refine i_bOr ?_ | refine i_bNot ?_ | refine i_bYes ?_ | refine i_aNil ?_ | refine i_aCons ?_ | refine i_eCall ?_ | refine i_eCallKw ?_ | refine i_eCut ?_ | refine i_oNone ?_ | refine i_oSome ?_ | refine i_eM ?_ | refine i_sSq ?_ | refine i_sRange1 ?_ | refine i_sRange2 ?_ | refine i_sEnum ?_ | refine i_eIsi ?_ | refine i_eIsi2 ?_ | refine i_eLc ?_ | refine i_eLcM ?_ | refine i_sFor ?_ | refine i_eDisp1 ?_ | refine i_bl ?_ | refine i_int ?_ | refine i_nm ?_ | refine i_one ?_ | refine i_two ?_ | refine i_rng ?_ | refine i_len0 ?_ | refine i_int1 ?_ | refine i_intb ?_ | refine i_abs ?_ | refine i_add ?_ | refine i_sub ?_ | refine i_lt ?_ | refine i_le ?_ | refine i_gt ?_ | refine i_ge ?_ | refine i_eqi ?_ | refine i_is ?_ | refine i_isn ?_ | refine i_nes ?_ | refine i_rbl ?_ | refine i_eCallX ?_ | refine i_eCallKwX ?_ | refine i_sRaiseF ?_ | refine i_eIsX ?_ | refine i_eFld ?_ | refine i_eDit1 ?_ | refine i_sTry ?_ | refine i_runX ?_ | refine i_ltU ?_ | refine i_isU ?_ | refine i_isnU ?_ | refine i_isS ?_ | refine i_isnS ?_ | refine i_isB ?_ | refine i_isnB ?_ | refine i_neg ?_ | refine i_eDcT ?_ | refine i_sPar3 ?_ | refine i_three ?_ | refine i_eFldU ?_ | refine i_eIsU ?_ | refine i_eFrzO ?_ | refine i_eMake ?_ | refine i_sFldP ?_ | refine i_eMeth ?_ | refine i_sWhile ?_ | refine i_aStar ?_ | refine i_eFn ?_ | refine i_sAsgL ?_ | refine i_sCont ?_ | refine i_sBrk ?_ | refine i_eDnT ?_ | refine i_eDnK ?_ | refine i_eDit1M ?_ | refine i_sDPutU ?_ | refine i_eListR2 ?_ | refine i_bool1 ?_ | refine i_eCName ?_ | refine i_sFlds ?_ | refine i_bTruL ?_ | refine i_eCutU ?_ | refine i_sStr ?_ | refine i_eJoined ?_ | refine i_dJs ?_ | refine i_dJn ?_ | refine i_eMakeX ?_ | refine i_eMethX ?_ | refine i_eFmt ?_ | refine i_eLc2 ?_ | refine i_sRng ?_ | refine i_sTryS ?_) | ((with_reducible refine i_eVarX ?_); refine ⟨_, rfl, ?_⟩) | ((with_reducible refine i_len1 ?_ ?_); · exact Nat.le_of_ble_eq_true rfl)))
local macro_rules | `(tactic| walk_at "nc hq") => `(tactic| repeat (first | (with_reducible first | refine i_sSeq ?_ | refine i_sIf ?_ | refine i_sNil ?_ | refine i_sRet ?_ | refine i_sAsg ?_ | refine i_sDrop ?_ | refine i_sPut ?_ | refine i_sPar ?_ | refine i_eC ?_ | refine i_eOp ?_ | refine i_eChain ?_ | refine i_eB ?_ | refine i_eUn ?_ | refine i_eTup ?_ | refine i_eLst ?_ | refine i_eLstM ?_ | refine i_eAnd ?_ | refine i_eOr ?_ | refine i_eNot ?_ | refine i_eIf ?_ | refine i_bOf ?_ | refine i_bAnd ?_ | refine i_bOr ?_ | refine i_bNot ?_ | refine i_bYes ?_ | refine i_aNil ?_ | refine i_aCons ?_ | refine i_eCall ?_ | refine i_eCallKw ?_ | refine i_eCut ?_ | refine i_oNone ?_ | refine i_oSome ?_ | refine i_eM ?_ | refine i_sSq ?_ | refine i_sRange1 ?_ | refine i_sRange2 ?_ | refine i_sEnum ?_ | refine i_eIsi ?_ | refine i_eIsi2 ?_ | refine i_eLc ?_ | refine i_eLcM ?_ | refine i_sFor ?_ | refine i_eDisp1 ?_ | refine i_bl ?_ | refine i_int ?_ | refine i_nm ?_ | refine i_one ?_ | refine i_two ?_ | refine i_rng ?_ | refine i_len0 ?_ | refine i_int1 ?_ | refine i_intb ?_ | refine i_abs ?_ | refine i_add ?_ | refine i_sub ?_ | refine i_lt ?_ | refine i_le ?_ | refine i_gt ?_ | refine i_ge ?_ | refine i_eqi ?_ | refine i_is ?_ | refine i_isn ?_ | refine i_nes ?_ | refine i_rbl ?_ | refine i_eCallX ?_ | refine i_eCallKwX ?_ | refine i_sRaiseF ?_ | refine i_eIsX ?_ | refine i_eFld ?_ | refine i_eDit1 ?_ | refine i_sTry ?_ | refine i_runX ?_ | refine i_ltU ?_ | refine i_isU ?_ | refine i_isnU ?_ | refine i_isS ?_ | refine i_isnS ?_ | refine i_isB ?_ | refine i_isnB ?_ | refine i_neg ?_ | refine i_eDcT ?_ | refine i_sPar3 ?_ | refine i_three ?_ | refine i_eFldU ?_ | refine i_eIsU ?_ | refine i_eFrzO ?_ | refine i_eMake ?_ | refine i_sFldP ?_ | refine i_eMeth ?_ | refine i_sWhile ?_ | refine i_aStar ?_ | refine i_eFn ?_ | refine i_sAsgL ?_ | refine i_sCont ?_ | refine i_sBrk ?_ | refine i_eDnT ?_ | refine i_eDnK ?_ | refine i_eDit1M ?_ | refine i_sDPutU ?_ | refine i_eListR2 ?_ | refine i_bool1 ?_ | refine i_eCName ?_ | refine i_sFlds ?_ | refine i_bTruL ?_ | refine i_eCutU ?_ | refine i_sStr ?_ | refine i_eJoined ?_ | refine i_dJs ?_ | refine i_dJn ?_ | refine i_eMakeX ?_ | refine i_eMethX ?_ | refine i_eFmt ?_ | refine i_eLc2 ?_ | refine i_sRng ?_ | refine i_sTryS ?_) | ((with_reducible refine i_eVarX ?_); refine ⟨_, rfl, ?_⟩) | ((with_reducible refine i_len1 ?_ ?_); · exact Nat.le_of_ble_eq_true rfl)))
local macro_rules | `(tactic| walk_at "nc hh") => `(tactic| repeat (first | (with_reducible first | refine nes_same ?_ | refine eqs_same ?_ | refine iteT ?_ | refine iteF ?_ | refine iteNT ?_ | refine iteNF ?_) | (with_reducible first | refine i_sIf ?_ | refine i_sNil ?_ | refine i_sRet ?_ | refine i_sAsg ?_ | refine i_sDrop ?_ | refine i_sPut ?_ | refine i_sPar ?_ | refine i_eC ?_ | refine i_eOp ?_ | refine i_eChain ?_ | refine i_eB ?_ | refine i_eUn ?_ | refine i_eTup ?_ | refine i_eLst ?_ | refine i_eLstM ?_ | refine i_eAnd ?_ | refine i_eOr ?_ | refine i_eNot ?_ | refine i_eIf ?_ | refine i_bOf ?_ | refine i_bAnd ?_ | refine i_bOr ?_ | refine i_bNot ?_ | refine i_bYes ?_ | refine i_aNil ?_ | refine i_aCons ?_ | refine i_eCall ?_ | refine i_eCallKw ?_ | refine i_eCut ?_ | refine i_oNone ?_ | refine i_oSome ?_ | refine i_eM ?_ | refine i_sSq ?_ | refine i_sRange1 ?_ | refine i_sRange2 ?_ | refine i_sEnum ?_ | refine i_eIsi ?_ | refine i_eIsi2 ?_ | refine i_eLc ?_ | refine i_eLcM ?_ | refine i_sFor ?_ | refine i_eDisp1 ?_ | refine i_bl ?_ | refine i_int ?_ | refine i_nm ?_ | refine i_one ?_ | refine i_two ?_ | refine i_rng ?_ | refine i_len0 ?_ | refine i_int1 ?_ | refine i_intb ?_ | refine i_abs ?_ | refine i_add ?_ | refine i_sub ?_ | refine i_lt ?_ | refine i_le ?_ | refine i_gt ?_ | refine i_ge ?_ | refine i_eqi ?_ | refine i_is ?_ | refine i_isn ?_ | refine i_nes ?_ | refine i_rbl ?_ | refine i_eCallX ?_ | refine i_eCallKwX ?_ | refine i_sRaiseF ?_ | refine i_eIsX ?_ | refine i_eFld ?_ | refine i_eDit1 ?_ | refine i_sTry ?_ | refine i_runX ?_ | refine i_ltU ?_ | refine i_isU ?_ | refine i_isnU ?_ | refine i_isS ?_ | refine i_isnS ?_ | refine i_isB ?_ | refine i_isnB ?_ | refine i_neg ?_ | refine i_eDcT ?_ | refine i_sPar3 ?_ | refine i_three ?_ | refine i_eFldU ?_ | refine i_eIsU ?_ | refine i_eFrzO ?_ | refine i_eMake ?_ | refine i_sFldP ?_ | refine i_eMeth ?_ | refine i_sWhile ?_ | refine i_aStar ?_ | refine i_eFn ?_ | refine i_sAsgL ?_ | refine i_sCont ?_ | refine i_sBrk ?_ | refine i_eDnT ?_ | refine i_eDnK ?_ | refine i_eDit1M ?_ | refine i_sDPutU ?_ | refine i_eListR2 ?_ | refine i_bool1 ?_ | refine i_eCName ?_ | refine i_sFlds ?_ | refine i_bTruL ?_ | refine i_eCutU ?_ | refine i_sStr ?_ | refine i_eJoined ?_ | refine i_dJs ?_ | refine i_dJn ?_ | refine i_eMakeX ?_ | refine i_eMethX ?_ | refine i_eFmt ?_ | refine i_eLc2 ?_ | refine i_sRng ?_ | refine i_sTryS ?_) | ((with_reducible refine i_eVarX ?_); refine ⟨_, rfl, ?_⟩) | ((with_reducible refine i_len1 ?_ ?_); · exact Nat.le_of_ble_eq_true rfl) | ((with_reducible first | refine i_ix0 ?_ | refine i_ix1 ?_ | refine i_ix2 ?_ | refine i_ix3 ?_); refine ⟨_, _, rfl, rfl, ?_⟩) | ((with_reducible refine i_tp ?_); refine ⟨_, by unfold bindT; rfl, ?_⟩) | ((with_reducible first | refine i_len ?_ | refine i_list ?_ | refine i_listU ?_ | refine i_tuple ?_ | refine i_sqE ?_); refine ⟨_, rfl, ?_⟩) | ((with_reducible refine i_modL ?_ ?_); · decide) | (with_reducible refine i_eqs ?_) | (with_reducible first | refine cl_power (by assumption) ?_ | refine cl_height (by assumption) ?_ | refine cl_origins (by assumption) ?_ | refine cl_lasted (by assumption) ?_ | refine cl_square (by assumption) ?_ | refine cl_turn (by assumption) ?_ | refine is_cl (by assumption) ?_ | refine st_wide (by assumption) ?_ | refine st_power (by assumption) ?_ | refine st_far (by assumption) ?_) | ((with_reducible refine i_kw ?_); refine ⟨rfl, rfl, ?_⟩)))
local macro_rules | `(tactic| walk_at "nc hs") => `(tactic| repeat (first | (with_reducible first | refine nes_same ?_ | refine eqs_same ?_ | refine iteT ?_ | refine iteF ?_ | refine iteNT ?_ | refine iteNF ?_) | (with_reducible first | refine i_sSeq ?_ | refine i_sIf ?_ | refine i_sNil ?_ | refine i_sRet ?_ | refine i_sAsg ?_ | refine i_sDrop ?_ | refine i_sPut ?_ | refine i_sPar ?_ | refine i_eC ?_ | refine i_eOp ?_ | refine i_eChain ?_ | refine i_eB ?_ | refine i_eUn ?_ | refine i_eTup ?_ | refine i_eLst ?_ | refine i_eLstM ?_ | refine i_eAnd ?_ | refine i_eOr ?_ | refine i_eNot ?_ | refine i_eIf ?_ | refine i_bOf ?_ | refine i_bAnd ?_ | refine i_bOr ?_ | refine i_bNot ?_ | refine i_bYes ?_ | refine i_aNil ?_ | refine i_aCons ?_ | refine i_eCall ?_ | refine i_eCallKw ?_ | refine i_eCut ?_ | refine i_oNone ?_ | refine i_oSome ?_ | refine i_eM ?_ | refine i_sSq ?_ | refine i_sRange1 ?_ | refine i_sRange2 ?_ | refine i_sEnum ?_ | refine i_eIsi ?_ | refine i_eIsi2 ?_ | refine i_eLc ?_ | refine i_eLcM ?_ | refine i_sFor ?_ | refine i_eDisp1 ?_ | refine i_bl ?_ | refine i_int ?_ | refine i_nm ?_ | refine i_one ?_ | refine i_two ?_ | refine i_rng ?_ | refine i_len0 ?_ | refine i_int1 ?_ | refine i_intb ?_ | refine i_abs ?_ | refine i_add ?_ | refine i_sub ?_ | refine i_lt ?_ | refine i_le ?_ | refine i_gt ?_ | refine i_ge ?_ | refine i_eqi ?_ | refine i_is ?_ | refine i_isn ?_ | refine i_nes ?_ | refine i_rbl ?_ | refine i_eCallX ?_ | refine i_eCallKwX ?_ | refine i_sRaiseF ?_ | refine i_eIsX ?_ | refine i_eFld ?_ | refine i_eDit1 ?_ | refine i_sTry ?_ | refine i_runX ?_ | refine i_ltU ?_ | refine i_isU ?_ | refine i_isnU ?_ | refine i_isS ?_ | refine i_isnS ?_ | refine i_isB ?_ | refine i_isnB ?_ | refine i_neg ?_ | refine i_eDcT ?_ | refine i_sPar3 ?_ | refine i_three ?_ | refine i_eFldU ?_ | refine i_eIsU ?_ | refine i_eFrzO ?_ | refine i_eMake ?_ | refine i_sFldP ?_ | refine i_eMeth ?_ | refine i_sWhile ?_ | refine i_aStar ?_ | refine i_eFn ?_ | refine i_sAsgL ?_ | refine i_sCont ?_ | refine i_sBrk ?_ | refine i_eDnT ?_ | refine i_eDnK ?_ | refine i_eDit1M ?_ | refine i_sDPutU ?_ | refine i_eListR2 ?_ | refine i_bool1 ?_ | refine i_eCName ?_ | refine i_sFlds ?_ | refine i_bTruL ?_ | refine i_eCutU ?_ | refine i_sStr ?_ | refine i_eJoined ?_ | refine i_dJs ?_ | refine i_dJn ?_ | refine i_eMakeX ?_ | refine i_eMethX ?_ | refine i_eFmt ?_ | refine i_eLc2 ?_ | refine i_sRng ?_ | refine i_sTryS ?_) | ((with_reducible refine i_eVarX ?_); refine ⟨_, rfl, ?_⟩) | ((with_reducible refine i_len1 ?_ ?_); · exact Nat.le_of_ble_eq_true rfl) | ((with_reducible first | refine i_ix0 ?_ | refine i_ix1 ?_ | refine i_ix2 ?_ | refine i_ix3 ?_); refine ⟨_, _, rfl, rfl, ?_⟩) | ((with_reducible refine i_tp ?_); refine ⟨_, by unfold bindT; rfl, ?_⟩) | ((with_reducible first | refine i_len ?_ | refine i_list ?_ | refine i_listU ?_ | refine i_tuple ?_ | refine i_sqE ?_); refine ⟨_, rfl, ?_⟩) | ((with_reducible refine i_modL ?_ ?_); · decide) | (with_reducible refine i_eqs ?_) | (with_reducible first | refine cl_power (by assumption) ?_ | refine cl_height (by assumption) ?_ | refine cl_origins (by assumption) ?_ | refine cl_lasted (by assumption) ?_ | refine cl_square (by assumption) ?_ | refine cl_turn (by assumption) ?_ | refine is_cl (by assumption) ?_ | refine st_wide (by assumption) ?_ | refine st_power (by assumption) ?_ | refine st_far (by assumption) ?_) | ((with_reducible refine i_kw ?_); refine ⟨rfl, rfl, ?_⟩)))
structure PapK (K : PySem.W.Frag) (cs : Cs) (pl : List (Addr × Bool)) : Prop where
  ko : ∀ p ∈ pl, KOk K p.1
  wd : ∀ p ∈ pl, NoAttr K p.1 "word"
  pt : ∀ p ∈ pl, NoAttr K p.1 "parts"
  sb : ∀ p ∈ pl, PySem.W.kitOne K (.ref p.1) (.ref cs.Paper) = some true
  ty : ∀ t ∈ tyNames, PySem.W.kitOne K (.type t) (.ref cs.Paper) = some false
  nm : ∀ p ∈ pl, ∃ nm, NameC K p.1 nm
end NC
set_option Elab.async false
set_option linter.all false
set_option maxRecDepth 100000
set_option maxHeartbeats 4000000
namespace NC
open PySem PySem.Spec PyProof.Rows L2
section
variable {X : Cx} {CX : CXT} {k : Nat} {f C : Addr} {fd : FuncData} {ps ks : List Str} {sp : Sp} {E : XK} {x : Str} {p pos : Pos} {e : Expr} {es : List Expr} {kws : List Keyword} {t tk : TA} {n m : Nat} {perm : List Nat}
theorem pe_mkGK0 (M : Mk X.K C f) (F : FnG X.prog X.w X.K X.mg X.base CX k f fd ps sp) (hr : Room (k + 1) X.A) (hgd : X.A.guards = some []) (hg : Gl X x) (hm : X.mg x = some (.ref C)) (hb : KwM X.K fd ps 0 ks perm) (hx : Passes CX X E) (hkw : PK X kws tk)
    (hall : (backToKw pos (keywordEach kws X.env)).all (·.1.isSome) = true := by rfl) (hks : (backToKw pos (keywordEach kws X.env)).filterMap (·.1) = ks := by rfl) (hdb : (x == ("__debug__" : Str)) = false := by decide)
    (hpl : ((backTo pos (starEach [] X.env)).any (·.1) || (backToKw pos (keywordEach kws X.env)).any (·.1.isNone)) = false := by rfl) : PE X (.Call (.Name x p) [] kws pos) (tMakeGK C sp 0 ks.length perm E tNil tk) := by
  constructor
  intro pins s σ H Q I h
  apply wpAny_Call_Name_kw
  refine ld_glob I hg hm ?_ hdb
  refine PySem.W.callWith_KW0 (h₀ := X.base) I.ok.mod.kin M.kp hall ?_ hpl
  refine thn (hkw.run pos pins s σ H _ I h) ?_
  rintro ws s2 ⟨zs, H2, I2, rz, l1, l2, q2⟩
  refine ⟨I2.kIn, ?_⟩
  rw [hks]
  exact run_mkG (us := []) (as := pick perm ([] ++ ws) .none) M F hr hgd (fun s' y kin => hb.to s' y [] ws kin rfl (by rw [← rz.length]; exact l2)) hx I2 (Vals.pick (vs := [] ++ zs) (us := [] ++ ws) rz perm) q2
end
end NC
set_option Elab.async false
set_option linter.all false
set_option maxRecDepth 100000
set_option maxHeartbeats 4000000
namespace NC
open PySem PySem.Spec PyProof.Rows L2
section
variable {K : PySem.W.Frag} {G : Gh} {Y β : List Addr} {S : Store} {H : Hp} {a b : Addr} {d e : D} {xs ys : List D}
end
end NC
set_option Elab.async false
set_option linter.all false
set_option maxRecDepth 100000
set_option maxHeartbeats 4000000
namespace NC
open PySem PySem.Spec PyProof.Rows L2
section
variable {X : Cx} {G : Gh}
end
section
variable {ρ : Rho} {S : Store} {Q : QD} {ta : TD} {x : D}
end
end NC
set_option Elab.async false
set_option linter.all false
set_option maxRecDepth 100000
set_option maxHeartbeats 4000000
namespace NC
open PySem PySem.Spec PyProof.Rows L2
section
variable {ρ : Rho} {S : Store} {Q : QD} {ta : TD} {ts : List TD} {acc : Str} {QS : Str → Store → Prop}
end
end NC
set_option Elab.async false
set_option linter.all false
set_option maxRecDepth 100000
set_option maxHeartbeats 4000000
namespace NC
open PySem PySem.Spec PyProof.Rows L2
section
variable {L : List W0} {X : Cx} {k : Nat} {f C : Addr} {fd : FuncData} {ps : List Str} {x m : Str} {p pos apos : Pos} {e o : Expr} {es : List Expr} {r : RDx} {ta : TD} {tl : TLs} {ED : XD} {w0 : W0} {T : List (Addr × Str)}
theorem make_liftX {σ : L2.St} {H : Hp} {Q : VK} (h : tE X.K ⟨w0 :: L, T⟩ (eMakeX X.K r C ED tl) σ H Q) : tMakeG C (lspx X.K T r) (WD X.K T w0 ED) (tA X.K ⟨w0 :: L, T⟩ tl) σ H Q := by
  obtain ⟨Y, β, S, ρ, Q', rl, q, kk⟩ := h
  refine ⟨Y, β, S, ρ, _, rl, q, fun xs S1 vs β1 H1 s1 r1 ⟨hk, q1⟩ => fun y dx hy hd hn => ?_⟩
  have s2 := s1.ok.made (C := C) hk hy hd hn
  refine ⟨Y, β1 ++ [y], _, _, _, ED, s2.ok.free, .cons (.ref ?_) (s2.reps r1), q1, ?_, fun cls d H' h => h.up (s2.ok.gh w0 (List.mem_cons_self ..))⟩
  · rw [← s1.ok.len, List.getElem?_append_right (Nat.le_refl _), Nat.sub_self]
    rfl
  · rintro z S3 w β3 H3 s3 r3 ⟨rfl, q3⟩
    cases r3
    refine ⟨rfl, kk _ S3 _ β3 H3 ((s1.trans s2).trans (s3.back s2.ok)) (.ref ?_) q3⟩
    refine s3.pre.get ?_
    rw [← s1.ok.len, List.getElem?_append_right (Nat.le_refl _), Nat.sub_self]
    rfl
theorem de_makeX (tk : Takes X (fun cls d _ H => WD X.K T w0 ED cls d H)) (M : Mk X.K C f) (F : FnG X.prog X.w X.K X.mg X.base (L2.CX X.prog X.w) k f fd ps (lspx X.K T r)) (hr : Room (k + 1) X.A) (hgd : X.A.guards = some []) (hm : X.mg x = some (.ref C)) (hb : Binds X.K fd ps [])
    (ha : PA X (e :: es) (tA X.K ⟨w0 :: L, T⟩ tl)) (hg : Gl X x := by rfl) (hdb : (x == ("__debug__" : Str)) = false := by decide) (he : starEach (e :: es) X.env = (false, eval e X.env) :: starEach es X.env := by rfl) (hpl : (backTo pos (starEach es X.env)).any (·.1) = false := by rfl) :
    PE X (.Call (.Name x p) (e :: es) [] pos) (tE X.K ⟨w0 :: L, T⟩ (eMakeX X.K r C ED tl)) := (pe_mkG M F hr hgd hg hm hb (passX tk) ha hdb he hpl).imp fun _ _ _ h => make_liftX h
theorem make_liftN {G : Gh} {σ : L2.St} {H : Hp} {Q : VK} (h : tE X.K G (eMakeX X.K r C NoX tl) σ H Q) : tMakeG C (lspx X.K G.T r) (fun _ _ _ => False) (tA X.K G tl) σ H Q := by
  obtain ⟨Y, β, S, ρ, Q', rl, q, kk⟩ := h
  refine ⟨Y, β, S, ρ, _, rl, q, fun xs S1 vs β1 H1 s1 r1 ⟨hk, q1⟩ => fun y dx hy hd hn => ?_⟩
  have s2 := s1.ok.made (C := C) hk hy hd hn
  refine ⟨Y, β1 ++ [y], _, _, _, NoX, s2.ok.free, .cons (.ref ?_) (s2.reps r1), q1, ?_, fun cls d H' ⟨_, _, _, _, _, _, _, _, _, _, _, _, z⟩ => z.elim⟩
  · rw [← s1.ok.len, List.getElem?_append_right (Nat.le_refl _), Nat.sub_self]
    rfl
  · rintro z S3 w β3 H3 s3 r3 ⟨rfl, q3⟩
    cases r3
    refine ⟨rfl, kk _ S3 _ β3 H3 ((s1.trans s2).trans (s3.back s2.ok)) (.ref ?_) q3⟩
    refine s3.pre.get ?_
    rw [← s1.ok.len, List.getElem?_append_right (Nat.le_refl _), Nat.sub_self]
    rfl
theorem de_makeN {G : Gh} (M : Mk X.K C f) (F : FnG X.prog X.w X.K X.mg X.base (L2.CX X.prog X.w) k f fd ps (lspx X.K G.T r)) (hr : Room (k + 1) X.A) (hgd : X.A.guards = some []) (hm : X.mg x = some (.ref C)) (hb : Binds X.K fd ps [])
    (ha : PA X (e :: es) (tA X.K G tl)) (hg : Gl X x := by rfl) (hdb : (x == ("__debug__" : Str)) = false := by decide) (he : starEach (e :: es) X.env = (false, eval e X.env) :: starEach es X.env := by rfl) (hpl : (backTo pos (starEach es X.env)).any (·.1) = false := by rfl) :
    PE X (.Call (.Name x p) (e :: es) [] pos) (tE X.K G (eMakeX X.K r C NoX tl)) := (pe_mkG M F hr hgd hg hm hb passN ha hdb he hpl).imp fun _ _ _ h => make_liftN h
def eMethX (r : RDx) (C : Addr) (m : Str) (ED : XD) (ta : TD) (tl : TLs) : TD := fun ρ S Q => ta ρ S fun x S1 => ∃ fs, drf S1 x = .obj C fs ∧ fs.lookup m = none ∧ tl ρ S1 fun xs S2 => r (x :: xs) S2 Q ED
theorem meth_liftX {σ : L2.St} {H : Hp} {Q : VK} (h : tE X.K ⟨w0 :: L, T⟩ (eMethX r C m ED ta tl) σ H Q) : tMethG C m (lspx X.K T r) (WD X.K T w0 ED) (tE X.K ⟨w0 :: L, T⟩ ta) (tA X.K ⟨w0 :: L, T⟩ tl) σ H Q := by
  obtain ⟨Y, β, S, ρ, Q', rl, q, kk⟩ := h
  refine ⟨Y, β, S, ρ, _, rl, q, fun x S1 v β1 H1 s1 r1 ⟨fs, hx, hl, q1⟩ => ?_⟩
  obtain ⟨a, dx, vs, rfl, ha, rf⟩ := ok_obj s1.ok r1 hx
  exact ⟨a, dx, vs, rfl, ha, rf.lookN hl, ⟨Y, β1, S1, ρ, _, rl.step s1, q1, fun xs S2 us β2 H2 s2 r2 q2 => ⟨Y, β2, S2, x :: xs, Q', ED, s2.ok.free, .cons (s2.rep r1) r2, q2, fun z S3 w β3 H3 s3 r3 q3 => kk z S3 w β3 H3 ((s1.trans s2).trans (s3.back s2.ok)) r3 q3, fun cls d H' h => h.up (s2.ok.gh w0 (List.mem_cons_self ..))⟩⟩⟩
theorem de_methX {pl : Sem Bool} (tk : Takes X (fun cls d _ H => WD X.K T w0 ED cls d H)) (he : PE X o (tE X.K ⟨w0 :: L, T⟩ ta)) (c : Cls X.K C) (hm : Meth X.K C m f) (F : FnG X.prog X.w X.K X.mg X.base (L2.CX X.prog X.w) k f fd ps (lspx X.K T r)) (hr : Room k X.A) (hgd : X.A.guards = some []) (hb : Binds X.K fd ps [])
    (ha : PA X (e :: es) (tA X.K ⟨w0 :: L, T⟩ tl)) (hst : starEach (e :: es) X.env = (false, eval e X.env) :: starEach es X.env := by rfl) (hpl : (backTo pos (starEach es X.env)).any (·.1) = false := by rfl)
    (ht : eval (.Call (.Attribute o m apos) (e :: es) [] pos) X.env = (do
      let ov ← eval o X.env
      standAt apos.atName
      let (g, first) ← holding [ov] (getMethod ov m pl)
      callWith pos g first (backTo pos (starEach (e :: es) X.env)) (backToKw pos (keywordEach [] X.env))) := by rfl) :
    PE X (.Call (.Attribute o m apos) (e :: es) [] pos) (tE X.K ⟨w0 :: L, T⟩ (eMethX r C m ED ta tl)) := (pe_methG he c hm F hr hgd hb (passX tk) ha hst hpl ht).imp fun _ _ _ h => meth_liftX h
end
end NC
set_option Elab.async false
set_option linter.all false
set_option maxRecDepth 100000
set_option maxHeartbeats 4000000
namespace NC
open PySem PySem.Spec PyProof.Rows L2
section
variable {X : Cx} {G : Gh}
end
section
variable {ρ : Rho} {S : Store} {Q : QD} {ta : TD}
end
end NC
set_option Elab.async false
set_option linter.all false
set_option maxRecDepth 100000
set_option maxHeartbeats 4000000
namespace NC
open PySem PySem.Spec PyProof.Rows L2
def sOff : TSd := fun _ _ _ => False
theorem dss_off {X : Cx} {G : Gh} {sts : List Stmt} : PSs X sts (tS X.K G sOff) := ⟨fun pins s σ H D I ⟨_, _, _, _, _, _, h, _⟩ => h.elim⟩
end NC
set_option Elab.async false
set_option linter.all false
set_option maxRecDepth 100000
set_option maxHeartbeats 4000000
namespace NC
open PySem PySem.Spec PyProof.Rows L2
def tMethK (C : Addr) (m : Str) (sp : Sp) (n : Nat) (perm : List Nat) (E : XK) (ta : TE) (tk : TA) : TE := fun σ H Q => ta σ H fun x H1 => ∃ a dx fs, x = .ref a ∧ H1 a = some (.ins C dx fs) ∧ fs.lookup m = none ∧ tk σ H1 fun zs H2 => zs.length = n ∧ sp (x :: pick perm zs .non) H2 Q E
section
variable {X : Cx} {CX : CXT} {k n : Nat} {f C : Addr} {fd : FuncData} {ps ks : List Str} {sp : Sp} {E : XK} {m : Str} {p pos apos : Pos} {o : Expr} {kws : List Keyword} {tk : TA} {te : TE} {perm : List Nat}
theorem pe_methK {pl : Sem Bool} (he : PE X o te) (c : Cls X.K C) (hm : Meth X.K C m f) (F : FnG X.prog X.w X.K X.mg X.base CX k f fd ps sp) (hr : Room k X.A) (hgd : X.A.guards = some []) (hb : KwM X.K fd ps 0 ks perm) (hx : Passes CX X E) (hkw : PK X kws tk)
    (hall : (backToKw pos (keywordEach kws X.env)).all (·.1.isSome) = true := by rfl) (hks : (backToKw pos (keywordEach kws X.env)).filterMap (·.1) = ks := by rfl)
    (hpl : ((backTo pos (starEach [] X.env)).any (·.1) || (backToKw pos (keywordEach kws X.env)).any (·.1.isNone)) = false := by rfl)
    (ht : eval (.Call (.Attribute o m apos) [] kws pos) X.env = (do
      let ov ← eval o X.env
      standAt apos.atName
      let (g, first) ← holding [ov] (getMethod ov m pl)
      callWith pos g first (backTo pos (starEach [] X.env)) (backToKw pos (keywordEach kws X.env))) := by rfl) :
    PE X (.Call (.Attribute o m apos) [] kws pos) (tMethK C m sp ks.length perm E te tk) := by
  constructor
  intro pins s σ H Q I h
  refine PySem.W.methodCall_KW (pl := pl) (thn (he.run pins s σ H _ I h) ?_) ht
  rintro u s1 ⟨x, H1, I1, rx, a, dx, fs, ex, ea, l, q⟩
  subst ex
  cases (show u = Value.ref a from rx)
  refine getmeth_ok I1 ea c hm l ?_
  refine PySem.W.callWith_KW0 (first := [.ref a]) (h₀ := X.base) I.ok.mod.kin hm.kp hall ?_ hpl
  refine thn (hkw.run pos pins s1 σ H1 _ I1 q) ?_
  rintro ws s2 ⟨zs, H2, I2, rz, l2, q2⟩
  refine ⟨I2.kIn, ?_⟩
  rw [hks]
  exact runG (us := [.ref a]) (as := .ref a :: pick perm ws .none) (vs := .ref a :: pick perm zs .non) F hr hgd (hb.to s2 (.ref a) [] ws I2.kIn rfl (by rw [← rz.length]; exact l2)) hx I2 (.cons (show L2.RelV (V.ref a) (Value.ref a) from rfl) (Vals.pick rz perm)) q2
end
def eMethKX (r : RDx) (C : Addr) (m : Str) (ED : XD) (n : Nat) (perm : List Nat) (ta : TD) (tl : TLs) : TD := fun ρ S Q => ta ρ S fun x S1 => ∃ fs, drf S1 x = .obj C fs ∧ fs.lookup m = none ∧ tl ρ S1 fun xs S2 => xs.length = n ∧ r (x :: pick perm xs .non) S2 Q ED
section
variable {L : List W0} {X : Cx} {k n : Nat} {f C : Addr} {fd : FuncData} {ps ks : List Str} {m : Str} {p pos apos : Pos} {o : Expr} {kws : List Keyword} {r : RDx} {ta : TD} {tl : TLs} {ED : XD} {w0 : W0} {T : List (Addr × Str)} {perm : List Nat}
theorem methK_liftN {G : Gh} {σ : L2.St} {H : Hp} {Q : VK} (h : tE X.K G (eMethKX r C m NoX n perm ta tl) σ H Q) : tMethK C m (lspx X.K G.T r) n perm (fun _ _ _ => False) (tE X.K G ta) (tA X.K G tl) σ H Q := by
  obtain ⟨Y, β, S, ρ, Q', rl, q, kk⟩ := h
  refine ⟨Y, β, S, ρ, _, rl, q, fun x S1 v β1 H1 s1 r1 ⟨fs, hx, hl, q1⟩ => ?_⟩
  obtain ⟨a, dx, vs, rfl, ha, rf⟩ := ok_obj s1.ok r1 hx
  exact ⟨a, dx, vs, rfl, ha, rf.lookN hl, ⟨Y, β1, S1, ρ, _, rl.step s1, q1, fun xs S2 us β2 H2 s2 r2 ⟨l2, q2⟩ => ⟨by rw [r2.len]; exact l2, Y, β2, S2, x :: pick perm xs .non, Q', NoX, s2.ok.free, .cons (s2.rep r1) (Reps.pick r2 perm), q2, fun z S3 w β3 H3 s3 r3 q3 => kk z S3 w β3 H3 ((s1.trans s2).trans (s3.back s2.ok)) r3 q3, fun cls d H' ⟨_, _, _, _, _, _, _, _, _, _, _, _, z⟩ => z.elim⟩⟩⟩
theorem de_methKN {G : Gh} {pl : Sem Bool} (he : PE X o (tE X.K G ta)) (c : Cls X.K C) (hm : Meth X.K C m f) (F : FnG X.prog X.w X.K X.mg X.base (L2.CX X.prog X.w) k f fd ps (lspx X.K G.T r)) (hr : Room k X.A) (hgd : X.A.guards = some []) (hb : KwM X.K fd ps 0 ks perm)
    (hkw : PK X kws (tA X.K G tl)) (hl : ks.length = n) (hall : (backToKw pos (keywordEach kws X.env)).all (·.1.isSome) = true := by rfl) (hks : (backToKw pos (keywordEach kws X.env)).filterMap (·.1) = ks := by rfl)
    (hpl : ((backTo pos (starEach [] X.env)).any (·.1) || (backToKw pos (keywordEach kws X.env)).any (·.1.isNone)) = false := by rfl)
    (ht : eval (.Call (.Attribute o m apos) [] kws pos) X.env = (do
      let ov ← eval o X.env
      standAt apos.atName
      let (g, first) ← holding [ov] (getMethod ov m pl)
      callWith pos g first (backTo pos (starEach [] X.env)) (backToKw pos (keywordEach kws X.env))) := by rfl) :
    PE X (.Call (.Attribute o m apos) [] kws pos) (tE X.K G (eMethKX r C m NoX n perm ta tl)) := by
  subst hl
  exact (pe_methK he c hm F hr hgd hb passN hkw hall hks hpl ht).imp fun _ _ _ h => methK_liftN h
end
end NC
set_option Elab.async false
set_option linter.all false
set_option maxRecDepth 100000
set_option maxHeartbeats 4000000
namespace NC
open PySem PySem.Spec PyProof.Rows L2
def eMakeKX (K : PySem.W.Frag) (r : RDx) (C : Addr) (ED : XD) (m : Nat) (perm : List Nat) (tl : TLs) : TD := fun ρ S Q => tl ρ S fun xs S1 => xs.length = m ∧ KOk K C ∧ r (.ref S1.length :: pick perm xs .non) (S1 ++ [some (.ins C [])]) (fun d S2 => d = .non ∧ Q (.ref S1.length) S2) ED
section
variable {X : Cx} {k m : Nat} {f C : Addr} {fd : FuncData} {ps ks : List Str} {x : Str} {p pos : Pos} {kws : List Keyword} {perm : List Nat} {r : RDx} {tl : TLs}
theorem de_makeKN {G : Gh} (M : Mk X.K C f) (F : FnG X.prog X.w X.K X.mg X.base (L2.CX X.prog X.w) k f fd ps (lspx X.K G.T r)) (hr : Room (k + 1) X.A) (hgd : X.A.guards = some []) (hm : X.mg x = some (.ref C)) (hb : KwM X.K fd ps 0 ks perm) (hkw : PK X kws (tA X.K G tl)) (hl : ks.length = m) (hg : Gl X x := by rfl)
    (hall : (backToKw pos (keywordEach kws X.env)).all (·.1.isSome) = true := by rfl) (hks : (backToKw pos (keywordEach kws X.env)).filterMap (·.1) = ks := by rfl) (hdb : (x == ("__debug__" : Str)) = false := by decide)
    (hpl : ((backTo pos (starEach [] X.env)).any (·.1) || (backToKw pos (keywordEach kws X.env)).any (·.1.isNone)) = false := by rfl) : PE X (.Call (.Name x p) [] kws pos) (tE X.K G (eMakeKX X.K r C NoX m perm tl)) := by
  subst hl
  refine (pe_mkGK0 M F hr hgd hg hm hb passN hkw hall hks hdb hpl).imp ?_
  rintro σ H Q ⟨Y, β, S, ρ, Q', rl, q, kk⟩
  refine ⟨Y, β, S, ρ, _, rl, q, fun xs S1 vs β1 H1 s1 r1 ⟨hl, hk, q1⟩ => ⟨rfl, by rw [r1.len]; exact hl, fun y dx hy hd hn => ?_⟩⟩
  have s2 := s1.ok.made (C := C) hk hy hd hn
  refine ⟨Y, β1 ++ [y], _, _, _, NoX, s2.ok.free, .cons (.ref ?_) (s2.reps (Reps.pick r1 perm)), q1, ?_, fun cls d H' ⟨_, _, _, _, _, _, _, _, _, _, _, _, z⟩ => z.elim⟩
  · rw [← s1.ok.len, List.getElem?_append_right (Nat.le_refl _), Nat.sub_self]
    rfl
  · rintro z S3 w β3 H3 s3 r3 ⟨rfl, q3⟩
    cases r3
    refine ⟨rfl, kk _ S3 _ β3 H3 ((s1.trans s2).trans (s3.back s2.ok)) (.ref ?_) q3⟩
    refine s3.pre.get ?_
    rw [← s1.ok.len, List.getElem?_append_right (Nat.le_refl _), Nat.sub_self]
    rfl
end
end NC
set_option Elab.async false
set_option linter.all false
set_option maxRecDepth 100000
set_option maxHeartbeats 4000000
namespace NC
open PySem PySem.Spec PyProof.Rows L2
open NumText
abbrev sg (a : Str) : List Nat := a.cps.toList
def figs (l : List Nat) : List Nat := if l.take 1 = [45] then l.drop 1 else l
structure NumT (a : Str) (n : Int) : Prop where
  txt : intText? a = some n
  len : a.length ≤ 61
  ne : figs (sg a) ≠ []
  dig : AllDigits (figs (sg a))
  few : (figs (sg a)).length ≤ 60
  zero : (figs (sg a)).take 1 = [48] → sg a = [48]
  val : n = if (sg a).take 1 = [45] then -((digitsVal (figs (sg a)) : Nat) : Int) else ((digitsVal (figs (sg a)) : Nat) : Int)
section
variable {K : PySem.W.Frag} {C : Addr} {m : Str} {ta : TD} {tl : TLs} {ρ : Rho} {S : Store} {Q : QD} {r : RDx} {ED : XD}
theorem i_eMakeX (h : tl ρ S fun xs S1 => KOk K C ∧ r (.ref S1.length :: xs) (S1 ++ [some (.ins C [])]) (fun d S2 => d = .non ∧ Q (.ref S1.length) S2) ED) : eMakeX K r C ED tl ρ S Q := h
theorem i_eMethX (h : ta ρ S fun x S1 => ∃ fs, drf S1 x = .obj C fs ∧ fs.lookup m = none ∧ tl ρ S1 fun xs S2 => r (x :: xs) S2 Q ED) : eMethX r C m ED ta tl ρ S Q := h
end
end NC
set_option Elab.async false
set_option linter.all false
set_option maxRecDepth 100000
set_option maxHeartbeats 4000000
namespace NC
open PySem PySem.Spec PyProof.Rows L2
local macro_rules | `(tactic| walk_at "nc hd") => `(tactic| repeat (first | (with_reducible first | refine i_sIf ?_ | refine i_sNil ?_ | refine i_sRet ?_ | refine i_sAsg ?_ | refine i_sDrop ?_ | refine i_sPut ?_ | refine i_sPar ?_ | refine i_eC ?_ | refine i_eOp ?_ | refine i_eChain ?_ | refine i_eB ?_ | refine i_eUn ?_ | refine i_eTup ?_ | refine i_eLst ?_ | refine i_eLstM ?_ | refine i_eAnd ?_ | refine i_eOr ?_ | refine i_eNot ?_ | refine i_eIf ?_ | refine i_bOf ?_ | refine i_bAnd ?_ | refine i_bOr ?_ | refine i_bNot ?_ | refine i_bYes ?_ | refine i_aNil ?_ | refine i_aCons ?_ | refine i_eCall ?_ | refine i_eCallKw ?_ | refine i_eCut ?_ | refine i_oNone ?_ | refine i_oSome ?_ | refine i_eM ?_ | refine i_sSq ?_ | refine i_sRange1 ?_ | refine i_sRange2 ?_ | refine i_sEnum ?_ | refine i_eIsi ?_ | refine i_eIsi2 ?_ | refine i_eLc ?_ | refine i_eLcM ?_ | refine i_sFor ?_ | refine i_eDisp1 ?_ | refine i_bl ?_ | refine i_int ?_ | refine i_nm ?_ | refine i_one ?_ | refine i_two ?_ | refine i_rng ?_ | refine i_len0 ?_ | refine i_int1 ?_ | refine i_intb ?_ | refine i_abs ?_ | refine i_add ?_ | refine i_sub ?_ | refine i_lt ?_ | refine i_le ?_ | refine i_gt ?_ | refine i_ge ?_ | refine i_eqi ?_ | refine i_is ?_ | refine i_isn ?_ | refine i_nes ?_ | refine i_rbl ?_ | refine i_eCallX ?_ | refine i_eCallKwX ?_ | refine i_sRaiseF ?_ | refine i_eIsX ?_ | refine i_eFld ?_ | refine i_eDit1 ?_ | refine i_sTry ?_ | refine i_runX ?_ | refine i_ltU ?_ | refine i_isU ?_ | refine i_isnU ?_ | refine i_isS ?_ | refine i_isnS ?_ | refine i_isB ?_ | refine i_isnB ?_ | refine i_neg ?_ | refine i_eDcT ?_ | refine i_sPar3 ?_ | refine i_three ?_ | refine i_eFldU ?_ | refine i_eIsU ?_ | refine i_eFrzO ?_ | refine i_eMake ?_ | refine i_sFldP ?_ | refine i_eMeth ?_ | refine i_sWhile ?_ | refine i_aStar ?_ | refine i_eFn ?_ | refine i_sAsgL ?_ | refine i_sCont ?_ | refine i_sBrk ?_ | refine i_eDnT ?_ | refine i_eDnK ?_ | refine i_eDit1M ?_ | refine i_sDPutU ?_ | refine i_eListR2 ?_ | refine i_bool1 ?_ | refine i_eCName ?_ | refine i_sFlds ?_ | refine i_bTruL ?_ | refine i_eCutU ?_ | refine i_sStr ?_ | refine i_eJoined ?_ | refine i_dJs ?_ | refine i_dJn ?_ | refine i_eMakeX ?_ | refine i_eMethX ?_ | refine i_eFmt ?_ | refine i_eLc2 ?_ | refine i_sRng ?_ | refine i_sTryS ?_) | ((with_reducible refine i_eVarX ?_); refine ⟨_, rfl, ?_⟩) | ((with_reducible refine i_len1 ?_ ?_); · exact Nat.le_of_ble_eq_true rfl)))
local macro_rules | `(tactic| walk_at "nc hh") => `(tactic| repeat (first | (with_reducible first | refine nes_same ?_ | refine eqs_same ?_ | refine iteT ?_ | refine iteF ?_ | refine iteNT ?_ | refine iteNF ?_) | (with_reducible first | refine i_sIf ?_ | refine i_sNil ?_ | refine i_sRet ?_ | refine i_sAsg ?_ | refine i_sDrop ?_ | refine i_sPut ?_ | refine i_sPar ?_ | refine i_eC ?_ | refine i_eOp ?_ | refine i_eChain ?_ | refine i_eB ?_ | refine i_eUn ?_ | refine i_eTup ?_ | refine i_eLst ?_ | refine i_eLstM ?_ | refine i_eAnd ?_ | refine i_eOr ?_ | refine i_eNot ?_ | refine i_eIf ?_ | refine i_bOf ?_ | refine i_bAnd ?_ | refine i_bOr ?_ | refine i_bNot ?_ | refine i_bYes ?_ | refine i_aNil ?_ | refine i_aCons ?_ | refine i_eCall ?_ | refine i_eCallKw ?_ | refine i_eCut ?_ | refine i_oNone ?_ | refine i_oSome ?_ | refine i_eM ?_ | refine i_sSq ?_ | refine i_sRange1 ?_ | refine i_sRange2 ?_ | refine i_sEnum ?_ | refine i_eIsi ?_ | refine i_eIsi2 ?_ | refine i_eLc ?_ | refine i_eLcM ?_ | refine i_sFor ?_ | refine i_eDisp1 ?_ | refine i_bl ?_ | refine i_int ?_ | refine i_nm ?_ | refine i_one ?_ | refine i_two ?_ | refine i_rng ?_ | refine i_len0 ?_ | refine i_int1 ?_ | refine i_intb ?_ | refine i_abs ?_ | refine i_add ?_ | refine i_sub ?_ | refine i_lt ?_ | refine i_le ?_ | refine i_gt ?_ | refine i_ge ?_ | refine i_eqi ?_ | refine i_is ?_ | refine i_isn ?_ | refine i_nes ?_ | refine i_rbl ?_ | refine i_eCallX ?_ | refine i_eCallKwX ?_ | refine i_sRaiseF ?_ | refine i_eIsX ?_ | refine i_eFld ?_ | refine i_eDit1 ?_ | refine i_sTry ?_ | refine i_runX ?_ | refine i_ltU ?_ | refine i_isU ?_ | refine i_isnU ?_ | refine i_isS ?_ | refine i_isnS ?_ | refine i_isB ?_ | refine i_isnB ?_ | refine i_neg ?_ | refine i_eDcT ?_ | refine i_sPar3 ?_ | refine i_three ?_ | refine i_eFldU ?_ | refine i_eIsU ?_ | refine i_eFrzO ?_ | refine i_eMake ?_ | refine i_sFldP ?_ | refine i_eMeth ?_ | refine i_sWhile ?_ | refine i_aStar ?_ | refine i_eFn ?_ | refine i_sAsgL ?_ | refine i_sCont ?_ | refine i_sBrk ?_ | refine i_eDnT ?_ | refine i_eDnK ?_ | refine i_eDit1M ?_ | refine i_sDPutU ?_ | refine i_eListR2 ?_ | refine i_bool1 ?_ | refine i_eCName ?_ | refine i_sFlds ?_ | refine i_bTruL ?_ | refine i_eCutU ?_ | refine i_sStr ?_ | refine i_eJoined ?_ | refine i_dJs ?_ | refine i_dJn ?_ | refine i_eMakeX ?_ | refine i_eMethX ?_ | refine i_eFmt ?_ | refine i_eLc2 ?_ | refine i_sRng ?_ | refine i_sTryS ?_) | ((with_reducible refine i_eVarX ?_); refine ⟨_, rfl, ?_⟩) | ((with_reducible refine i_len1 ?_ ?_); · exact Nat.le_of_ble_eq_true rfl) | ((with_reducible first | refine i_ix0 ?_ | refine i_ix1 ?_ | refine i_ix2 ?_ | refine i_ix3 ?_); refine ⟨_, _, rfl, rfl, ?_⟩) | ((with_reducible refine i_tp ?_); refine ⟨_, by unfold bindT; rfl, ?_⟩) | ((with_reducible first | refine i_len ?_ | refine i_list ?_ | refine i_listU ?_ | refine i_tuple ?_ | refine i_sqE ?_); refine ⟨_, rfl, ?_⟩) | ((with_reducible refine i_modL ?_ ?_); · decide) | (with_reducible refine i_eqs ?_) | (with_reducible first | refine cl_power (by assumption) ?_ | refine cl_height (by assumption) ?_ | refine cl_origins (by assumption) ?_ | refine cl_lasted (by assumption) ?_ | refine cl_square (by assumption) ?_ | refine cl_turn (by assumption) ?_ | refine is_cl (by assumption) ?_ | refine st_wide (by assumption) ?_ | refine st_power (by assumption) ?_ | refine st_far (by assumption) ?_) | ((with_reducible refine i_kw ?_); refine ⟨rfl, rfl, ?_⟩)))
local macro_rules | `(tactic| walk_at "nc hs") => `(tactic| repeat (first | (with_reducible first | refine nes_same ?_ | refine eqs_same ?_ | refine iteT ?_ | refine iteF ?_ | refine iteNT ?_ | refine iteNF ?_) | (with_reducible first | refine i_sSeq ?_ | refine i_sIf ?_ | refine i_sNil ?_ | refine i_sRet ?_ | refine i_sAsg ?_ | refine i_sDrop ?_ | refine i_sPut ?_ | refine i_sPar ?_ | refine i_eC ?_ | refine i_eOp ?_ | refine i_eChain ?_ | refine i_eB ?_ | refine i_eUn ?_ | refine i_eTup ?_ | refine i_eLst ?_ | refine i_eLstM ?_ | refine i_eAnd ?_ | refine i_eOr ?_ | refine i_eNot ?_ | refine i_eIf ?_ | refine i_bOf ?_ | refine i_bAnd ?_ | refine i_bOr ?_ | refine i_bNot ?_ | refine i_bYes ?_ | refine i_aNil ?_ | refine i_aCons ?_ | refine i_eCall ?_ | refine i_eCallKw ?_ | refine i_eCut ?_ | refine i_oNone ?_ | refine i_oSome ?_ | refine i_eM ?_ | refine i_sSq ?_ | refine i_sRange1 ?_ | refine i_sRange2 ?_ | refine i_sEnum ?_ | refine i_eIsi ?_ | refine i_eIsi2 ?_ | refine i_eLc ?_ | refine i_eLcM ?_ | refine i_sFor ?_ | refine i_eDisp1 ?_ | refine i_bl ?_ | refine i_int ?_ | refine i_nm ?_ | refine i_one ?_ | refine i_two ?_ | refine i_rng ?_ | refine i_len0 ?_ | refine i_int1 ?_ | refine i_intb ?_ | refine i_abs ?_ | refine i_add ?_ | refine i_sub ?_ | refine i_lt ?_ | refine i_le ?_ | refine i_gt ?_ | refine i_ge ?_ | refine i_eqi ?_ | refine i_is ?_ | refine i_isn ?_ | refine i_nes ?_ | refine i_rbl ?_ | refine i_eCallX ?_ | refine i_eCallKwX ?_ | refine i_sRaiseF ?_ | refine i_eIsX ?_ | refine i_eFld ?_ | refine i_eDit1 ?_ | refine i_sTry ?_ | refine i_runX ?_ | refine i_ltU ?_ | refine i_isU ?_ | refine i_isnU ?_ | refine i_isS ?_ | refine i_isnS ?_ | refine i_isB ?_ | refine i_isnB ?_ | refine i_neg ?_ | refine i_eDcT ?_ | refine i_sPar3 ?_ | refine i_three ?_ | refine i_eFldU ?_ | refine i_eIsU ?_ | refine i_eFrzO ?_ | refine i_eMake ?_ | refine i_sFldP ?_ | refine i_eMeth ?_ | refine i_sWhile ?_ | refine i_aStar ?_ | refine i_eFn ?_ | refine i_sAsgL ?_ | refine i_sCont ?_ | refine i_sBrk ?_ | refine i_eDnT ?_ | refine i_eDnK ?_ | refine i_eDit1M ?_ | refine i_sDPutU ?_ | refine i_eListR2 ?_ | refine i_bool1 ?_ | refine i_eCName ?_ | refine i_sFlds ?_ | refine i_bTruL ?_ | refine i_eCutU ?_ | refine i_sStr ?_ | refine i_eJoined ?_ | refine i_dJs ?_ | refine i_dJn ?_ | refine i_eMakeX ?_ | refine i_eMethX ?_ | refine i_eFmt ?_ | refine i_eLc2 ?_ | refine i_sRng ?_ | refine i_sTryS ?_) | ((with_reducible refine i_eVarX ?_); refine ⟨_, rfl, ?_⟩) | ((with_reducible refine i_len1 ?_ ?_); · exact Nat.le_of_ble_eq_true rfl) | ((with_reducible first | refine i_ix0 ?_ | refine i_ix1 ?_ | refine i_ix2 ?_ | refine i_ix3 ?_); refine ⟨_, _, rfl, rfl, ?_⟩) | ((with_reducible refine i_tp ?_); refine ⟨_, by unfold bindT; rfl, ?_⟩) | ((with_reducible first | refine i_len ?_ | refine i_list ?_ | refine i_listU ?_ | refine i_tuple ?_ | refine i_sqE ?_); refine ⟨_, rfl, ?_⟩) | ((with_reducible refine i_modL ?_ ?_); · decide) | (with_reducible refine i_eqs ?_) | (with_reducible first | refine cl_power (by assumption) ?_ | refine cl_height (by assumption) ?_ | refine cl_origins (by assumption) ?_ | refine cl_lasted (by assumption) ?_ | refine cl_square (by assumption) ?_ | refine cl_turn (by assumption) ?_ | refine is_cl (by assumption) ?_ | refine st_wide (by assumption) ?_ | refine st_power (by assumption) ?_ | refine st_far (by assumption) ?_) | ((with_reducible refine i_kw ?_); refine ⟨rfl, rfl, ?_⟩)))
structure KSc (K : PySem.W.Frag) (cs : Cs) : Prop where
  c : IsaC K cs.Scan
  ko : KOk K cs.Scan
  words : NoAttr K cs.Scan "words"
  at_ : NoAttr K cs.Scan "at"
def scnO (cs : Cs) (ws : List Str) (i : Nat) : SO := .ins cs.Scan [("words", .lst (ws.map .str)), ("at", .int (i : Int))]
def Scn (cs : Cs) (S : Store) (n : Nat) (ws : List Str) (i : Nat) : Prop := S[n]? = some (some (scnO cs ws i)) ∧ i ≤ ws.length ∧ ws.length ≤ 1000000 ∧ ∀ w ∈ ws, w.length ≤ sizeLine
theorem Scn.lt {cs : Cs} {S : Store} {n : Nat} {ws : List Str} {i : Nat} (h : Scn cs S n ws i) : n < S.length := (List.getElem?_eq_some_iff.mp h.1).1
theorem Scn.drf {cs : Cs} {S : Store} {n : Nat} {ws : List Str} {i : Nat} (h : Scn cs S n ws i) : drf S (.ref n) = .obj cs.Scan [("words", .lst (ws.map .str)), ("at", .int (i : Int))] := by
  have := h.1
  unfold scnO at this
  simp only [NC.drf, this]
theorem Scn.put {cs : Cs} {S : Store} {n : Nat} {ws : List Str} {i j : Nat} (h : Scn cs S n ws i) (hj : j ≤ ws.length) : Scn cs (S.set n (some (scnO cs ws j))) n ws j := ⟨List.getElem?_set_self h.lt, hj, h.2.2.1, h.2.2.2⟩
def inB (o : Option Int) (lo hi : Option Int) : Bool := match o with
  | some n => within (.int n) lo hi
  | none => false
section
variable {K : PySem.W.Frag} {cs : Cs} {S : Store} {Q : QD} {n i : Nat} {ws : List Str}
end
end NC
set_option Elab.async false
set_option linter.all false
set_option maxRecDepth 100000
set_option maxHeartbeats 4000000
namespace NC
open PySem PySem.Spec PyProof.Rows L2
section
variable {X : Cx} {G : Gh}
end
end NC
set_option Elab.async false
set_option linter.all false
set_option maxRecDepth 100000
set_option maxHeartbeats 4000000
namespace NC
open PySem PySem.Spec PyProof.Rows L2
abbrev freshO (w : World) : Obj := { cls := .type "set", dict := none, data := .set #[] 0 (.fresh 0 0 (!w.params.followText "set-order")) }
section
variable {P : Program} {w : World} {A : Around} {E : Value → Shared → Prop} {s : Shared}
abbrev grown (w : World) (s : Shared) : Heap := s.heap.push (freshO w)
end
section
variable {X : Cx} {G : Gh}
end
end NC
set_option Elab.async false
set_option linter.all false
set_option maxRecDepth 100000
set_option maxHeartbeats 4000000
namespace NC
open PySem PySem.Spec PyProof.Rows L2
abbrev items (a : Str) : List Str := Txt.split a " "
end NC
set_option Elab.async false
set_option linter.all false
set_option maxRecDepth 100000
set_option maxHeartbeats 4000000
namespace NC
open PySem PySem.Spec PyProof.Rows L2
theorem Fun.binds0 {K : PySem.W.Frag} {x qual : Str} {st : Stmt} {f : Addr} {fd : FuncData} {ps : List Str} (F : Fun K x qual st f fd) (df : fd.defaults = .none)
    (h : ∀ (kV doc pm : Value) (an : Option Addr) (cdv ct : Value) (us : List Value), us.length = ps.length → bindArgs (PySem.W.fnOf x qual (defArgs st) (defBody st) (defScope st) .none kV doc pm an cdv ct) ⟨us, []⟩ = pure (ps.zip us)) : Binds K fd ps [] := by
  obtain ⟨oc, od, dV, kV, doc, pm, an, cdv, ct, osl, rfl, lk, hcd⟩ := F.ex
  have e : dV = .none := df
  subst e
  exact .all (h kV doc pm an cdv ct)
end NC
set_option Elab.async false
set_option linter.all false
set_option maxRecDepth 100000
set_option maxHeartbeats 4000000
namespace L2
open PySem PySem.Spec PyProof.Rows
section
variable {X : Cx} {tg : Expr}
end
end L2
namespace NC
open PySem PySem.Spec PyProof.Rows L2
section
variable {X : Cx} {G : Gh}
def rExtU : RDm := fun x xs S Q => ∃ n ys d zs, x = .ref n ∧ xs = [d] ∧ S[n]? = some (some (.lst ys)) ∧ (d = .lst zs ∨ ∃ m, d = .ref m ∧ S[m]? = some (some (.lst zs))) ∧ ys.length + zs.length ≤ sizeLine ∧ Q .non (S.set n (some (.lst (ys ++ zs))))
theorem m_ext : MtR X "list.extend" (lm X.K G rExtU) := by
  intro pins s σ H x vs v us Q I rx rv ⟨Y, β, S, dx, xs, Q', o, r1, rs, ⟨n, ys, d, zs, ex, exs, hS, hd, hl, q⟩, k⟩
  subst ex
  subst exs
  obtain ⟨a, ws, rfl, e1, h1, rr⟩ := ref_at o r1 hS
  obtain ⟨w, rfl, rw1⟩ := rs.one
  have hb : ∃ b ts, w = .ref b ∧ H b = some (.lst ts) ∧ Reps X.K (hid Y β S H) β ts zs := by
    rcases hd with rfl | ⟨m, rfl, hm⟩
    · have r2 := o.drf rw1
      cases rw1 with
      | @lst b ts _ hB rz =>
        cases r2 with
        | @lst _ ts2 _ hB2 rz2 =>
          have e : hid Y β S H b = some (.lst ts) := hB
          exact ⟨b, ts, rfl, by
            exact hid_ex _ _ e, rz⟩
    · obtain ⟨b, ts, e, _, h2, r2⟩ := ref_at o rw1 hm
      exact ⟨b, ts, e, h2, r2⟩
  obtain ⟨b, ts, rfl, hB, rz⟩ := hb
  have st := o.put hS e1 (rr.append rz)
  exact mt_extend pins s σ H _ _ v us Q I rx rv ⟨a, b, ws, ts, rfl, rfl, h1, hB, by rw [rr.len, rz.len]; exact hl, k _ _ _ _ _ st .non q⟩
end
end NC
set_option Elab.async false
set_option linter.all false
set_option maxRecDepth 100000
set_option maxHeartbeats 4000000
namespace NC
open PySem PySem.Spec PyProof.Rows L2
open Evl (Ex)
section
variable {K : PySem.W.Frag} {G : Gh}
end
section
variable {X : Cx} {G : Gh} {e : Expr} {ts ts1 : TSr} {t t1 : Tg} {tt tt1 : TB} {te : TD} {vs vs1 : List Nat}
end
section
variable {ρ : Rho} {S : Store} {Q : QD} {ts ts1 : TSr} {t t1 : Tg} {tt tt1 : TB} {ta te : TD} {vs vs1 : List Nat}
end
end NC
set_option Elab.async false
set_option linter.all false
set_option maxRecDepth 100000
set_option maxHeartbeats 4000000
namespace NC
open PySem PySem.Spec PyProof.Rows L2
section
variable {X : Cx} {G : Gh}
theorem vals_at : ∀ {ws : List V} {its : List Value}, Vals ws its → ∀ {i : Nat} {v : Value}, its[i]? = some v → ∃ w, ws[i]? = some w ∧ RelV w v
  | _, _, .nil, i, v, h => by simp at h
  | _, _, .cons r _, 0, v, h => by
    simp only [List.getElem?_cons_zero, Option.some.injEq] at h
    subst h
    exact ⟨_, rfl, r⟩
  | _, _, .cons _ rs, i + 1, v, h => by
    simp only [List.getElem?_cons_succ] at h ⊢
    exact vals_at rs h
theorem pds_sq (ps : List Sq) : pds (ps.map sqD) = ps.map PySem.W.Datum.toD := by
  induction ps with
  | nil => rfl
  | cons p ps ih =>
    show pd (sqD p) :: pds (ps.map sqD) = _ :: _
    rw [ih]
    rfl
def rMaxQ : RDs := fun xs S Q => ∃ (ps : List Sq), xs = [.lst (ps.map sqD)] ∧ ps ≠ [] ∧ ∀ p ∈ ps, Q (sqD p) S
theorem c_maxQ (hc : X.calm = true) (hu : X.A.units + 65 < cLine) : CallR X (.builtin "max") (ls X.K G rMaxQ) := by
  rintro pins s σ H vs us Q I r ⟨Y, β, S, xs, Q', o, rr, ⟨ps, rfl, hn, q⟩, k⟩
  obtain ⟨v, rfl, rv⟩ := rr.one
  cases rv with
  | @lst a ws _ hH' rp =>
    have hH : H a = some (.lst ws) := hid_ex _ _ hH'
    obtain ⟨u, rfl, ru⟩ := r.one
    cases ru
    obtain ⟨its, rvl, hl, _⟩ := I.list (.inl (.inl hH))
    obtain ⟨d1, _, p1⟩ := fls_dp (fls_sq 1 ps) (rp.mono hid_ex (.refl _))
    obtain ⟨as, ra⟩ := Dp.readsAll I _ _ _ d1 rvl
    rw [pds_sq] at ra p1
    obtain ⟨p, ps, rfl⟩ : ∃ p qs, ps = p :: qs := by
      cases ps with
      | nil => exact absurd rfl hn
      | cons p qs => exact ⟨p, qs, rfl⟩
    rw [List.map_cons] at ra p1
    have al := PySem.W.alikeAll_datum (p :: ps)
    rw [List.map_cons] at al
    refine PySem.W.max_list_data (I.ok.hd hc) hl.isList (by simpa using ra) al (by omega) fun i v h' tk bs hv _ hk => ?_
    rw [List.getElem?_toArray] at hv
    obtain ⟨w, hw, rw'⟩ := vals_at rvl hv
    obtain ⟨y, hy, ry⟩ := rp.getV hw
    rw [List.getElem?_map] at hy
    obtain ⟨p2, hp2, rfl⟩ := Option.map_eq_some_iff.mp hy
    refine ⟨w, H, I.kept hk, rw', k _ S _ β H (.refl o) ?_ (q p2 (List.mem_of_getElem? hp2))⟩
    exact ry
def rMaxU3 : RDs := fun xs S Q => rMaxU xs S Q ∨ rMaxQ xs S Q
theorem c_maxU3 (hc : X.calm = true) (hu : X.A.units + 65 < cLine) : CallR X (.builtin "max") (ls X.K G rMaxU3) := call_or (c_maxU hc) (c_maxQ hc hu)
end
end NC
set_option Elab.async false
set_option linter.all false
set_option maxRecDepth 100000
set_option maxHeartbeats 4000000
namespace NC
open PySem PySem.Spec PyProof.Rows L2
end NC
set_option Elab.async false
set_option linter.all false
set_option maxRecDepth 100000
set_option maxHeartbeats 1000000
namespace NC
open PySem PySem.Spec PyProof.Rows L2
open Evl (Ex)
section
variable {X : Cx} {pins : List (Addr × Obj)} {σ : L2.St} {H : Hp} {s : Shared} {a : Addr}
variable {body : List Stmt} {hd₀ : ExceptHandler} {hds : List ExceptHandler} {cl : List Cl} {pos : Pos} {tb : WX → TS} {Wout : WX}
end
section
variable {X : Cx} {k : Nat} {f : Addr} {fd : FuncData} {ps : List Str} {sp : Sp} {dvs : List V} {ds : List Value} {E : XK} {x : Str} {p pos : Pos} {e : Expr} {es : List Expr} {t : TA} {σ0 : L2.St}
variable {L : List W0} {r : RDx} {tl : TLs} {ED : XD} {w0 : W0} {T : List (Addr × Str)} {rest : List Stmt} {sv : TSd} {pos' : Pos}
end
section
variable {K : PySem.W.Frag} {EDo : XD} {ts : XD → TSd} {cl : List ClD} {N : DN} {ρ : Rho} {S : Store}
end
section
variable {X : Cx} {G : Gh} {hds : List ExceptHandler} {cl : List ClD} {body : List Stmt} {hd₀ : ExceptHandler} {pos : Pos} {tb : XD → TSd} {Wout : WX} {EDo : XD}
end
end NC
set_option Elab.async false
set_option linter.all false
set_option maxRecDepth 100000
set_option maxHeartbeats 4000000
namespace NC
open PySem PySem.Spec PyProof.Rows L2
/- data, dicts of one entry among them, at most n deep -/
section
variable {X : Cx} {pins : List (Addr × Obj)} {σ : L2.St} {H : Hp} {s : Shared} {β : List Addr}
end
end NC
set_option Elab.async false
set_option linter.all false
set_option maxRecDepth 100000
set_option maxHeartbeats 4000000
namespace NC
open PySem PySem.Spec PyProof.Rows L2
end NC
set_option Elab.async false
set_option linter.all false
set_option maxRecDepth 100000
set_option maxHeartbeats 4000000
namespace NC
open PySem PySem.Spec PyProof.Rows L2
section
open PySem.W
variable {prog : Program} {w : World} {A : Around} {E : Value → Shared → Prop} {s : Shared} {K : Frag} {x y C D f L : Addr} {h₀ : Heap} {m : Str → Option Value} {ox oy : Obj} {od od' : Option Obj}
end
end NC
set_option Elab.async false
set_option linter.all false
set_option maxRecDepth 100000
set_option maxHeartbeats 4000000
namespace NC
open PySem PySem.Spec PyProof.Rows L2
local macro_rules | `(tactic| walk_at "nc hh") => `(tactic| repeat (first | (with_reducible first | refine nes_same ?_ | refine eqs_same ?_ | refine iteT ?_ | refine iteF ?_ | refine iteNT ?_ | refine iteNF ?_) | (with_reducible first | refine i_sIf ?_ | refine i_sNil ?_ | refine i_sRet ?_ | refine i_sAsg ?_ | refine i_sDrop ?_ | refine i_sPut ?_ | refine i_sPar ?_ | refine i_eC ?_ | refine i_eOp ?_ | refine i_eChain ?_ | refine i_eB ?_ | refine i_eUn ?_ | refine i_eTup ?_ | refine i_eLst ?_ | refine i_eLstM ?_ | refine i_eAnd ?_ | refine i_eOr ?_ | refine i_eNot ?_ | refine i_eIf ?_ | refine i_bOf ?_ | refine i_bAnd ?_ | refine i_bOr ?_ | refine i_bNot ?_ | refine i_bYes ?_ | refine i_aNil ?_ | refine i_aCons ?_ | refine i_eCall ?_ | refine i_eCallKw ?_ | refine i_eCut ?_ | refine i_oNone ?_ | refine i_oSome ?_ | refine i_eM ?_ | refine i_sSq ?_ | refine i_sRange1 ?_ | refine i_sRange2 ?_ | refine i_sEnum ?_ | refine i_eIsi ?_ | refine i_eIsi2 ?_ | refine i_eLc ?_ | refine i_eLcM ?_ | refine i_sFor ?_ | refine i_eDisp1 ?_ | refine i_bl ?_ | refine i_int ?_ | refine i_nm ?_ | refine i_one ?_ | refine i_two ?_ | refine i_rng ?_ | refine i_len0 ?_ | refine i_int1 ?_ | refine i_intb ?_ | refine i_abs ?_ | refine i_add ?_ | refine i_sub ?_ | refine i_lt ?_ | refine i_le ?_ | refine i_gt ?_ | refine i_ge ?_ | refine i_eqi ?_ | refine i_is ?_ | refine i_isn ?_ | refine i_nes ?_ | refine i_rbl ?_ | refine i_eCallX ?_ | refine i_eCallKwX ?_ | refine i_sRaiseF ?_ | refine i_eIsX ?_ | refine i_eFld ?_ | refine i_eDit1 ?_ | refine i_sTry ?_ | refine i_runX ?_ | refine i_ltU ?_ | refine i_isU ?_ | refine i_isnU ?_ | refine i_isS ?_ | refine i_isnS ?_ | refine i_isB ?_ | refine i_isnB ?_ | refine i_neg ?_ | refine i_eDcT ?_ | refine i_sPar3 ?_ | refine i_three ?_ | refine i_eFldU ?_ | refine i_eIsU ?_ | refine i_eFrzO ?_ | refine i_eMake ?_ | refine i_sFldP ?_ | refine i_eMeth ?_ | refine i_sWhile ?_ | refine i_aStar ?_ | refine i_eFn ?_ | refine i_sAsgL ?_ | refine i_sCont ?_ | refine i_sBrk ?_ | refine i_eDnT ?_ | refine i_eDnK ?_ | refine i_eDit1M ?_ | refine i_sDPutU ?_ | refine i_eListR2 ?_ | refine i_bool1 ?_ | refine i_eCName ?_ | refine i_sFlds ?_ | refine i_bTruL ?_ | refine i_eCutU ?_ | refine i_sStr ?_ | refine i_eJoined ?_ | refine i_dJs ?_ | refine i_dJn ?_ | refine i_eMakeX ?_ | refine i_eMethX ?_ | refine i_eFmt ?_ | refine i_eLc2 ?_ | refine i_sRng ?_ | refine i_sTryS ?_) | ((with_reducible refine i_eVarX ?_); refine ⟨_, rfl, ?_⟩) | ((with_reducible refine i_len1 ?_ ?_); · exact Nat.le_of_ble_eq_true rfl) | ((with_reducible first | refine i_ix0 ?_ | refine i_ix1 ?_ | refine i_ix2 ?_ | refine i_ix3 ?_); refine ⟨_, _, rfl, rfl, ?_⟩) | ((with_reducible refine i_tp ?_); refine ⟨_, by unfold bindT; rfl, ?_⟩) | ((with_reducible first | refine i_len ?_ | refine i_list ?_ | refine i_listU ?_ | refine i_tuple ?_ | refine i_sqE ?_); refine ⟨_, rfl, ?_⟩) | ((with_reducible refine i_modL ?_ ?_); · decide) | (with_reducible refine i_eqs ?_) | (with_reducible first | refine cl_power (by assumption) ?_ | refine cl_height (by assumption) ?_ | refine cl_origins (by assumption) ?_ | refine cl_lasted (by assumption) ?_ | refine cl_square (by assumption) ?_ | refine cl_turn (by assumption) ?_ | refine is_cl (by assumption) ?_ | refine st_wide (by assumption) ?_ | refine st_power (by assumption) ?_ | refine st_far (by assumption) ?_) | ((with_reducible refine i_kw ?_); refine ⟨rfl, rfl, ?_⟩)))
local macro_rules | `(tactic| walk_at "nc hs") => `(tactic| repeat (first | (with_reducible first | refine nes_same ?_ | refine eqs_same ?_ | refine iteT ?_ | refine iteF ?_ | refine iteNT ?_ | refine iteNF ?_) | (with_reducible first | refine i_sSeq ?_ | refine i_sIf ?_ | refine i_sNil ?_ | refine i_sRet ?_ | refine i_sAsg ?_ | refine i_sDrop ?_ | refine i_sPut ?_ | refine i_sPar ?_ | refine i_eC ?_ | refine i_eOp ?_ | refine i_eChain ?_ | refine i_eB ?_ | refine i_eUn ?_ | refine i_eTup ?_ | refine i_eLst ?_ | refine i_eLstM ?_ | refine i_eAnd ?_ | refine i_eOr ?_ | refine i_eNot ?_ | refine i_eIf ?_ | refine i_bOf ?_ | refine i_bAnd ?_ | refine i_bOr ?_ | refine i_bNot ?_ | refine i_bYes ?_ | refine i_aNil ?_ | refine i_aCons ?_ | refine i_eCall ?_ | refine i_eCallKw ?_ | refine i_eCut ?_ | refine i_oNone ?_ | refine i_oSome ?_ | refine i_eM ?_ | refine i_sSq ?_ | refine i_sRange1 ?_ | refine i_sRange2 ?_ | refine i_sEnum ?_ | refine i_eIsi ?_ | refine i_eIsi2 ?_ | refine i_eLc ?_ | refine i_eLcM ?_ | refine i_sFor ?_ | refine i_eDisp1 ?_ | refine i_bl ?_ | refine i_int ?_ | refine i_nm ?_ | refine i_one ?_ | refine i_two ?_ | refine i_rng ?_ | refine i_len0 ?_ | refine i_int1 ?_ | refine i_intb ?_ | refine i_abs ?_ | refine i_add ?_ | refine i_sub ?_ | refine i_lt ?_ | refine i_le ?_ | refine i_gt ?_ | refine i_ge ?_ | refine i_eqi ?_ | refine i_is ?_ | refine i_isn ?_ | refine i_nes ?_ | refine i_rbl ?_ | refine i_eCallX ?_ | refine i_eCallKwX ?_ | refine i_sRaiseF ?_ | refine i_eIsX ?_ | refine i_eFld ?_ | refine i_eDit1 ?_ | refine i_sTry ?_ | refine i_runX ?_ | refine i_ltU ?_ | refine i_isU ?_ | refine i_isnU ?_ | refine i_isS ?_ | refine i_isnS ?_ | refine i_isB ?_ | refine i_isnB ?_ | refine i_neg ?_ | refine i_eDcT ?_ | refine i_sPar3 ?_ | refine i_three ?_ | refine i_eFldU ?_ | refine i_eIsU ?_ | refine i_eFrzO ?_ | refine i_eMake ?_ | refine i_sFldP ?_ | refine i_eMeth ?_ | refine i_sWhile ?_ | refine i_aStar ?_ | refine i_eFn ?_ | refine i_sAsgL ?_ | refine i_sCont ?_ | refine i_sBrk ?_ | refine i_eDnT ?_ | refine i_eDnK ?_ | refine i_eDit1M ?_ | refine i_sDPutU ?_ | refine i_eListR2 ?_ | refine i_bool1 ?_ | refine i_eCName ?_ | refine i_sFlds ?_ | refine i_bTruL ?_ | refine i_eCutU ?_ | refine i_sStr ?_ | refine i_eJoined ?_ | refine i_dJs ?_ | refine i_dJn ?_ | refine i_eMakeX ?_ | refine i_eMethX ?_ | refine i_eFmt ?_ | refine i_eLc2 ?_ | refine i_sRng ?_ | refine i_sTryS ?_) | ((with_reducible refine i_eVarX ?_); refine ⟨_, rfl, ?_⟩) | ((with_reducible refine i_len1 ?_ ?_); · exact Nat.le_of_ble_eq_true rfl) | ((with_reducible first | refine i_ix0 ?_ | refine i_ix1 ?_ | refine i_ix2 ?_ | refine i_ix3 ?_); refine ⟨_, _, rfl, rfl, ?_⟩) | ((with_reducible refine i_tp ?_); refine ⟨_, by unfold bindT; rfl, ?_⟩) | ((with_reducible first | refine i_len ?_ | refine i_list ?_ | refine i_listU ?_ | refine i_tuple ?_ | refine i_sqE ?_); refine ⟨_, rfl, ?_⟩) | ((with_reducible refine i_modL ?_ ?_); · decide) | (with_reducible refine i_eqs ?_) | (with_reducible first | refine cl_power (by assumption) ?_ | refine cl_height (by assumption) ?_ | refine cl_origins (by assumption) ?_ | refine cl_lasted (by assumption) ?_ | refine cl_square (by assumption) ?_ | refine cl_turn (by assumption) ?_ | refine is_cl (by assumption) ?_ | refine st_wide (by assumption) ?_ | refine st_power (by assumption) ?_ | refine st_far (by assumption) ?_) | ((with_reducible refine i_kw ?_); refine ⟨rfl, rfl, ?_⟩)))
section
variable {S : Store} {Q : QD}
end
end NC
set_option Elab.async false
set_option linter.all false
set_option maxRecDepth 100000
set_option maxHeartbeats 4000000
namespace NC
open PySem PySem.Spec PyProof.Rows L2
open AutoSeq1 (wpAny_loadPart')
section
variable {X : Cx} {G : Gh} {e : Expr} {ta : TD} {p pos : Pos}
variable {ρ : Rho} {S : Store} {Q : List D → (Store → Prop) → Store → Prop}
end
end NC
set_option Elab.async false
set_option linter.all false
set_option maxRecDepth 100000
set_option maxHeartbeats 4000000
namespace NC
open PySem PySem.Spec PyProof.Rows L2
local macro_rules | `(tactic| walk_at "nc hd") => `(tactic| repeat (first | (with_reducible first | refine i_sIf ?_ | refine i_sNil ?_ | refine i_sRet ?_ | refine i_sAsg ?_ | refine i_sDrop ?_ | refine i_sPut ?_ | refine i_sPar ?_ | refine i_eC ?_ | refine i_eOp ?_ | refine i_eChain ?_ | refine i_eB ?_ | refine i_eUn ?_ | refine i_eTup ?_ | refine i_eLst ?_ | refine i_eLstM ?_ | refine i_eAnd ?_ | refine i_eOr ?_ | refine i_eNot ?_ | refine i_eIf ?_ | refine i_bOf ?_ | refine i_bAnd ?_ | refine i_bOr ?_ | refine i_bNot ?_ | refine i_bYes ?_ | refine i_aNil ?_ | refine i_aCons ?_ | refine i_eCall ?_ | refine i_eCallKw ?_ | refine i_eCut ?_ | refine i_oNone ?_ | refine i_oSome ?_ | refine i_eM ?_ | refine i_sSq ?_ | refine i_sRange1 ?_ | refine i_sRange2 ?_ | refine i_sEnum ?_ | refine i_eIsi ?_ | refine i_eIsi2 ?_ | refine i_eLc ?_ | refine i_eLcM ?_ | refine i_sFor ?_ | refine i_eDisp1 ?_ | refine i_bl ?_ | refine i_int ?_ | refine i_nm ?_ | refine i_one ?_ | refine i_two ?_ | refine i_rng ?_ | refine i_len0 ?_ | refine i_int1 ?_ | refine i_intb ?_ | refine i_abs ?_ | refine i_add ?_ | refine i_sub ?_ | refine i_lt ?_ | refine i_le ?_ | refine i_gt ?_ | refine i_ge ?_ | refine i_eqi ?_ | refine i_is ?_ | refine i_isn ?_ | refine i_nes ?_ | refine i_rbl ?_ | refine i_eCallX ?_ | refine i_eCallKwX ?_ | refine i_sRaiseF ?_ | refine i_eIsX ?_ | refine i_eFld ?_ | refine i_eDit1 ?_ | refine i_sTry ?_ | refine i_runX ?_ | refine i_ltU ?_ | refine i_isU ?_ | refine i_isnU ?_ | refine i_isS ?_ | refine i_isnS ?_ | refine i_isB ?_ | refine i_isnB ?_ | refine i_neg ?_ | refine i_eDcT ?_ | refine i_sPar3 ?_ | refine i_three ?_ | refine i_eFldU ?_ | refine i_eIsU ?_ | refine i_eFrzO ?_ | refine i_eMake ?_ | refine i_sFldP ?_ | refine i_eMeth ?_ | refine i_sWhile ?_ | refine i_aStar ?_ | refine i_eFn ?_ | refine i_sAsgL ?_ | refine i_sCont ?_ | refine i_sBrk ?_ | refine i_eDnT ?_ | refine i_eDnK ?_ | refine i_eDit1M ?_ | refine i_sDPutU ?_ | refine i_eListR2 ?_ | refine i_bool1 ?_ | refine i_eCName ?_ | refine i_sFlds ?_ | refine i_bTruL ?_ | refine i_eCutU ?_ | refine i_sStr ?_ | refine i_eJoined ?_ | refine i_dJs ?_ | refine i_dJn ?_ | refine i_eMakeX ?_ | refine i_eMethX ?_ | refine i_eFmt ?_ | refine i_eLc2 ?_ | refine i_sRng ?_ | refine i_sTryS ?_) | ((with_reducible refine i_eVarX ?_); refine ⟨_, rfl, ?_⟩) | ((with_reducible refine i_len1 ?_ ?_); · exact Nat.le_of_ble_eq_true rfl)))
local macro_rules | `(tactic| walk_at "nc hq") => `(tactic| repeat (first | (with_reducible first | refine i_sSeq ?_ | refine i_sIf ?_ | refine i_sNil ?_ | refine i_sRet ?_ | refine i_sAsg ?_ | refine i_sDrop ?_ | refine i_sPut ?_ | refine i_sPar ?_ | refine i_eC ?_ | refine i_eOp ?_ | refine i_eChain ?_ | refine i_eB ?_ | refine i_eUn ?_ | refine i_eTup ?_ | refine i_eLst ?_ | refine i_eLstM ?_ | refine i_eAnd ?_ | refine i_eOr ?_ | refine i_eNot ?_ | refine i_eIf ?_ | refine i_bOf ?_ | refine i_bAnd ?_ | refine i_bOr ?_ | refine i_bNot ?_ | refine i_bYes ?_ | refine i_aNil ?_ | refine i_aCons ?_ | refine i_eCall ?_ | refine i_eCallKw ?_ | refine i_eCut ?_ | refine i_oNone ?_ | refine i_oSome ?_ | refine i_eM ?_ | refine i_sSq ?_ | refine i_sRange1 ?_ | refine i_sRange2 ?_ | refine i_sEnum ?_ | refine i_eIsi ?_ | refine i_eIsi2 ?_ | refine i_eLc ?_ | refine i_eLcM ?_ | refine i_sFor ?_ | refine i_eDisp1 ?_ | refine i_bl ?_ | refine i_int ?_ | refine i_nm ?_ | refine i_one ?_ | refine i_two ?_ | refine i_rng ?_ | refine i_len0 ?_ | refine i_int1 ?_ | refine i_intb ?_ | refine i_abs ?_ | refine i_add ?_ | refine i_sub ?_ | refine i_lt ?_ | refine i_le ?_ | refine i_gt ?_ | refine i_ge ?_ | refine i_eqi ?_ | refine i_is ?_ | refine i_isn ?_ | refine i_nes ?_ | refine i_rbl ?_ | refine i_eCallX ?_ | refine i_eCallKwX ?_ | refine i_sRaiseF ?_ | refine i_eIsX ?_ | refine i_eFld ?_ | refine i_eDit1 ?_ | refine i_sTry ?_ | refine i_runX ?_ | refine i_ltU ?_ | refine i_isU ?_ | refine i_isnU ?_ | refine i_isS ?_ | refine i_isnS ?_ | refine i_isB ?_ | refine i_isnB ?_ | refine i_neg ?_ | refine i_eDcT ?_ | refine i_sPar3 ?_ | refine i_three ?_ | refine i_eFldU ?_ | refine i_eIsU ?_ | refine i_eFrzO ?_ | refine i_eMake ?_ | refine i_sFldP ?_ | refine i_eMeth ?_ | refine i_sWhile ?_ | refine i_aStar ?_ | refine i_eFn ?_ | refine i_sAsgL ?_ | refine i_sCont ?_ | refine i_sBrk ?_ | refine i_eDnT ?_ | refine i_eDnK ?_ | refine i_eDit1M ?_ | refine i_sDPutU ?_ | refine i_eListR2 ?_ | refine i_bool1 ?_ | refine i_eCName ?_ | refine i_sFlds ?_ | refine i_bTruL ?_ | refine i_eCutU ?_ | refine i_sStr ?_ | refine i_eJoined ?_ | refine i_dJs ?_ | refine i_dJn ?_ | refine i_eMakeX ?_ | refine i_eMethX ?_ | refine i_eFmt ?_ | refine i_eLc2 ?_ | refine i_sRng ?_ | refine i_sTryS ?_) | ((with_reducible refine i_eVarX ?_); refine ⟨_, rfl, ?_⟩) | ((with_reducible refine i_len1 ?_ ?_); · exact Nat.le_of_ble_eq_true rfl)))
def r_is_squareG : RDs := fun xs S Q => ∃ d, xs = [d] ∧ Flat (drf S d) ∧ Q (.bl (isSq (drf S d))) S
def LotG (S : Store) (d e : D) : Prop := (∃ t, tyV (drf S d) = some t) ∧ ((isLst (drf S d) = false ∧ isTup (drf S d) = false ∧ seqOf e = none) ∨ ∃ ys, (drf S d = .lst ys ∨ drf S d = .tup ys) ∧ seqOf e = some (ys.map (drf S)) ∧ ys.length < 60 ∧ ∀ y ∈ ys, Flat (drf S y))
def r_are_squaresG : RDs := fun xs S Q => ∃ d e, xs = [d] ∧ LotG S d e ∧ Q (.bl (areSq e)) S
def r_need_squareG (cs : Cs) : RDx := fun xs S Q E => ∃ d p, xs = [d, .str p] ∧ p.length ≤ 900 ∧ Flat (drf S d) ∧ (isSq (drf S d) = false → E (cs.BadSquare, [("part", .str p)]) S) ∧ (isSq (drf S d) = true → Q (sqD (sqOf (drf S d))) S)
def r_need_squaresG (cs : Cs) : RDx := fun xs S Q E => ∃ d e p, xs = [d, .str p] ∧ p.length ≤ 900 ∧ LotG S d e ∧ (areSq e = false → E (cs.BadSquares, [("part", .str p)]) S) ∧
  (areSq e = true → ∀ qs : List (Int × Int), qs.Perm (sqsOf e) → qs.Pairwise (fun p q => ltS q p = false) → Q (.tup (qs.map sqD)) S)
def b_is_squareG : TSd := (sRet (eAnd (eIsi2 "list" "tuple" (eVar 0)) (eAnd (eOp rEq3 (eB rLen (aCons (eVar 0) aNil)) (eC (.int 2))) (eB rAll2 (aCons (eLc (sSq (eVar 0)) (.nm 1) bYes (eCall r_is_integer (aCons (eVar 1) aNil)) [1]) aNil)))))
def b_are_squaresG : TSd := (sSeq (sIf (bOr (bNot (bOf (eIsi2 "list" "tuple" (eVar 0)))) (bNot (bOf (eB rAll2 (aCons (eLc (sSq (eVar 0)) (.nm 1) bYes (eCall r_is_squareG (aCons (eVar 1) aNil)) [1]) aNil)))))
    (sRet (eC (.bl false)))
    sNil)
    (sRet (eOp rEq3 (eUn rLenSet (eLc (sSq (eVar 0)) (.nm 1) bYes (eB rTuple (aCons (eVar 1) aNil)) [1])) (eB rLen (aCons (eVar 0) aNil)))))
def b_need_squareG (K : PySem.W.Frag) (cs : Cs) : XD → TSd := fun ED => (sSeq (sIf (bNot (bOf (eCall r_is_squareG (aCons (eVar 0) aNil))))
    (sRaiseF ED cs.BadSquare true ["part"] (aCons (eVar 1) aNil))
    sNil)
    (sRet (eB rTuple (aCons (eVar 0) aNil))))
def b_need_squaresG (K : PySem.W.Frag) (cs : Cs) : XD → TSd := fun ED => (sSeq (sIf (bNot (bOf (eCall r_are_squaresG (aCons (eVar 0) aNil))))
    (sRaiseF ED cs.BadSquares true ["part"] (aCons (eVar 1) aNil))
    sNil)
    (sRet (eB rTuple (aCons (eB rSortP (aCons (eLc (sSq (eVar 0)) (.nm 2) bYes (eB rTuple (aCons (eVar 2) aNil)) [2]) aNil)) aNil))))
theorem len_is_squareG (xs : List D) (S : Store) (Q : QD) (h : r_is_squareG xs S Q) : xs.length = 1 := by obtain ⟨_, rfl, _⟩ := h; rfl
theorem len_are_squaresG (xs : List D) (S : Store) (Q : QD) (h : r_are_squaresG xs S Q) : xs.length = 1 := by obtain ⟨_, _, rfl, _⟩ := h; rfl
theorem len_need_squareG (cs : Cs) (xs : List D) (S : Store) (Q : QD) (E : XD) (h : r_need_squareG cs xs S Q E) : xs.length = 2 := by obtain ⟨_, _, rfl, _⟩ := h; rfl
theorem len_need_squaresG (cs : Cs) (xs : List D) (S : Store) (Q : QD) (E : XD) (h : r_need_squaresG cs xs S Q E) : xs.length = 2 := by obtain ⟨_, _, _, rfl, _⟩ := h; rfl
theorem run_is_squareG (xs : List D) (S : Store) (Q : QD) (h : r_is_squareG xs S Q) : runD 2 b_is_squareG xs S Q := by
  obtain ⟨d, rfl, ⟨⟨t, ht⟩, _, hf⟩, q⟩ := h
  refine i_runD ?_
  unfold b_is_squareG
  walk_at "nc hd"
  refine ⟨_, _, isiV_list ht, isiV_tuple ht, ?_⟩
  walk_at "nc hd"
  refine ite_by (fun hs => ?_) (fun hs => ?_)
  · obtain ⟨ys, hy⟩ := seq_lt hs
    obtain ⟨hl, hit⟩ := hf ys hy
    walk_at "nc hd"
    refine len_seq hy ?_
    walk_at "nc hd"
    refine ite_by (fun h2 => ?_) (fun h2 => ?_)
    · walk_at "nc hd"
      refine ⟨ys, hy, lc_map (fun d => .bl (isNum d)) rfl hl (fun y hm => ?_) ?_⟩
      · obtain ⟨ty, hty⟩ := hit y hm
        refine ⟨_, rfl, fun Q' q' => ?_⟩
        walk_at "nc hd"
        exact ⟨y, ty, rfl, hty, q'⟩
      · walk_at "nc hd"
        have h2' : ys.length = 2 := by
          have : (ys.length : Int) = 2 := by simpa using h2
          omega
        refine ⟨ys.map isNum, by rw [List.map_map]; rfl, ?_⟩
        unfold isSq at q
        rw [hy] at q
        match ys, h2' with
        | [x, y], _ => simpa using q
    · have h2' : ys.length ≠ 2 := fun e => by
        rw [e] at h2
        cases h2
      rw [isSq_no hy h2'] at q
      exact q
  · have e : isSq (drf S d) = false := by
      unfold isSq
      rw [seq_no hs]
    rw [e] at q
    exact q
theorem lc_tuplesG {ys : List D} {S : Store} {stays : Store → Prop} {ρ : Rho} {R : List D → Store → Prop} {i : Nat} (hs : stays S) (hi : i < ρ.length) (hl : ys.length < 60) (hit : ∀ y ∈ ys, Flat (drf S y)) (ha : (ys.map (drf S)).all isSq = true) (q : R (((ys.map (drf S)).map sqOf).map sqD) S) :
    Lc1 (.nm i) bYes (eB rTuple (aCons (eVar i) aNil)) [i] ρ ys stays S R := by
  refine lc_map (fun d => sqD (sqOf (drf S d))) hs (Nat.le_trans (Nat.le_of_lt hl) (by decide)) (fun y hm => ?_) (by rw [List.map_map, List.map_map] at q; exact q)
  have e := sq_pair (List.all_eq_true.mp ha (drf S y) (List.mem_map_of_mem hm))
  obtain ⟨⟨ty, hty⟩, hro, _⟩ := hit y hm
  refine ⟨_, by unfold bindT; rfl, fun Q' q' => ?_⟩
  have gi : ((wipeD ρ [i]).set i (some y))[i]? = some (some y) := List.getElem?_set_self (by rw [wipeD_len]; exact hi)
  refine i_eB (i_aCons (i_eVar gi (i_aNil ?_)))
  exact ⟨_, items_seq hty e hro, q'⟩
theorem lotG_seq {S : Store} {d : D} {ys : List D} (h : drf S d = .lst ys ∨ drf S d = .tup ys) : seqOf (drf S d) = some ys ∧ (isLst (drf S d) || isTup (drf S d)) = true := by
  rcases h with e | e <;> rw [e] <;> exact ⟨rfl, rfl⟩
theorem run_are_squaresG (xs : List D) (S : Store) (Q : QD) (h : r_are_squaresG xs S Q) : runD 2 b_are_squaresG xs S Q := by
  obtain ⟨d, e, rfl, ⟨⟨t, ht⟩, hf⟩, q⟩ := h
  refine i_runD ?_
  unfold b_are_squaresG
  refine cut (fun ρ' S' => ∃ ys, (drf S d = .lst ys ∨ drf S d = .tup ys) ∧ seqOf e = some (ys.map (drf S)) ∧ ys.length < 60 ∧ (∀ y ∈ ys, Flat (drf S y)) ∧ (ys.map (drf S)).all isSq = true ∧ S' = S ∧ ρ' = startD 2 [d]) (fun N' hrt hnx => ?_) (fun ρ' S' hP => ?_)
  · walk_at "nc hd"
    refine ⟨_, _, isiV_list ht, isiV_tuple ht, ?_⟩
    walk_at "nc hd"
    rcases hf with ⟨h1, h2, hs⟩ | ⟨ys, hy, hs, hl, hit⟩
    · rw [h1, h2]
      refine iteT (iteT ?_)
      walk_at "nc hd"
      rw [hrt]
      have e' : areSq e = false := by
        unfold areSq
        rw [hs]
      rw [e'] at q
      exact q
    · obtain ⟨hq, yes⟩ := lotG_seq hy
      rw [yes]
      refine iteF ?_
      walk_at "nc hd"
      refine ⟨ys, hq, lc_map (fun d => .bl (isSq (drf S d))) rfl (Nat.le_trans (Nat.le_of_lt hl) (by decide)) (fun y hm => ?_) ?_⟩
      · refine ⟨_, rfl, fun Q' q' => ?_⟩
        walk_at "nc hd"
        exact ⟨y, rfl, hit y hm, q'⟩
      · walk_at "nc hd"
        refine ⟨ys.map fun d => isSq (drf S d), by rw [List.map_map]; rfl, ?_⟩
        walk_at "nc hd"
        have ea : (ys.map fun d => isSq (drf S d)).all id = (ys.map (drf S)).all isSq := by simp [List.all_map, Function.comp_def]
        rw [ea]
        cases ha : (ys.map (drf S)).all isSq with
        | true =>
          refine iteF ?_
          walk_at "nc hd"
          exact hnx _ _ ⟨ys, hy, hs, hl, hit, ha, rfl, rfl⟩
        | false =>
          refine iteT ?_
          walk_at "nc hd"
          rw [hrt]
          have e' : areSq e = false := by
            unfold areSq
            rw [hs]
            show ((ys.map (drf S)).all isSq && _) = false
            rw [ha]
            rfl
          rw [e'] at q
          exact q
  · obtain ⟨ys, hy, hs, hl, hit, ha, rfl, rfl⟩ := hP
    obtain ⟨hq, _⟩ := lotG_seq hy
    walk_at "nc hd"
    refine ⟨ys, hq, lc_tuplesG rfl (by simp [startD]) hl hit ha ?_⟩
    refine ⟨((ys.map (drf S')).map sqOf).map pr2, by show D.lst _ = _; simp only [List.map_map]; rfl, by rw [List.length_map, List.length_map, List.length_map]; omega, fun L hn hm => ?_⟩
    walk_at "nc hd"
    refine len_seq hq ?_
    walk_at "nc hd"
    have e' : areSq e = decide ((L.length : Int) = (ys.length : Int)) := by
      unfold areSq
      rw [hs]
      show ((ys.map (drf S')).all isSq && _) = _
      rw [ha, Bool.true_and, Bool.eq_iff_iff]
      have := nodup_len hn hm
      rw [List.length_map, List.length_map, List.length_map, nodup_pr2] at this
      simp only [decide_eq_true_eq]
      rw [← this]
      omega
    rw [e'] at q
    exact q
theorem run_need_squareG {K : PySem.W.Frag} {cs : Cs} (xs : List D) (S : Store) (Q : QD) (E : XD) (h : r_need_squareG cs xs S Q E) : runX 2 (b_need_squareG K cs) xs S Q E := by
  obtain ⟨d, p, rfl, hp, hf, qn, qy⟩ := h
  refine i_runX ?_
  unfold b_need_squareG
  walk_at "nc hq"
  refine ⟨d, rfl, hf, ?_⟩
  walk_at "nc hd"
  cases hs : isSq (drf S d) with
  | false =>
    refine iteT ?_
    walk_at "nc hd"
    exact ⟨okD_part hp, qn hs⟩
  | true =>
    refine iteF ?_
    walk_at "nc hd"
    obtain ⟨⟨t, ht⟩, hro, _⟩ := hf
    exact ⟨_, items_seq ht (sq_pair hs) hro, qy hs⟩
theorem run_need_squaresG {K : PySem.W.Frag} {cs : Cs} (xs : List D) (S : Store) (Q : QD) (E : XD) (h : r_need_squaresG cs xs S Q E) : runX 3 (b_need_squaresG K cs) xs S Q E := by
  obtain ⟨d, e, p, rfl, hp, hl, qn, qy⟩ := h
  refine i_runX ?_
  unfold b_need_squaresG
  walk_at "nc hq"
  refine ⟨d, e, rfl, hl, ?_⟩
  walk_at "nc hd"
  cases hs : areSq e with
  | false =>
    refine iteT ?_
    walk_at "nc hd"
    exact ⟨okD_part hp, qn hs⟩
  | true =>
    refine iteF ?_
    walk_at "nc hd"
    obtain ⟨_, hf⟩ := hl
    have ev := hs
    rcases hf with ⟨_, _, h2⟩ | ⟨ys, hy, h2, hlen, hit⟩
    · unfold areSq at ev
      rw [h2] at ev
      cases ev
    unfold areSq at ev
    rw [h2] at ev
    have ev : ((ys.map (drf S)).all isSq && _) = true := ev
    rw [Bool.and_eq_true] at ev
    refine ⟨ys, (lotG_seq hy).1, lc_tuplesG rfl (by simp [startD]) hlen hit ev.1 ?_⟩
    walk_at "nc hd"
    refine ⟨_, _, rfl, rfl, fun qs h1 h2' => ?_⟩
    walk_at "nc hd"
    refine ⟨qs.map sqD, rfl, ?_⟩
    have e2 : sqsOf e = (ys.map (drf S)).map sqOf := by unfold sqsOf; rw [h2]
    exact qy hs qs (by rw [e2]; exact h1) h2'
end NC
set_option Elab.async false
set_option linter.all false
set_option maxRecDepth 100000
set_option maxHeartbeats 4000000
namespace NC
open PySem PySem.Spec PyProof.Rows L2
def deep : Nat → Store → D → D
  | 0, S, d => drf S d
  | n + 1, S, d => match drf S d with
    | .lst xs => .lst (xs.map (deep n S))
    | .tup xs => .tup (xs.map (deep n S))
    | x => x
theorem reps_map {K : PySem.W.Frag} {H H' : Hp} {β : List Addr} {f : D → D} (h : ∀ {v : V} {d : D}, Rep K H β v d → Rep K H' β v (f d)) : ∀ {vs : List V} {ds : List D}, Reps K H β vs ds → Reps K H' β vs (ds.map f)
  | _, _, .nil => .nil
  | _, _, .cons a b => .cons (h a) (reps_map h b)
theorem Ok.deep {K : PySem.W.Frag} {G : Gh} {Y β : List Addr} {S : Store} {H : Hp} (o : Ok K G Y β S H) : ∀ n {v : V} {d : D}, Rep K (hid Y β S H) β v d → Rep K H β v (deep n S d)
  | 0, v, d, r => o.drf r
  | n + 1, v, d, r => by
    show Rep K H β v (match NC.drf S d with | .lst xs => .lst (xs.map (NC.deep n S)) | .tup xs => .tup (xs.map (NC.deep n S)) | x => x)
    have r' := o.drf r
    split
    · rename_i xs e
      obtain ⟨a, vs, rfl, h1, h2⟩ := ok_lst o r e
      exact .lst h1 (reps_map (fun z => o.deep n z) h2)
    · rename_i xs e
      obtain ⟨a, vs, rfl, h1, h2⟩ := ok_tup o r e
      exact .tup (hid_ex _ _ h1) (reps_map (fun z => o.deep n z) h2)
    · exact r'
def rNeH : RD2 := fun x y S Q => rNe3 x y S Q ∨ (fl 60 (deep 3 S x) = true ∧ fl 60 (deep 3 S y) = true ∧ Q (.bl (!eqd (deep 3 S x) (deep 3 S y))) S)
theorem op_neH {X : Cx} {G : Gh} (hu : X.A.units + 64 < cLine) : OpR X (compareOp .NotEq) (l2 X.K G rNeH) := by
  rintro pins s σ H x y v u Q I rx ry ⟨Y, β, S, dx, dy, Q', o, r1, r2, q | ⟨f1, f2, q⟩, k⟩
  · exact op_ne3 hu pins s σ H x y v u Q I rx ry ⟨Y, β, S, dx, dy, Q', o, r1, r2, q, k⟩
  · have e1 := o.deep 3 r1
    have e2 := o.deep 3 r2
    exact op_neD hu pins s σ H x y v u Q I rx ry ⟨_, _, (fl_dp f1 e1).1, (fl_dp f2 e2).1, shaped_fl f1 e1, shaped_fl f2 e2, k _ S _ β H (.refl o) (.bl _) q⟩
end NC
set_option Elab.async false
set_option linter.all false
set_option maxRecDepth 100000
set_option maxHeartbeats 4000000
namespace NC
open PySem PySem.Spec PyProof.Rows L2
local macro_rules | `(tactic| walk_at "nc hh") => `(tactic| repeat (first | (with_reducible first | refine nes_same ?_ | refine eqs_same ?_ | refine iteT ?_ | refine iteF ?_ | refine iteNT ?_ | refine iteNF ?_) | (with_reducible first | refine i_sIf ?_ | refine i_sNil ?_ | refine i_sRet ?_ | refine i_sAsg ?_ | refine i_sDrop ?_ | refine i_sPut ?_ | refine i_sPar ?_ | refine i_eC ?_ | refine i_eOp ?_ | refine i_eChain ?_ | refine i_eB ?_ | refine i_eUn ?_ | refine i_eTup ?_ | refine i_eLst ?_ | refine i_eLstM ?_ | refine i_eAnd ?_ | refine i_eOr ?_ | refine i_eNot ?_ | refine i_eIf ?_ | refine i_bOf ?_ | refine i_bAnd ?_ | refine i_bOr ?_ | refine i_bNot ?_ | refine i_bYes ?_ | refine i_aNil ?_ | refine i_aCons ?_ | refine i_eCall ?_ | refine i_eCallKw ?_ | refine i_eCut ?_ | refine i_oNone ?_ | refine i_oSome ?_ | refine i_eM ?_ | refine i_sSq ?_ | refine i_sRange1 ?_ | refine i_sRange2 ?_ | refine i_sEnum ?_ | refine i_eIsi ?_ | refine i_eIsi2 ?_ | refine i_eLc ?_ | refine i_eLcM ?_ | refine i_sFor ?_ | refine i_eDisp1 ?_ | refine i_bl ?_ | refine i_int ?_ | refine i_nm ?_ | refine i_one ?_ | refine i_two ?_ | refine i_rng ?_ | refine i_len0 ?_ | refine i_int1 ?_ | refine i_intb ?_ | refine i_abs ?_ | refine i_add ?_ | refine i_sub ?_ | refine i_lt ?_ | refine i_le ?_ | refine i_gt ?_ | refine i_ge ?_ | refine i_eqi ?_ | refine i_is ?_ | refine i_isn ?_ | refine i_nes ?_ | refine i_rbl ?_ | refine i_eCallX ?_ | refine i_eCallKwX ?_ | refine i_sRaiseF ?_ | refine i_eIsX ?_ | refine i_eFld ?_ | refine i_eDit1 ?_ | refine i_sTry ?_ | refine i_runX ?_ | refine i_ltU ?_ | refine i_isU ?_ | refine i_isnU ?_ | refine i_isS ?_ | refine i_isnS ?_ | refine i_isB ?_ | refine i_isnB ?_ | refine i_neg ?_ | refine i_eDcT ?_ | refine i_sPar3 ?_ | refine i_three ?_ | refine i_eFldU ?_ | refine i_eIsU ?_ | refine i_eFrzO ?_ | refine i_eMake ?_ | refine i_sFldP ?_ | refine i_eMeth ?_ | refine i_sWhile ?_ | refine i_aStar ?_ | refine i_eFn ?_ | refine i_sAsgL ?_ | refine i_sCont ?_ | refine i_sBrk ?_ | refine i_eDnT ?_ | refine i_eDnK ?_ | refine i_eDit1M ?_ | refine i_sDPutU ?_ | refine i_eListR2 ?_ | refine i_bool1 ?_ | refine i_eCName ?_ | refine i_sFlds ?_ | refine i_bTruL ?_ | refine i_eCutU ?_ | refine i_sStr ?_ | refine i_eJoined ?_ | refine i_dJs ?_ | refine i_dJn ?_ | refine i_eMakeX ?_ | refine i_eMethX ?_ | refine i_eFmt ?_ | refine i_eLc2 ?_ | refine i_sRng ?_ | refine i_sTryS ?_) | ((with_reducible refine i_eVarX ?_); refine ⟨_, rfl, ?_⟩) | ((with_reducible refine i_len1 ?_ ?_); · exact Nat.le_of_ble_eq_true rfl) | ((with_reducible first | refine i_ix0 ?_ | refine i_ix1 ?_ | refine i_ix2 ?_ | refine i_ix3 ?_); refine ⟨_, _, rfl, rfl, ?_⟩) | ((with_reducible refine i_tp ?_); refine ⟨_, by unfold bindT; rfl, ?_⟩) | ((with_reducible first | refine i_len ?_ | refine i_list ?_ | refine i_listU ?_ | refine i_tuple ?_ | refine i_sqE ?_); refine ⟨_, rfl, ?_⟩) | ((with_reducible refine i_modL ?_ ?_); · decide) | (with_reducible refine i_eqs ?_) | (with_reducible first | refine cl_power (by assumption) ?_ | refine cl_height (by assumption) ?_ | refine cl_origins (by assumption) ?_ | refine cl_lasted (by assumption) ?_ | refine cl_square (by assumption) ?_ | refine cl_turn (by assumption) ?_ | refine is_cl (by assumption) ?_ | refine st_wide (by assumption) ?_ | refine st_power (by assumption) ?_ | refine st_far (by assumption) ?_) | ((with_reducible refine i_kw ?_); refine ⟨rfl, rfl, ?_⟩)))
structure KF (K : PySem.W.Frag) (cs : Cs) : Prop where
  x_BadBoard_FlightError : PySem.W.exmOne K (.ref cs.BadBoard) (.ref cs.FlightError) = some true
  i_BadBoard_BadBoard : PySem.W.kitOne K (.ref cs.BadBoard) (.ref cs.BadBoard) = some true
  i_BadBoard_BadSquares : PySem.W.kitOne K (.ref cs.BadBoard) (.ref cs.BadSquares) = some false
  i_BadBoard_Misfit : PySem.W.kitOne K (.ref cs.BadBoard) (.ref cs.Misfit) = some false
  i_BadBoard_BadSquare : PySem.W.kitOne K (.ref cs.BadBoard) (.ref cs.BadSquare) = some false
  e_BadBoard : L2.ExcC K cs.BadBoard
  f_BadBoard : XfC K cs.BadBoard
  o_BadBoard_part : PySem.W.findIn K (.ref cs.BadBoard) "part" = some none
  x_BadSquares_FlightError : PySem.W.exmOne K (.ref cs.BadSquares) (.ref cs.FlightError) = some true
  i_BadSquares_BadBoard : PySem.W.kitOne K (.ref cs.BadSquares) (.ref cs.BadBoard) = some false
  i_BadSquares_BadSquares : PySem.W.kitOne K (.ref cs.BadSquares) (.ref cs.BadSquares) = some true
  i_BadSquares_Misfit : PySem.W.kitOne K (.ref cs.BadSquares) (.ref cs.Misfit) = some false
  i_BadSquares_BadSquare : PySem.W.kitOne K (.ref cs.BadSquares) (.ref cs.BadSquare) = some false
  e_BadSquares : L2.ExcC K cs.BadSquares
  f_BadSquares : XfC K cs.BadSquares
  o_BadSquares_part : PySem.W.findIn K (.ref cs.BadSquares) "part" = some none
  x_Misfit_FlightError : PySem.W.exmOne K (.ref cs.Misfit) (.ref cs.FlightError) = some true
  i_Misfit_BadBoard : PySem.W.kitOne K (.ref cs.Misfit) (.ref cs.BadBoard) = some false
  i_Misfit_BadSquares : PySem.W.kitOne K (.ref cs.Misfit) (.ref cs.BadSquares) = some false
  i_Misfit_Misfit : PySem.W.kitOne K (.ref cs.Misfit) (.ref cs.Misfit) = some true
  i_Misfit_BadSquare : PySem.W.kitOne K (.ref cs.Misfit) (.ref cs.BadSquare) = some false
  e_Misfit : L2.ExcC K cs.Misfit
  f_Misfit : XfC K cs.Misfit
  o_Misfit_part : PySem.W.findIn K (.ref cs.Misfit) "part" = some none
  x_BadSquare_FlightError : PySem.W.exmOne K (.ref cs.BadSquare) (.ref cs.FlightError) = some true
  i_BadSquare_BadBoard : PySem.W.kitOne K (.ref cs.BadSquare) (.ref cs.BadBoard) = some false
  i_BadSquare_BadSquares : PySem.W.kitOne K (.ref cs.BadSquare) (.ref cs.BadSquares) = some false
  i_BadSquare_Misfit : PySem.W.kitOne K (.ref cs.BadSquare) (.ref cs.Misfit) = some false
  i_BadSquare_BadSquare : PySem.W.kitOne K (.ref cs.BadSquare) (.ref cs.BadSquare) = some true
  e_BadSquare : L2.ExcC K cs.BadSquare
  f_BadSquare : XfC K cs.BadSquare
  o_BadSquare_part : PySem.W.findIn K (.ref cs.BadSquare) "part" = some none
  n_BadBoard : PySem.W.kitOne K (.type "NoneType") (.ref cs.BadBoard) = some false
  n_BadSquares : PySem.W.kitOne K (.type "NoneType") (.ref cs.BadSquares) = some false
  n_Misfit : PySem.W.kitOne K (.type "NoneType") (.ref cs.Misfit) = some false
  n_BadSquare : PySem.W.kitOne K (.type "NoneType") (.ref cs.BadSquare) = some false
  c_Board : IsaC K cs.Board
  w_Board : KOk K cs.Board
  t_Board : ∀ t ∈ tyNames, PySem.W.kitOne K (.type t) (.ref cs.Board) = some false
  q_Board : ∀ t ∈ tyNames, PySem.W.notFirst K cs.Board (.type t) = true
  k_Board_Board : PySem.W.kitOne K (.ref cs.Board) (.ref cs.Board) = some true
  o_Board_held : NoAttr K cs.Board "held"
  o_Board_passed : NoAttr K cs.Board "passed"
  o_Board_burnt : NoAttr K cs.Board "burnt"
def kfL (K : PySem.W.Frag) (cs : Cs) : List Bool := [exmB K cs.BadBoard cs.FlightError true, kitBB K cs.BadBoard cs.BadBoard true, kitBB K cs.BadBoard cs.BadSquares false, kitBB K cs.BadBoard cs.Misfit false, kitBB K cs.BadBoard cs.BadSquare false, exmB K cs.BadSquares cs.FlightError true, kitBB K cs.BadSquares cs.BadBoard false, kitBB K cs.BadSquares cs.BadSquares true, kitBB K cs.BadSquares cs.Misfit false, kitBB K cs.BadSquares cs.BadSquare false, exmB K cs.Misfit cs.FlightError true, kitBB K cs.Misfit cs.BadBoard false, kitBB K cs.Misfit cs.BadSquares false, kitBB K cs.Misfit cs.Misfit true, kitBB K cs.Misfit cs.BadSquare false, exmB K cs.BadSquare cs.FlightError true, kitBB K cs.BadSquare cs.BadBoard false, kitBB K cs.BadSquare cs.BadSquares false, kitBB K cs.BadSquare cs.Misfit false, kitBB K cs.BadSquare cs.BadSquare true, kitN K cs.BadBoard, kitN K cs.BadSquares, kitN K cs.Misfit, kitN K cs.BadSquare, isaB K cs.Board, kobB K cs.Board, kitTB K cs.Board, nfTB K cs.Board, kitBB K cs.Board cs.Board true, noB K cs.Board ["held"], noB K cs.Board ["passed"], noB K cs.Board ["burnt"]]
theorem kf_of {P : Program} {w : World} {K : PySem.W.Frag} {mg : Str → Option Value} {base : Heap} {cs : Cs} (h : (kfL K cs).all id = true) (E_BadBoard : ErrOk P w K mg base "BadBoard" cs.BadBoard true ["part"]) (E_BadSquares : ErrOk P w K mg base "BadSquares" cs.BadSquares true ["part"]) (E_Misfit : ErrOk P w K mg base "Misfit" cs.Misfit true ["part"]) (E_BadSquare : ErrOk P w K mg base "BadSquare" cs.BadSquare true ["part"]) : KF K cs := by
  have all := fun b hb => List.all_eq_true.mp h b hb
  exact ⟨exmB_ok (all _ (List.mem_of_getElem? (i := 0) rfl)), kitBB_ok (all _ (List.mem_of_getElem? (i := 1) rfl)), kitBB_ok (all _ (List.mem_of_getElem? (i := 2) rfl)), kitBB_ok (all _ (List.mem_of_getElem? (i := 3) rfl)), kitBB_ok (all _ (List.mem_of_getElem? (i := 4) rfl)), E_BadBoard.xc, E_BadBoard.xf, E_BadBoard.no _ (List.mem_of_getElem? (i := 0) rfl), exmB_ok (all _ (List.mem_of_getElem? (i := 5) rfl)), kitBB_ok (all _ (List.mem_of_getElem? (i := 6) rfl)), kitBB_ok (all _ (List.mem_of_getElem? (i := 7) rfl)), kitBB_ok (all _ (List.mem_of_getElem? (i := 8) rfl)), kitBB_ok (all _ (List.mem_of_getElem? (i := 9) rfl)), E_BadSquares.xc, E_BadSquares.xf, E_BadSquares.no _ (List.mem_of_getElem? (i := 0) rfl), exmB_ok (all _ (List.mem_of_getElem? (i := 10) rfl)), kitBB_ok (all _ (List.mem_of_getElem? (i := 11) rfl)), kitBB_ok (all _ (List.mem_of_getElem? (i := 12) rfl)), kitBB_ok (all _ (List.mem_of_getElem? (i := 13) rfl)), kitBB_ok (all _ (List.mem_of_getElem? (i := 14) rfl)), E_Misfit.xc, E_Misfit.xf, E_Misfit.no _ (List.mem_of_getElem? (i := 0) rfl), exmB_ok (all _ (List.mem_of_getElem? (i := 15) rfl)), kitBB_ok (all _ (List.mem_of_getElem? (i := 16) rfl)), kitBB_ok (all _ (List.mem_of_getElem? (i := 17) rfl)), kitBB_ok (all _ (List.mem_of_getElem? (i := 18) rfl)), kitBB_ok (all _ (List.mem_of_getElem? (i := 19) rfl)), E_BadSquare.xc, E_BadSquare.xf, E_BadSquare.no _ (List.mem_of_getElem? (i := 0) rfl), kitN_ok (all _ (List.mem_of_getElem? (i := 20) rfl)), kitN_ok (all _ (List.mem_of_getElem? (i := 21) rfl)), kitN_ok (all _ (List.mem_of_getElem? (i := 22) rfl)), kitN_ok (all _ (List.mem_of_getElem? (i := 23) rfl)), isaB_ok (all _ (List.mem_of_getElem? (i := 24) rfl)), kobB_ok (all _ (List.mem_of_getElem? (i := 25) rfl)), kitTB_ok (all _ (List.mem_of_getElem? (i := 26) rfl)), nfTB_ok (all _ (List.mem_of_getElem? (i := 27) rfl)), kitBB_ok (all _ (List.mem_of_getElem? (i := 28) rfl)), noB_ok (all _ (List.mem_of_getElem? (i := 29) rfl)) _ (List.mem_singleton.mpr rfl), noB_ok (all _ (List.mem_of_getElem? (i := 30) rfl)) _ (List.mem_singleton.mpr rfl), noB_ok (all _ (List.mem_of_getElem? (i := 31) rfl)) _ (List.mem_singleton.mpr rfl)⟩
abbrev r_law_draw : RDs := rDraw
abbrev r_law_pen : RDs := rUrn
def barS (ps : List Sq) (p : Sq) : Bool := decide (p ∈ ps) || (decide (p.1 = 0) && decide (p.2 ≤ 0))
def InD (S : Store) (x : D) (ps : List Sq) : Prop := itemsD (drf S x) = some (ps.map sqD) ∨ drf S x = ditS ps
theorem inD_of {S : Store} {x : D} {ps : List Sq} {p : Sq} {Q : QD} (h : InD S x ps) (q : Q (.bl (decide (p ∈ ps))) S) : rInU (sqD p) x S Q := h.elim (fun h => inU_sq h q) (fun h => inU_dit h q)
def r_is_barred : RDs := fun xs S Q => ∃ (x : D) (p : Sq) (ps : List Sq), xs = [x, sqD p] ∧ InD S x ps ∧ Q (.bl (barS ps p)) S
def r_law_barred : RDs := r_is_barred
def within_ (hs ps fs : List Sq) : List Sq := hs ++ fs.filter fun q => decide (0 ≤ q.1) && !barS ps q
def IsBox (l : List Sq) (d : D) : Prop := (l = [] ∧ d = .non) ∨ ∃ a b c : Int, l ≠ [] ∧ d = .tup [.int a, .int b, .int c] ∧ (a ∈ l.map (·.1) ∧ ∀ y ∈ l.map (·.1), y ≤ a) ∧ (b ∈ l.map (·.2) ∧ ∀ y ∈ l.map (·.2), b ≤ y) ∧ (c ∈ l.map (·.2) ∧ ∀ y ∈ l.map (·.2), y ≤ c)
theorem IsBox.one {l m : List Sq} {d e : D} (h : IsBox l d) (h' : IsBox m e) (p : ∀ x, x ∈ l ↔ x ∈ m) : d = e := by
  have p1 : ∀ y, y ∈ l.map (·.1) ↔ y ∈ m.map (·.1) := fun y => by simp [p]
  have p2 : ∀ y, y ∈ l.map (·.2) ↔ y ∈ m.map (·.2) := fun y => by simp [p]
  rcases h with ⟨rfl, rfl⟩ | ⟨a, b, c, ne, rfl, ⟨a1, a2⟩, ⟨b1, b2⟩, c1, c2⟩ <;> rcases h' with ⟨rfl, rfl⟩ | ⟨a', b', c', ne', rfl, ⟨a1', a2'⟩, ⟨b1', b2'⟩, c1', c2'⟩
  · rfl
  · exact (ne' (List.eq_nil_iff_forall_not_mem.mpr fun x hx => nomatch (p x).mpr hx)).elim
  · exact (ne (List.eq_nil_iff_forall_not_mem.mpr fun x hx => nomatch (p x).mp hx)).elim
  · have ea : a = a' := Int.le_antisymm (a2' _ ((p1 _).mp a1)) (a2 _ ((p1 _).mpr a1'))
    have eb : b = b' := Int.le_antisymm (b2 _ ((p2 _).mpr b1')) (b2' _ ((p2 _).mp b1))
    have ec : c = c' := Int.le_antisymm (c2' _ ((p2 _).mp c1)) (c2 _ ((p2 _).mpr c1'))
    rw [ea, eb, ec]
structure Bd where
  h : List Sq
  p : List Sq
  f : List Sq
def bdF (b : Bd) : List (Str × D) := [("held", .tup (b.h.map sqD)), ("passed", .tup (b.p.map sqD)), ("burnt", .tup (b.f.map sqD))]
def bdD (cs : Cs) (b : Bd) : D := .obj cs.Board (bdF b)
structure BdOk (b : Bd) : Prop where
  hl : b.h.length ≤ 60
  pl : b.p.length ≤ 60
  fl : b.f.length ≤ 60
  pn : b.p.Nodup
abbrev badSq (cs : Cs) (p : Str) : Addr × List (Str × D) := (cs.BadSquares, [("part", .str p)])
abbrev bad1 (cs : Cs) (p : Str) : Addr × List (Str × D) := (cs.BadSquare, [("part", .str p)])
abbrev misf (cs : Cs) (p : Str) : Addr × List (Str × D) := (cs.Misfit, [("part", .str p)])
abbrev badB (cs : Cs) (p : Str) : Addr × List (Str × D) := (cs.BadBoard, [("part", .str p)])
def AnyBd (cs : Cs) (x : D) (n : Prop) (go : Bd → Prop) : Prop := (∃ t, tyD x = some t) ∧ n ∨ ∃ b : Bd, x = bdD cs b ∧ BdOk b ∧ go b
def r_need_board (cs : Cs) : RDx := fun xs S Q E => ∃ x p, xs = [x, .str p] ∧ p.length ≤ 900 ∧ AnyBd cs x (E (badB cs p) S) fun _ => Q .non S
def r_box_around : RDs := fun xs S Q => ∃ b : Bd, xs = [.tup (b.h.map sqD), .tup (b.p.map sqD), .tup (b.f.map sqD)] ∧ BdOk b ∧ ∀ d, IsBox (within_ b.h b.p b.f) d → Q d S
def r_box_of (cs : Cs) : RDx := fun xs S Q E => ∃ x, xs = [x] ∧ AnyBd cs x (E (badB cs "board") S) fun b => ∀ d, IsBox (within_ b.h b.p b.f) d → Q d S
def r_law_box : RDs := fun xs S Q => ∃ b : Bd, xs = [.lst (b.h.map sqD), .lst (b.p.map sqD), .lst (b.f.map sqD)] ∧ BdOk b ∧ ∀ d, IsBox (within_ b.h b.p b.f) d → Q d S
def misB (hs ps : List Sq) : Bool := hs.any fun p => decide (p.1 < 0) || barS ps p
def r_Board_init (cs : Cs) : RDx := fun xs S Q E => ∃ (n : Nat) (x1 x2 x3 e1 e2 e3 : D), xs = [.ref n, x1, x2, x3] ∧ S[n]? = some (some (.ins cs.Board [])) ∧ LotG S x1 e1 ∧ LotG S x2 e2 ∧ LotG S x3 e3 ∧
  (areSq e1 = false → E (badSq cs "held") S) ∧ (areSq e1 = true → areSq e2 = false → E (badSq cs "passed") S) ∧ (areSq e1 = true → areSq e2 = true → areSq e3 = false → E (badSq cs "burnt") S) ∧
  (areSq e1 = true → areSq e2 = true → areSq e3 = true → (misB (sqsOf e1) (sqsOf e2) = true → E (misf cs "held") S) ∧
    (misB (sqsOf e1) (sqsOf e2) = false → ∀ b : Bd, b.h.Perm (sqsOf e1) → Srt b.h → b.p.Perm (sqsOf e2) → Srt b.p → b.f.Perm (sqsOf e3) → Srt b.f → Q .non (S.set n (some (.ins cs.Board (bdF b))))))
def r_Board_is_passed (cs : Cs) : RDx := fun xs S Q E => ∃ (b : Bd) (x : D), xs = [bdD cs b, x] ∧ Flat (drf S x) ∧ (isSq (drf S x) = false → E (bad1 cs "square") S) ∧ (isSq (drf S x) = true → Q (.bl (barS b.p (sqOf (drf S x)))) S)
def bdEq (b c : Bd) : Bool := decide (b.h = c.h) && (decide (b.p = c.p) && decide (b.f = c.f))
def r_Board_eq (cs : Cs) : RDs := fun xs S Q => ∃ (b : Bd) (y : D), xs = [bdD cs b, y] ∧ ((∃ c : Bd, y = bdD cs c ∧ Q (.bl (bdEq b c)) S) ∨ ∃ t, tyD y = some t ∧ Q (.bl false) S)
def fitS (hs ps ws : List Sq) : Bool := (hs.all fun p => decide (p ∈ ws)) && !(ws.any fun p => barS ps p)
def r_is_fit : RDs := fun xs S Q => ∃ hs ps ws : List Sq, xs = [.tup (hs.map sqD), .tup (ps.map sqD), .tup (ws.map sqD)] ∧ hs.length ≤ 60 ∧ ps.length ≤ 60 ∧ ws.length ≤ 60 ∧ ps.Nodup ∧ ws.Nodup ∧ Q (.bl (fitS hs ps ws)) S
def r_need_wall (cs : Cs) : RDx := fun xs S Q E => ∃ d e p, xs = [d, .str p] ∧ p.length ≤ 900 ∧ LotG S d e ∧ (areSq e = false → E (badSq cs p) S) ∧ (areSq e = true → leftS (sqsOf e) = true → E (misf cs p) S) ∧
  (areSq e = true → leftS (sqsOf e) = false → ∀ qs : List Sq, qs.Perm (sqsOf e) → Srt qs → Q (.tup (qs.map sqD)) S)
def r_fits (cs : Cs) : RDx := fun xs S Q E => ∃ x w, xs = [x, w] ∧ AnyBd cs x (E (badB cs "board") S) fun b => ∃ e, LotG S w e ∧ (areSq e = false → E (badSq cs "wall") S) ∧ (areSq e = true → leftS (sqsOf e) = true → E (misf cs "wall") S) ∧
  (areSq e = true → leftS (sqsOf e) = false → Q (.bl (fitS b.h b.p (sqsOf e))) S)
def r_best_for (cs : Cs) : RDx := fun xs S Q E => ∃ x t, xs = [x] ∧ tyD x = some t ∧ E (badB cs "board") S
def r_cheapest_cost (cs : Cs) : RDx := r_best_for cs
def r_shows_best (cs : Cs) : RDx := fun xs S Q E => ∃ x y t, xs = [x, y] ∧ tyD x = some t ∧ E (badB cs "board") S
def b_law_pen : TSd := (sRet (eLstM (aCons (eLc (sSq (eCut (eVar 0) oNone (oSome (eC (.int 60))))) (.nm 1) bYes (eB rInt1 (aCons (eVar 1) aNil)) [1]) (aCons (eC (.int 0)) (aCons (eC (.int 0)) aNil)))))
def b_law_draw : TSd := (sSeq (sIf (bOf (eOp rGt (eOp rIx2 (eVar 0) (eC (.int 2))) (eC (.int 0))))
    (sSeq (sAsg (.nm 5) (eB rInt1 (aCons (eOp rIx2 (eVar 0) (eC (.int 2))) aNil)))
    (sSeq (sPut (eVar 0) (eC (.int 2)) (eOp rDiv (eVar 5) (eVar 1)))
    (sRet (eOp rMod (eB rInt1 (aCons (eVar 5) aNil)) (eVar 1)))))
    sNil)
    (sSeq (sAsg (.nm 2) (eOp rIx2 (eVar 0) (eC (.int 1))))
    (sSeq (sPut (eVar 0) (eC (.int 1)) (eOp rAdd (eVar 2) (eC (.int 1))))
    (sSeq (sAsg (.nm 3) (eOp rAdd (eOp rMulI (eC (.int 90059)) (eVar 2)) (eC (.int 7331))))
    (sSeq (sIf (bOf (eOp rNe3 (eOp rIx2 (eVar 0) (eC (.int 0))) (eLst aNil)))
    (sAsg (.nm 3) (eOp rIx2 (eOp rIx2 (eVar 0) (eC (.int 0))) (eOp rMod (eB rInt1 (aCons (eVar 2) aNil)) (eB rLen (aCons (eOp rIx2 (eVar 0) (eC (.int 0))) aNil)))))
    sNil)
    (sSeq (sIf (bAnd (bOf (eOp rLt (eVar 2) (eB rLen (aCons (eOp rIx2 (eVar 0) (eC (.int 0))) aNil)))) (bOf (eOp rGe (eB rAbs (aCons (eVar 3) aNil)) (eOp rPow (eC (.int 10)) (eC (.int 18))))))
    (sSeq (sAsg (.nm 5) (eOp rAdd (eOp rMulI (eC (.int 2)) (eOp rSub (eB rAbs (aCons (eVar 3) aNil)) (eOp rPow (eC (.int 10)) (eC (.int 18))))) (eB rInt1 (aCons (eOp rLt (eVar 3) (eC (.int 0))) aNil))))
    (sSeq (sPut (eVar 0) (eC (.int 2)) (eOp rDiv (eB rInt1 (aCons (eVar 5) aNil)) (eVar 1)))
    (sRet (eOp rMod (eB rInt1 (aCons (eVar 5) aNil)) (eVar 1)))))
    sNil)
    (sSeq (sAsg (.nm 4) (eOp rMod (eB rInt1 (aCons (eOp rPow (eOp rAdd (eOp rAdd (eOp rMod (eB rInt1 (aCons (eVar 3) aNil)) (eC (.int 2147483629))) (eOp rMulI (eC (.int 61027)) (eVar 2))) (eC (.int 7331))) (eC (.int 5))) aNil)) (eC (.int 2147483587))))
    (sSeq (sAsg (.nm 4) (eOp rMod (eB rInt1 (aCons (eOp rPow (eOp rAdd (eOp rAdd (eOp rMulI (eVar 4) (eOp rAdd (eOp rMulI (eC (.int 2)) (eVar 2)) (eC (.int 5023)))) (eOp rMulI (eOp rMulI (eC (.int 90059)) (eVar 2)) (eVar 2))) (eC (.int 61027))) (eC (.int 3))) aNil)) (eC (.int 2147483549))))
    (sRet (eOp rMod (eB rInt1 (aCons (eOp rDiv (eVar 4) (eC (.int 64))) aNil)) (eVar 1)))))))))))
def b_law_barred : TSd := (sRet (eOr (eOp rInU (eVar 1) (eVar 0)) (eAnd (eOp rEq3 (eOp rIxU (eVar 1) (eC (.int 0))) (eC (.int 0))) (eOp rLe (eOp rIxU (eVar 1) (eC (.int 1))) (eC (.int 0))))))
def b_need_board (K : PySem.W.Frag) (cs : Cs) : XD → TSd := fun ED => (sIf (bNot (bOf (eIsU K cs.Board (eVar 0))))
    (sRaiseF ED cs.BadBoard true ["part"] (aCons (eVar 1) aNil))
    sNil)
def b_is_barred : TSd := (sRet (eOr (eOp rInU (eVar 1) (eVar 0)) (eAnd (eOp rEq3 (eOp rIxU (eVar 1) (eC (.int 0))) (eC (.int 0))) (eOp rLe (eOp rIxU (eVar 1) (eC (.int 1))) (eC (.int 0))))))
def b_box_around : TSd := (sSeq (sAsg (.nm 3) (eDcT (sSq (eVar 1)) (.nm 6) bYes (eVar 6) (eC (.bl true)) [6]))
    (sSeq (sAsg (.nm 4) (eLst (aStar (eVar 0) (aStar (eLc (sSq (eVar 2)) (.nm 6) (bAnd (bOf (eOp rGe (eOp rIxU (eVar 6) (eC (.int 0))) (eC (.int 0)))) (bNot (bOf (eCall r_is_barred (aCons (eVar 3) (aCons (eVar 6) aNil)))))) (eVar 6) [6]) aNil))))
    (sSeq (sIf (bOf (eOp rEq3 (eVar 4) (eLst aNil)))
    (sRet (eC .non))
    sNil)
    (sSeq (sAsg (.nm 5) (eLc (sSq (eVar 4)) (.tp [(.nm 7), (.nm 8)]) bYes (eVar 8) [7, 8]))
    (sRet (eTup (aCons (eB rMaxU3 (aCons (eLc (sSq (eVar 4)) (.tp [(.nm 9), (.nm 7)]) bYes (eVar 9) [9, 7]) aNil)) (aCons (eB rMinU (aCons (eVar 5) aNil)) (aCons (eB rMaxU3 (aCons (eVar 5) aNil)) aNil)))))))))
def b_box_of (K : PySem.W.Frag) (cs : Cs) : XD → TSd := fun ED => (sSeq (sDrop (eCallX (r_need_board cs) ED (aCons (eVar 0) (aCons (eC (.str "board")) aNil))))
    (sRet (eCall r_box_around (aCons (eFldU K "held" (eVar 0)) (aCons (eFldU K "passed" (eVar 0)) (aCons (eFldU K "burnt" (eVar 0)) aNil))))))
def b_law_box : TSd := (sSeq (sAsg (.nm 3) (eOp rAdd (eB rListU (aCons (eVar 0) aNil)) (eLc (sSq (eVar 2)) (.nm 4) (bAnd (bOf (eOp rGe (eOp rIxU (eVar 4) (eC (.int 0))) (eC (.int 0)))) (bNot (bOf (eCall r_law_barred (aCons (eVar 1) (aCons (eVar 4) aNil)))))) (eVar 4) [4])))
    (sSeq (sIf (bOf (eOp rEq3 (eVar 3) (eLst aNil)))
    (sRet (eC .non))
    sNil)
    (sRet (eTup (aCons (eB rMaxU3 (aCons (eLc (sSq (eVar 3)) (.nm 4) bYes (eOp rIxU (eVar 4) (eC (.int 0))) [4]) aNil)) (aCons (eB rMinU (aCons (eLc (sSq (eVar 3)) (.nm 4) bYes (eOp rIxU (eVar 4) (eC (.int 1))) [4]) aNil)) (aCons (eB rMaxU3 (aCons (eLc (sSq (eVar 3)) (.nm 4) bYes (eOp rIxU (eVar 4) (eC (.int 1))) [4]) aNil)) aNil)))))))
def b_Board_init (K : PySem.W.Frag) (cs : Cs) : XD → TSd := fun ED => (sSeq (sPar3 4 5 6 (aCons (eCallX (r_need_squaresG cs) ED (aCons (eVar 1) (aCons (eC (.str "held")) aNil))) (aCons (eCallX (r_need_squaresG cs) ED (aCons (eVar 2) (aCons (eC (.str "passed")) aNil))) (aCons (eCallX (r_need_squaresG cs) ED (aCons (eVar 3) (aCons (eC (.str "burnt")) aNil))) aNil))))
    (sSeq (sAsg (.nm 7) (eDcT (sSq (eVar 5)) (.nm 8) bYes (eVar 8) (eC (.bl true)) [8]))
    (sSeq (sIf (bOf (eB rAny2 (aCons (eLc (sSq (eVar 4)) (.nm 8) bYes (eOr (eOp rLtU (eOp rIxU (eVar 8) (eC (.int 0))) (eC (.int 0))) (eCall r_is_barred (aCons (eVar 7) (aCons (eVar 8) aNil)))) [8]) aNil)))
    (sRaiseF ED cs.Misfit true ["part"] (aCons (eC (.str "held")) aNil))
    sNil)
    (sSeq (sFldP K "held" (eVar 0) (eVar 4))
    (sSeq (sFldP K "passed" (eVar 0) (eVar 5))
    (sFldP K "burnt" (eVar 0) (eVar 6)))))))
def b_Board_is_passed (K : PySem.W.Frag) (cs : Cs) : XD → TSd := fun ED => (sRet (eCall r_is_barred (aCons (eFldU K "passed" (eVar 0)) (aCons (eCallX (r_need_squareG cs) ED (aCons (eVar 1) (aCons (eC (.str "square")) aNil))) aNil))))
def b_Board_eq (K : PySem.W.Frag) (cs : Cs) : TSd := (sSeq (sIf (bNot (bOf (eIsU K cs.Board (eVar 1))))
    (sRet (eC (.bl false)))
    sNil)
    (sRet (eOp rEq3 (eTup (aCons (eFldU K "held" (eVar 0)) (aCons (eFldU K "passed" (eVar 0)) (aCons (eFldU K "burnt" (eVar 0)) aNil)))) (eTup (aCons (eFldU K "held" (eVar 1)) (aCons (eFldU K "passed" (eVar 1)) (aCons (eFldU K "burnt" (eVar 1)) aNil)))))))
def b_best_for (K : PySem.W.Frag) (cs : Cs) : XD → TSd := fun ED => (sSeq (sDrop (eCallX (r_need_board cs) ED (aCons (eVar 0) (aCons (eC (.str "board")) aNil))))
    sOff)
def b_cheapest_cost (K : PySem.W.Frag) (cs : Cs) : XD → TSd := fun ED => (sSeq (sDrop (eCallX (r_need_board cs) ED (aCons (eVar 0) (aCons (eC (.str "board")) aNil))))
    sOff)
def b_is_fit : TSd := (sSeq (sAsg (.tp [(.nm 3), (.nm 4)]) (eTup (aCons (eDcT (sSq (eVar 2)) (.nm 5) bYes (eVar 5) (eC (.bl true)) [5]) (aCons (eDcT (sSq (eVar 1)) (.nm 5) bYes (eVar 5) (eC (.bl true)) [5]) aNil))))
    (sRet (eAnd (eB rAll2 (aCons (eLc (sSq (eVar 0)) (.nm 5) bYes (eOp rInU (eVar 5) (eVar 3)) [5]) aNil)) (eNot (eB rAny2 (aCons (eLc (sSq (eVar 2)) (.nm 5) bYes (eCall r_is_barred (aCons (eVar 4) (aCons (eVar 5) aNil))) [5]) aNil))))))
def b_need_wall (K : PySem.W.Frag) (cs : Cs) : XD → TSd := fun ED => (sSeq (sAsg (.nm 2) (eCallX (r_need_squaresG cs) ED (aCons (eVar 0) (aCons (eVar 1) aNil))))
    (sSeq (sDrop (eCallX (r_need_right cs) ED (aCons (eVar 2) (aCons (eVar 1) aNil))))
    (sRet (eVar 2))))
def b_fits (K : PySem.W.Frag) (cs : Cs) : XD → TSd := fun ED => (sSeq (sDrop (eCallX (r_need_board cs) ED (aCons (eVar 0) (aCons (eC (.str "board")) aNil))))
    (sRet (eCall r_is_fit (aCons (eFldU K "held" (eVar 0)) (aCons (eFldU K "passed" (eVar 0)) (aCons (eCallX (r_need_wall cs) ED (aCons (eVar 1) (aCons (eC (.str "wall")) aNil))) aNil))))))
def b_shows_best (K : PySem.W.Frag) (cs : Cs) : XD → TSd := fun ED => (sSeq (sDrop (eCallX (r_need_board cs) ED (aCons (eVar 0) (aCons (eC (.str "board")) aNil))))
    sOff)
theorem len_law_pen (xs : List D) (S : Store) (Q : QD) (h : r_law_pen xs S Q) : xs.length = 1 := by obtain ⟨_, rfl, _⟩ := h; rfl
theorem len_law_draw (xs : List D) (S : Store) (Q : QD) (h : r_law_draw xs S Q) : xs.length = 2 := rDraw_len xs S Q h
theorem run_law_pen (xs : List D) (S : Store) (Q : QD) (h : r_law_pen xs S Q) : runD 2 b_law_pen xs S Q := urn_runn (by decide) xs S Q h
theorem run_law_draw (xs : List D) (S : Store) (Q : QD) (h : r_law_draw xs S Q) : runD 6 b_law_draw xs S Q := draw_run (by decide) xs S Q h
theorem len_is_barred (xs : List D) (S : Store) (Q : QD) (h : r_is_barred xs S Q) : xs.length = 2 := by obtain ⟨_, _, _, rfl, _⟩ := h; rfl
theorem len_law_barred (xs : List D) (S : Store) (Q : QD) (h : r_law_barred xs S Q) : xs.length = 2 := len_is_barred xs S Q h
theorem len_need_board (cs : Cs) (xs : List D) (S : Store) (Q : QD) (E : XD) (h : r_need_board cs xs S Q E) : xs.length = 2 := by obtain ⟨_, _, rfl, _⟩ := h; rfl
theorem len_box_around (xs : List D) (S : Store) (Q : QD) (h : r_box_around xs S Q) : xs.length = 3 := by obtain ⟨_, rfl, _⟩ := h; rfl
theorem len_box_of (cs : Cs) (xs : List D) (S : Store) (Q : QD) (E : XD) (h : r_box_of cs xs S Q E) : xs.length = 1 := by obtain ⟨_, rfl, _⟩ := h; rfl
theorem len_law_box (xs : List D) (S : Store) (Q : QD) (h : r_law_box xs S Q) : xs.length = 3 := by obtain ⟨_, rfl, _⟩ := h; rfl
theorem len_Board_init (cs : Cs) (xs : List D) (S : Store) (Q : QD) (E : XD) (h : r_Board_init cs xs S Q E) : xs.length = 4 := by obtain ⟨_, _, _, _, _, _, _, rfl, _⟩ := h; rfl
theorem len_Board_is_passed (cs : Cs) (xs : List D) (S : Store) (Q : QD) (E : XD) (h : r_Board_is_passed cs xs S Q E) : xs.length = 2 := by obtain ⟨_, _, rfl, _⟩ := h; rfl
theorem len_Board_eq (cs : Cs) (xs : List D) (S : Store) (Q : QD) (h : r_Board_eq cs xs S Q) : xs.length = 2 := by obtain ⟨_, _, rfl, _⟩ := h; rfl
theorem len_is_fit (xs : List D) (S : Store) (Q : QD) (h : r_is_fit xs S Q) : xs.length = 3 := by obtain ⟨_, _, _, rfl, _⟩ := h; rfl
theorem len_need_wall (cs : Cs) (xs : List D) (S : Store) (Q : QD) (E : XD) (h : r_need_wall cs xs S Q E) : xs.length = 2 := by obtain ⟨_, _, _, rfl, _⟩ := h; rfl
theorem len_fits (cs : Cs) (xs : List D) (S : Store) (Q : QD) (E : XD) (h : r_fits cs xs S Q E) : xs.length = 2 := by obtain ⟨_, _, rfl, _⟩ := h; rfl
theorem len_best_for (cs : Cs) (xs : List D) (S : Store) (Q : QD) (E : XD) (h : r_best_for cs xs S Q E) : xs.length = 1 := by obtain ⟨_, _, rfl, _⟩ := h; rfl
theorem len_cheapest_cost (cs : Cs) (xs : List D) (S : Store) (Q : QD) (E : XD) (h : r_cheapest_cost cs xs S Q E) : xs.length = 1 := len_best_for cs xs S Q E h
theorem len_shows_best (cs : Cs) (xs : List D) (S : Store) (Q : QD) (E : XD) (h : r_shows_best cs xs S Q E) : xs.length = 2 := by obtain ⟨_, _, _, rfl, _⟩ := h; rfl
theorem run_is_barred (xs : List D) (S : Store) (Q : QD) (h : r_is_barred xs S Q) : runD 2 b_is_barred xs S Q := by
  obtain ⟨x, p, ps, rfl, hi, q⟩ := h
  refine i_runD ?_
  unfold b_is_barred
  walk_at "nc hh"
  refine inD_of hi ?_
  unfold barS at q
  cases h1 : decide (p ∈ ps) with
  | true =>
    rw [h1] at q
    refine ⟨_, rfl, iteT ?_⟩
    walk_at "nc hh"
    exact q
  | false =>
    rw [h1, Bool.false_or] at q
    refine ⟨_, rfl, iteF ?_⟩
    walk_at "nc hh"
    cases h2 : decide (p.1 = 0) with
    | true =>
      rw [h2, Bool.true_and] at q
      refine iteT ?_
      walk_at "nc hh"
      exact q
    | false =>
      rw [h2, Bool.false_and] at q
      refine iteF ?_
      walk_at "nc hh"
      exact q
theorem run_law_barred (xs : List D) (S : Store) (Q : QD) (h : r_law_barred xs S Q) : runD 2 b_law_barred xs S Q := run_is_barred xs S Q h
section
variable {K : PySem.W.Frag} {cs : Cs} {Q : QD} {S : Store}
theorem isb_yes (kf : KF K cs) {b : Bd} (q : Q (.bl true) S) : IsO K cs.Board (bdD cs b) S Q := ⟨true, .inr ⟨_, .inr ⟨_, _, rfl, kf.c_Board, rfl⟩, kf.k_Board_Board⟩, q⟩
theorem isb_no (kf : KF K cs) {d : D} {t : String} (h : tyD d = some t) (q : Q (.bl false) S) : IsO K cs.Board d S Q := ⟨false, .inr ⟨_, .inl ⟨t, by rw [drf_ty h]; exact h, rfl⟩, kf.t_Board t (ty_in h)⟩, q⟩
end
theorem run_need_board {K : PySem.W.Frag} {cs : Cs} (kf : KF K cs) (xs : List D) (S : Store) (Q : QD) (E : XD) (h : r_need_board cs xs S Q E) : runX 2 (b_need_board K cs) xs S Q E := by
  obtain ⟨x, p, rfl, hp, h⟩ := h
  refine i_runX ?_
  unfold b_need_board
  rcases h with ⟨⟨t, ht⟩, n⟩ | ⟨c, rfl, _, k⟩
  · walk_at "nc hh"
    refine isb_no kf ht ?_
    walk_at "nc hh"
    exact ⟨okD_part hp, n⟩
  · walk_at "nc hh"
    refine isb_yes kf ?_
    walk_at "nc hh"
    exact k
end NC
set_option Elab.async false
set_option linter.all false
set_option maxRecDepth 100000
set_option maxHeartbeats 4000000
namespace NC
open PySem PySem.Spec PyProof.Rows L2
local macro_rules | `(tactic| walk_at "nc hh") => `(tactic| repeat (first | (with_reducible first | refine nes_same ?_ | refine eqs_same ?_ | refine iteT ?_ | refine iteF ?_ | refine iteNT ?_ | refine iteNF ?_) | (with_reducible first | refine i_sIf ?_ | refine i_sNil ?_ | refine i_sRet ?_ | refine i_sAsg ?_ | refine i_sDrop ?_ | refine i_sPut ?_ | refine i_sPar ?_ | refine i_eC ?_ | refine i_eOp ?_ | refine i_eChain ?_ | refine i_eB ?_ | refine i_eUn ?_ | refine i_eTup ?_ | refine i_eLst ?_ | refine i_eLstM ?_ | refine i_eAnd ?_ | refine i_eOr ?_ | refine i_eNot ?_ | refine i_eIf ?_ | refine i_bOf ?_ | refine i_bAnd ?_ | refine i_bOr ?_ | refine i_bNot ?_ | refine i_bYes ?_ | refine i_aNil ?_ | refine i_aCons ?_ | refine i_eCall ?_ | refine i_eCallKw ?_ | refine i_eCut ?_ | refine i_oNone ?_ | refine i_oSome ?_ | refine i_eM ?_ | refine i_sSq ?_ | refine i_sRange1 ?_ | refine i_sRange2 ?_ | refine i_sEnum ?_ | refine i_eIsi ?_ | refine i_eIsi2 ?_ | refine i_eLc ?_ | refine i_eLcM ?_ | refine i_sFor ?_ | refine i_eDisp1 ?_ | refine i_bl ?_ | refine i_int ?_ | refine i_nm ?_ | refine i_one ?_ | refine i_two ?_ | refine i_rng ?_ | refine i_len0 ?_ | refine i_int1 ?_ | refine i_intb ?_ | refine i_abs ?_ | refine i_add ?_ | refine i_sub ?_ | refine i_lt ?_ | refine i_le ?_ | refine i_gt ?_ | refine i_ge ?_ | refine i_eqi ?_ | refine i_is ?_ | refine i_isn ?_ | refine i_nes ?_ | refine i_rbl ?_ | refine i_eCallX ?_ | refine i_eCallKwX ?_ | refine i_sRaiseF ?_ | refine i_eIsX ?_ | refine i_eFld ?_ | refine i_eDit1 ?_ | refine i_sTry ?_ | refine i_runX ?_ | refine i_ltU ?_ | refine i_isU ?_ | refine i_isnU ?_ | refine i_isS ?_ | refine i_isnS ?_ | refine i_isB ?_ | refine i_isnB ?_ | refine i_neg ?_ | refine i_eDcT ?_ | refine i_sPar3 ?_ | refine i_three ?_ | refine i_eFldU ?_ | refine i_eIsU ?_ | refine i_eFrzO ?_ | refine i_eMake ?_ | refine i_sFldP ?_ | refine i_eMeth ?_ | refine i_sWhile ?_ | refine i_aStar ?_ | refine i_eFn ?_ | refine i_sAsgL ?_ | refine i_sCont ?_ | refine i_sBrk ?_ | refine i_eDnT ?_ | refine i_eDnK ?_ | refine i_eDit1M ?_ | refine i_sDPutU ?_ | refine i_eListR2 ?_ | refine i_bool1 ?_ | refine i_eCName ?_ | refine i_sFlds ?_ | refine i_bTruL ?_ | refine i_eCutU ?_ | refine i_sStr ?_ | refine i_eJoined ?_ | refine i_dJs ?_ | refine i_dJn ?_ | refine i_eMakeX ?_ | refine i_eMethX ?_ | refine i_eFmt ?_ | refine i_eLc2 ?_ | refine i_sRng ?_ | refine i_sTryS ?_) | ((with_reducible refine i_eVarX ?_); refine ⟨_, rfl, ?_⟩) | ((with_reducible refine i_len1 ?_ ?_); · exact Nat.le_of_ble_eq_true rfl) | ((with_reducible first | refine i_ix0 ?_ | refine i_ix1 ?_ | refine i_ix2 ?_ | refine i_ix3 ?_); refine ⟨_, _, rfl, rfl, ?_⟩) | ((with_reducible refine i_tp ?_); refine ⟨_, by unfold bindT; rfl, ?_⟩) | ((with_reducible first | refine i_len ?_ | refine i_list ?_ | refine i_listU ?_ | refine i_tuple ?_ | refine i_sqE ?_); refine ⟨_, rfl, ?_⟩) | ((with_reducible refine i_modL ?_ ?_); · decide) | (with_reducible refine i_eqs ?_) | (with_reducible first | refine cl_power (by assumption) ?_ | refine cl_height (by assumption) ?_ | refine cl_origins (by assumption) ?_ | refine cl_lasted (by assumption) ?_ | refine cl_square (by assumption) ?_ | refine cl_turn (by assumption) ?_ | refine is_cl (by assumption) ?_ | refine st_wide (by assumption) ?_ | refine st_power (by assumption) ?_ | refine st_far (by assumption) ?_) | ((with_reducible refine i_kw ?_); refine ⟨rfl, rfl, ?_⟩)))
local macro_rules | `(tactic| walk_at "nc hs") => `(tactic| repeat (first | (with_reducible first | refine nes_same ?_ | refine eqs_same ?_ | refine iteT ?_ | refine iteF ?_ | refine iteNT ?_ | refine iteNF ?_) | (with_reducible first | refine i_sSeq ?_ | refine i_sIf ?_ | refine i_sNil ?_ | refine i_sRet ?_ | refine i_sAsg ?_ | refine i_sDrop ?_ | refine i_sPut ?_ | refine i_sPar ?_ | refine i_eC ?_ | refine i_eOp ?_ | refine i_eChain ?_ | refine i_eB ?_ | refine i_eUn ?_ | refine i_eTup ?_ | refine i_eLst ?_ | refine i_eLstM ?_ | refine i_eAnd ?_ | refine i_eOr ?_ | refine i_eNot ?_ | refine i_eIf ?_ | refine i_bOf ?_ | refine i_bAnd ?_ | refine i_bOr ?_ | refine i_bNot ?_ | refine i_bYes ?_ | refine i_aNil ?_ | refine i_aCons ?_ | refine i_eCall ?_ | refine i_eCallKw ?_ | refine i_eCut ?_ | refine i_oNone ?_ | refine i_oSome ?_ | refine i_eM ?_ | refine i_sSq ?_ | refine i_sRange1 ?_ | refine i_sRange2 ?_ | refine i_sEnum ?_ | refine i_eIsi ?_ | refine i_eIsi2 ?_ | refine i_eLc ?_ | refine i_eLcM ?_ | refine i_sFor ?_ | refine i_eDisp1 ?_ | refine i_bl ?_ | refine i_int ?_ | refine i_nm ?_ | refine i_one ?_ | refine i_two ?_ | refine i_rng ?_ | refine i_len0 ?_ | refine i_int1 ?_ | refine i_intb ?_ | refine i_abs ?_ | refine i_add ?_ | refine i_sub ?_ | refine i_lt ?_ | refine i_le ?_ | refine i_gt ?_ | refine i_ge ?_ | refine i_eqi ?_ | refine i_is ?_ | refine i_isn ?_ | refine i_nes ?_ | refine i_rbl ?_ | refine i_eCallX ?_ | refine i_eCallKwX ?_ | refine i_sRaiseF ?_ | refine i_eIsX ?_ | refine i_eFld ?_ | refine i_eDit1 ?_ | refine i_sTry ?_ | refine i_runX ?_ | refine i_ltU ?_ | refine i_isU ?_ | refine i_isnU ?_ | refine i_isS ?_ | refine i_isnS ?_ | refine i_isB ?_ | refine i_isnB ?_ | refine i_neg ?_ | refine i_eDcT ?_ | refine i_sPar3 ?_ | refine i_three ?_ | refine i_eFldU ?_ | refine i_eIsU ?_ | refine i_eFrzO ?_ | refine i_eMake ?_ | refine i_sFldP ?_ | refine i_eMeth ?_ | refine i_sWhile ?_ | refine i_aStar ?_ | refine i_eFn ?_ | refine i_sAsgL ?_ | refine i_sCont ?_ | refine i_sBrk ?_ | refine i_eDnT ?_ | refine i_eDnK ?_ | refine i_eDit1M ?_ | refine i_sDPutU ?_ | refine i_eListR2 ?_ | refine i_bool1 ?_ | refine i_eCName ?_ | refine i_sFlds ?_ | refine i_bTruL ?_ | refine i_eCutU ?_ | refine i_sStr ?_ | refine i_eJoined ?_ | refine i_dJs ?_ | refine i_dJn ?_ | refine i_eMakeX ?_ | refine i_eMethX ?_ | refine i_eFmt ?_ | refine i_eLc2 ?_ | refine i_sRng ?_ | refine i_sTryS ?_) | ((with_reducible refine i_eVarX ?_); refine ⟨_, rfl, ?_⟩) | ((with_reducible refine i_len1 ?_ ?_); · exact Nat.le_of_ble_eq_true rfl) | ((with_reducible first | refine i_ix0 ?_ | refine i_ix1 ?_ | refine i_ix2 ?_ | refine i_ix3 ?_); refine ⟨_, _, rfl, rfl, ?_⟩) | ((with_reducible refine i_tp ?_); refine ⟨_, by unfold bindT; rfl, ?_⟩) | ((with_reducible first | refine i_len ?_ | refine i_list ?_ | refine i_listU ?_ | refine i_tuple ?_ | refine i_sqE ?_); refine ⟨_, rfl, ?_⟩) | ((with_reducible refine i_modL ?_ ?_); · decide) | (with_reducible refine i_eqs ?_) | (with_reducible first | refine cl_power (by assumption) ?_ | refine cl_height (by assumption) ?_ | refine cl_origins (by assumption) ?_ | refine cl_lasted (by assumption) ?_ | refine cl_square (by assumption) ?_ | refine cl_turn (by assumption) ?_ | refine is_cl (by assumption) ?_ | refine st_wide (by assumption) ?_ | refine st_power (by assumption) ?_ | refine st_far (by assumption) ?_) | ((with_reducible refine i_kw ?_); refine ⟨rfl, rfl, ?_⟩)))
theorem lotG_is {S : Store} {d e : D} (h : LotG S d e) (ha : areSq e = true) : (sqsOf e).length < 60 ∧ (sqsOf e).Nodup := by
  obtain ⟨_, hl⟩ := h
  unfold areSq at ha
  unfold sqsOf
  split at ha
  · rename_i ys hy
    rw [Bool.and_eq_true] at ha
    refine ⟨?_, of_decide_eq_true ha.2⟩
    rcases hl with ⟨_, _, h2⟩ | ⟨zs, _, h2, h3, _⟩
    · rw [h2] at hy; cases hy
    · rw [h2] at hy
      cases hy
      rw [List.length_map, List.length_map]
      exact h3
  · cases ha
theorem isbox_of {l : List Sq} (ne : l ≠ []) {a b c : Int} (h1 : a ∈ l.map (·.1)) (h2 : ∀ y ∈ l.map (·.1), y ≤ a) (h3 : b ∈ l.map (·.2)) (h4 : ∀ y ∈ l.map (·.2), b ≤ y) (h5 : c ∈ l.map (·.2)) (h6 : ∀ y ∈ l.map (·.2), y ≤ c) : IsBox l (.tup [.int a, .int b, .int c]) :=
  .inr ⟨a, b, c, ne, rfl, ⟨h1, h2⟩, ⟨h3, h4⟩, h5, h6⟩
theorem within_len {b : Bd} (ok : BdOk b) : (within_ b.h b.p b.f).length ≤ 120 := by
  unfold within_
  rw [List.length_append]
  have := List.length_filter_le (fun q => decide (0 ≤ q.1) && !barS b.p q) b.f
  have := ok.hl
  have := ok.fl
  omega
theorem small {n : Nat} (h : n ≤ 1000) : n ≤ sizeLine := Nat.le_trans h (by decide)
theorem eq_lnil {l : List Sq} {S : Store} {Q : QD} (q : Q (.bl (decide (l = []))) S) : rEq3 (.lst (l.map sqD)) (.lst []) S Q := by
  refine eq_dat (x := .lst (l.map sqD)) (y := .lst []) ?_ rfl ?_
  · exact fls_all.mpr fun d hd => by
      obtain ⟨p, _, rfl⟩ := List.mem_map.mp hd
      rfl
  · cases l with
    | nil => exact q
    | cons a l => exact q
theorem run_box_around (xs : List D) (S : Store) (Q : QD) (h : r_box_around xs S Q) : runD 10 b_box_around xs S Q := by
  obtain ⟨b, rfl, ok, q⟩ := h
  refine i_runD ?_
  unfold b_box_around
  have hl := ok.hl
  have pl := ok.pl
  have fl := ok.fl
  refine cut1 3 (fun d S' => d = ditS b.p ∧ S' = S) (fun N' hrt hnx => ?_) (fun d S' hP => ?_)
  · walk_at "nc hh"
    refine dc_sq ok.pn (few (by omega)) (by simp [startD]) rfl ?_
    walk_at "nc hh"
    exact hnx _ _ ⟨rfl, rfl⟩
  obtain ⟨rfl, rfl⟩ := hP
  refine cut1 4 (fun d S2 => d = .lst ((within_ b.h b.p b.f).map sqD) ∧ S2 = S') (fun N' hrt hnx => ?_) (fun d S2 hP => ?_)
  · walk_at "nc hh"
    refine lc_ty (p := fun q => decide (0 ≤ q.1) && !barS b.p q) (g := sqD) rfl (few (by omega)) (fun a ha => ⟨_, by unfold bindT; rfl, fun Q' q' => ?_, fun _ Q' q' => ?_⟩) ?_
    · walk_at "nc hh"
      cases h1 : decide (0 ≤ a.1) with
      | false =>
        rw [h1, Bool.false_and] at q'
        walk_at "nc hh"
        exact q'
      | true =>
        rw [h1, Bool.true_and] at q'
        walk_at "nc hh"
        refine ⟨_, a, b.p, rfl, .inr rfl, ?_⟩
        walk_at "nc hh"
        exact q'
    · walk_at "nc hh"
      exact q'
    walk_at "nc hh"
    refine ⟨small ?_, ?_⟩
    · have := List.length_filter_le (fun q => decide (0 ≤ q.1) && !barS b.p q) b.f
      simp only [List.length_append, List.length_map, List.length_nil]
      omega
    walk_at "nc hh"
    refine hnx _ _ ⟨?_, rfl⟩
    unfold within_
    rw [List.map_append, List.append_nil]
  obtain ⟨rfl, rfl⟩ := hP
  have wl := within_len ok
  generalize within_ b.h b.p b.f = w at q wl
  refine i_sSeq ?_
  walk_at "nc hh"
  refine eq_lnil ?_
  cases e : decide (w = []) with
  | true =>
    walk_at "nc hh"
    exact q _ (.inl ⟨of_decide_eq_true e, rfl⟩)
  | false =>
    have ne := of_decide_eq_false e
    have pos : 0 < w.length := List.length_pos_iff.mpr ne
    walk_at "nc hs"
    refine lc_each (l := w) (enc := sqD) (g := fun p => .int p.2) rfl (small (by omega)) (fun a ha => ⟨_, rfl, fun Q' q' => ?_⟩) ?_
    · walk_at "nc hh"
      exact q'
    walk_at "nc hs"
    refine lc_each (l := w) (enc := sqD) (g := fun p => .int p.1) rfl (small (by omega)) (fun a ha => ⟨_, rfl, fun Q' q' => ?_⟩) ?_
    · walk_at "nc hh"
      exact q'
    walk_at "nc hh"
    refine .inl (.inr ⟨_, w.map (·.1), rfl, by rw [List.map_map]; rfl, by rw [List.length_map]; exact pos, fun a a1 a2 => ?_⟩)
    walk_at "nc hh"
    refine .inr ⟨_, w.map (·.2), rfl, by rw [List.map_map]; rfl, by rw [List.length_map]; exact pos, fun b b1 b2 => ?_⟩
    walk_at "nc hh"
    refine .inl (.inr ⟨_, w.map (·.2), rfl, by rw [List.map_map]; rfl, by rw [List.length_map]; exact pos, fun c c1 c2 => ?_⟩)
    walk_at "nc hh"
    exact q _ (isbox_of ne a1 a2 b1 b2 c1 c2)
theorem run_law_box (xs : List D) (S : Store) (Q : QD) (h : r_law_box xs S Q) : runD 5 b_law_box xs S Q := by
  obtain ⟨b, rfl, ok, q⟩ := h
  refine i_runD ?_
  unfold b_law_box
  have hl := ok.hl
  have pl := ok.pl
  have fl := ok.fl
  refine cut1 3 (fun d S' => d = .lst ((within_ b.h b.p b.f).map sqD) ∧ S' = S) (fun N' hrt hnx => ?_) (fun d S' hP => ?_)
  · walk_at "nc hh"
    refine lc_ty (p := fun q => decide (0 ≤ q.1) && !barS b.p q) (g := sqD) rfl (few (by omega)) (fun a ha => ⟨_, by unfold bindT; rfl, fun Q' q' => ?_, fun _ Q' q' => ?_⟩) ?_
    · walk_at "nc hh"
      cases h1 : decide (0 ≤ a.1) with
      | false =>
        rw [h1, Bool.false_and] at q'
        walk_at "nc hh"
        exact q'
      | true =>
        rw [h1, Bool.true_and] at q'
        walk_at "nc hh"
        refine ⟨_, a, b.p, rfl, .inl rfl, ?_⟩
        walk_at "nc hh"
        exact q'
    · walk_at "nc hh"
      exact q'
    walk_at "nc hh"
    have := List.length_filter_le (fun q => decide (0 ≤ q.1) && !barS b.p q) b.f
    refine add_lst rfl rfl (small (by rw [List.length_map, List.length_map]; omega)) ?_
    walk_at "nc hh"
    refine hnx _ _ ⟨?_, rfl⟩
    unfold within_
    rw [List.map_append]
  obtain ⟨rfl, rfl⟩ := hP
  have wl := within_len ok
  generalize within_ b.h b.p b.f = w at q wl
  refine i_sSeq ?_
  walk_at "nc hh"
  refine eq_lnil ?_
  cases e : decide (w = []) with
  | true =>
    walk_at "nc hh"
    exact q _ (.inl ⟨of_decide_eq_true e, rfl⟩)
  | false =>
    have ne := of_decide_eq_false e
    have pos : 0 < w.length := List.length_pos_iff.mpr ne
    walk_at "nc hh"
    refine lc_each (l := w) (enc := sqD) (g := fun p => .int p.1) rfl (small (by omega)) (fun a ha => ⟨_, by unfold bindT; rfl, fun Q' q' => ?_⟩) ?_
    · walk_at "nc hh"
      exact q'
    walk_at "nc hh"
    refine .inl (.inr ⟨_, w.map (·.1), rfl, by rw [List.map_map]; rfl, by rw [List.length_map]; exact pos, fun a a1 a2 => ?_⟩)
    walk_at "nc hh"
    refine lc_each (l := w) (enc := sqD) (g := fun p => .int p.2) rfl (small (by omega)) (fun a ha => ⟨_, by unfold bindT; rfl, fun Q' q' => ?_⟩) ?_
    · walk_at "nc hh"
      exact q'
    walk_at "nc hh"
    refine .inr ⟨_, w.map (·.2), rfl, by rw [List.map_map]; rfl, by rw [List.length_map]; exact pos, fun b b1 b2 => ?_⟩
    walk_at "nc hh"
    refine lc_each (l := w) (enc := sqD) (g := fun p => .int p.2) rfl (small (by omega)) (fun a ha => ⟨_, by unfold bindT; rfl, fun Q' q' => ?_⟩) ?_
    · walk_at "nc hh"
      exact q'
    walk_at "nc hh"
    refine .inl (.inr ⟨_, w.map (·.2), rfl, by rw [List.map_map]; rfl, by rw [List.length_map]; exact pos, fun c c1 c2 => ?_⟩)
    walk_at "nc hh"
    exact q _ (isbox_of ne a1 a2 b1 b2 c1 c2)
end NC
set_option Elab.async false
set_option linter.all false
set_option maxRecDepth 100000
set_option maxHeartbeats 4000000
namespace NC
open PySem PySem.Spec PyProof.Rows L2
local macro_rules | `(tactic| walk_at "nc hq") => `(tactic| repeat (first | (with_reducible first | refine i_sSeq ?_ | refine i_sIf ?_ | refine i_sNil ?_ | refine i_sRet ?_ | refine i_sAsg ?_ | refine i_sDrop ?_ | refine i_sPut ?_ | refine i_sPar ?_ | refine i_eC ?_ | refine i_eOp ?_ | refine i_eChain ?_ | refine i_eB ?_ | refine i_eUn ?_ | refine i_eTup ?_ | refine i_eLst ?_ | refine i_eLstM ?_ | refine i_eAnd ?_ | refine i_eOr ?_ | refine i_eNot ?_ | refine i_eIf ?_ | refine i_bOf ?_ | refine i_bAnd ?_ | refine i_bOr ?_ | refine i_bNot ?_ | refine i_bYes ?_ | refine i_aNil ?_ | refine i_aCons ?_ | refine i_eCall ?_ | refine i_eCallKw ?_ | refine i_eCut ?_ | refine i_oNone ?_ | refine i_oSome ?_ | refine i_eM ?_ | refine i_sSq ?_ | refine i_sRange1 ?_ | refine i_sRange2 ?_ | refine i_sEnum ?_ | refine i_eIsi ?_ | refine i_eIsi2 ?_ | refine i_eLc ?_ | refine i_eLcM ?_ | refine i_sFor ?_ | refine i_eDisp1 ?_ | refine i_bl ?_ | refine i_int ?_ | refine i_nm ?_ | refine i_one ?_ | refine i_two ?_ | refine i_rng ?_ | refine i_len0 ?_ | refine i_int1 ?_ | refine i_intb ?_ | refine i_abs ?_ | refine i_add ?_ | refine i_sub ?_ | refine i_lt ?_ | refine i_le ?_ | refine i_gt ?_ | refine i_ge ?_ | refine i_eqi ?_ | refine i_is ?_ | refine i_isn ?_ | refine i_nes ?_ | refine i_rbl ?_ | refine i_eCallX ?_ | refine i_eCallKwX ?_ | refine i_sRaiseF ?_ | refine i_eIsX ?_ | refine i_eFld ?_ | refine i_eDit1 ?_ | refine i_sTry ?_ | refine i_runX ?_ | refine i_ltU ?_ | refine i_isU ?_ | refine i_isnU ?_ | refine i_isS ?_ | refine i_isnS ?_ | refine i_isB ?_ | refine i_isnB ?_ | refine i_neg ?_ | refine i_eDcT ?_ | refine i_sPar3 ?_ | refine i_three ?_ | refine i_eFldU ?_ | refine i_eIsU ?_ | refine i_eFrzO ?_ | refine i_eMake ?_ | refine i_sFldP ?_ | refine i_eMeth ?_ | refine i_sWhile ?_ | refine i_aStar ?_ | refine i_eFn ?_ | refine i_sAsgL ?_ | refine i_sCont ?_ | refine i_sBrk ?_ | refine i_eDnT ?_ | refine i_eDnK ?_ | refine i_eDit1M ?_ | refine i_sDPutU ?_ | refine i_eListR2 ?_ | refine i_bool1 ?_ | refine i_eCName ?_ | refine i_sFlds ?_ | refine i_bTruL ?_ | refine i_eCutU ?_ | refine i_sStr ?_ | refine i_eJoined ?_ | refine i_dJs ?_ | refine i_dJn ?_ | refine i_eMakeX ?_ | refine i_eMethX ?_ | refine i_eFmt ?_ | refine i_eLc2 ?_ | refine i_sRng ?_ | refine i_sTryS ?_) | ((with_reducible refine i_eVarX ?_); refine ⟨_, rfl, ?_⟩) | ((with_reducible refine i_len1 ?_ ?_); · exact Nat.le_of_ble_eq_true rfl)))
local macro_rules | `(tactic| walk_at "nc hh") => `(tactic| repeat (first | (with_reducible first | refine nes_same ?_ | refine eqs_same ?_ | refine iteT ?_ | refine iteF ?_ | refine iteNT ?_ | refine iteNF ?_) | (with_reducible first | refine i_sIf ?_ | refine i_sNil ?_ | refine i_sRet ?_ | refine i_sAsg ?_ | refine i_sDrop ?_ | refine i_sPut ?_ | refine i_sPar ?_ | refine i_eC ?_ | refine i_eOp ?_ | refine i_eChain ?_ | refine i_eB ?_ | refine i_eUn ?_ | refine i_eTup ?_ | refine i_eLst ?_ | refine i_eLstM ?_ | refine i_eAnd ?_ | refine i_eOr ?_ | refine i_eNot ?_ | refine i_eIf ?_ | refine i_bOf ?_ | refine i_bAnd ?_ | refine i_bOr ?_ | refine i_bNot ?_ | refine i_bYes ?_ | refine i_aNil ?_ | refine i_aCons ?_ | refine i_eCall ?_ | refine i_eCallKw ?_ | refine i_eCut ?_ | refine i_oNone ?_ | refine i_oSome ?_ | refine i_eM ?_ | refine i_sSq ?_ | refine i_sRange1 ?_ | refine i_sRange2 ?_ | refine i_sEnum ?_ | refine i_eIsi ?_ | refine i_eIsi2 ?_ | refine i_eLc ?_ | refine i_eLcM ?_ | refine i_sFor ?_ | refine i_eDisp1 ?_ | refine i_bl ?_ | refine i_int ?_ | refine i_nm ?_ | refine i_one ?_ | refine i_two ?_ | refine i_rng ?_ | refine i_len0 ?_ | refine i_int1 ?_ | refine i_intb ?_ | refine i_abs ?_ | refine i_add ?_ | refine i_sub ?_ | refine i_lt ?_ | refine i_le ?_ | refine i_gt ?_ | refine i_ge ?_ | refine i_eqi ?_ | refine i_is ?_ | refine i_isn ?_ | refine i_nes ?_ | refine i_rbl ?_ | refine i_eCallX ?_ | refine i_eCallKwX ?_ | refine i_sRaiseF ?_ | refine i_eIsX ?_ | refine i_eFld ?_ | refine i_eDit1 ?_ | refine i_sTry ?_ | refine i_runX ?_ | refine i_ltU ?_ | refine i_isU ?_ | refine i_isnU ?_ | refine i_isS ?_ | refine i_isnS ?_ | refine i_isB ?_ | refine i_isnB ?_ | refine i_neg ?_ | refine i_eDcT ?_ | refine i_sPar3 ?_ | refine i_three ?_ | refine i_eFldU ?_ | refine i_eIsU ?_ | refine i_eFrzO ?_ | refine i_eMake ?_ | refine i_sFldP ?_ | refine i_eMeth ?_ | refine i_sWhile ?_ | refine i_aStar ?_ | refine i_eFn ?_ | refine i_sAsgL ?_ | refine i_sCont ?_ | refine i_sBrk ?_ | refine i_eDnT ?_ | refine i_eDnK ?_ | refine i_eDit1M ?_ | refine i_sDPutU ?_ | refine i_eListR2 ?_ | refine i_bool1 ?_ | refine i_eCName ?_ | refine i_sFlds ?_ | refine i_bTruL ?_ | refine i_eCutU ?_ | refine i_sStr ?_ | refine i_eJoined ?_ | refine i_dJs ?_ | refine i_dJn ?_ | refine i_eMakeX ?_ | refine i_eMethX ?_ | refine i_eFmt ?_ | refine i_eLc2 ?_ | refine i_sRng ?_ | refine i_sTryS ?_) | ((with_reducible refine i_eVarX ?_); refine ⟨_, rfl, ?_⟩) | ((with_reducible refine i_len1 ?_ ?_); · exact Nat.le_of_ble_eq_true rfl) | ((with_reducible first | refine i_ix0 ?_ | refine i_ix1 ?_ | refine i_ix2 ?_ | refine i_ix3 ?_); refine ⟨_, _, rfl, rfl, ?_⟩) | ((with_reducible refine i_tp ?_); refine ⟨_, by unfold bindT; rfl, ?_⟩) | ((with_reducible first | refine i_len ?_ | refine i_list ?_ | refine i_listU ?_ | refine i_tuple ?_ | refine i_sqE ?_); refine ⟨_, rfl, ?_⟩) | ((with_reducible refine i_modL ?_ ?_); · decide) | (with_reducible refine i_eqs ?_) | (with_reducible first | refine cl_power (by assumption) ?_ | refine cl_height (by assumption) ?_ | refine cl_origins (by assumption) ?_ | refine cl_lasted (by assumption) ?_ | refine cl_square (by assumption) ?_ | refine cl_turn (by assumption) ?_ | refine is_cl (by assumption) ?_ | refine st_wide (by assumption) ?_ | refine st_power (by assumption) ?_ | refine st_far (by assumption) ?_) | ((with_reducible refine i_kw ?_); refine ⟨rfl, rfl, ?_⟩)))
local macro_rules | `(tactic| walk_at "nc hs") => `(tactic| repeat (first | (with_reducible first | refine nes_same ?_ | refine eqs_same ?_ | refine iteT ?_ | refine iteF ?_ | refine iteNT ?_ | refine iteNF ?_) | (with_reducible first | refine i_sSeq ?_ | refine i_sIf ?_ | refine i_sNil ?_ | refine i_sRet ?_ | refine i_sAsg ?_ | refine i_sDrop ?_ | refine i_sPut ?_ | refine i_sPar ?_ | refine i_eC ?_ | refine i_eOp ?_ | refine i_eChain ?_ | refine i_eB ?_ | refine i_eUn ?_ | refine i_eTup ?_ | refine i_eLst ?_ | refine i_eLstM ?_ | refine i_eAnd ?_ | refine i_eOr ?_ | refine i_eNot ?_ | refine i_eIf ?_ | refine i_bOf ?_ | refine i_bAnd ?_ | refine i_bOr ?_ | refine i_bNot ?_ | refine i_bYes ?_ | refine i_aNil ?_ | refine i_aCons ?_ | refine i_eCall ?_ | refine i_eCallKw ?_ | refine i_eCut ?_ | refine i_oNone ?_ | refine i_oSome ?_ | refine i_eM ?_ | refine i_sSq ?_ | refine i_sRange1 ?_ | refine i_sRange2 ?_ | refine i_sEnum ?_ | refine i_eIsi ?_ | refine i_eIsi2 ?_ | refine i_eLc ?_ | refine i_eLcM ?_ | refine i_sFor ?_ | refine i_eDisp1 ?_ | refine i_bl ?_ | refine i_int ?_ | refine i_nm ?_ | refine i_one ?_ | refine i_two ?_ | refine i_rng ?_ | refine i_len0 ?_ | refine i_int1 ?_ | refine i_intb ?_ | refine i_abs ?_ | refine i_add ?_ | refine i_sub ?_ | refine i_lt ?_ | refine i_le ?_ | refine i_gt ?_ | refine i_ge ?_ | refine i_eqi ?_ | refine i_is ?_ | refine i_isn ?_ | refine i_nes ?_ | refine i_rbl ?_ | refine i_eCallX ?_ | refine i_eCallKwX ?_ | refine i_sRaiseF ?_ | refine i_eIsX ?_ | refine i_eFld ?_ | refine i_eDit1 ?_ | refine i_sTry ?_ | refine i_runX ?_ | refine i_ltU ?_ | refine i_isU ?_ | refine i_isnU ?_ | refine i_isS ?_ | refine i_isnS ?_ | refine i_isB ?_ | refine i_isnB ?_ | refine i_neg ?_ | refine i_eDcT ?_ | refine i_sPar3 ?_ | refine i_three ?_ | refine i_eFldU ?_ | refine i_eIsU ?_ | refine i_eFrzO ?_ | refine i_eMake ?_ | refine i_sFldP ?_ | refine i_eMeth ?_ | refine i_sWhile ?_ | refine i_aStar ?_ | refine i_eFn ?_ | refine i_sAsgL ?_ | refine i_sCont ?_ | refine i_sBrk ?_ | refine i_eDnT ?_ | refine i_eDnK ?_ | refine i_eDit1M ?_ | refine i_sDPutU ?_ | refine i_eListR2 ?_ | refine i_bool1 ?_ | refine i_eCName ?_ | refine i_sFlds ?_ | refine i_bTruL ?_ | refine i_eCutU ?_ | refine i_sStr ?_ | refine i_eJoined ?_ | refine i_dJs ?_ | refine i_dJn ?_ | refine i_eMakeX ?_ | refine i_eMethX ?_ | refine i_eFmt ?_ | refine i_eLc2 ?_ | refine i_sRng ?_ | refine i_sTryS ?_) | ((with_reducible refine i_eVarX ?_); refine ⟨_, rfl, ?_⟩) | ((with_reducible refine i_len1 ?_ ?_); · exact Nat.le_of_ble_eq_true rfl) | ((with_reducible first | refine i_ix0 ?_ | refine i_ix1 ?_ | refine i_ix2 ?_ | refine i_ix3 ?_); refine ⟨_, _, rfl, rfl, ?_⟩) | ((with_reducible refine i_tp ?_); refine ⟨_, by unfold bindT; rfl, ?_⟩) | ((with_reducible first | refine i_len ?_ | refine i_list ?_ | refine i_listU ?_ | refine i_tuple ?_ | refine i_sqE ?_); refine ⟨_, rfl, ?_⟩) | ((with_reducible refine i_modL ?_ ?_); · decide) | (with_reducible refine i_eqs ?_) | (with_reducible first | refine cl_power (by assumption) ?_ | refine cl_height (by assumption) ?_ | refine cl_origins (by assumption) ?_ | refine cl_lasted (by assumption) ?_ | refine cl_square (by assumption) ?_ | refine cl_turn (by assumption) ?_ | refine is_cl (by assumption) ?_ | refine st_wide (by assumption) ?_ | refine st_power (by assumption) ?_ | refine st_far (by assumption) ?_) | ((with_reducible refine i_kw ?_); refine ⟨rfl, rfl, ?_⟩)))
theorem AnyBd.to {cs : Cs} {x : D} {n y : Prop} {go : Bd → Prop} (h : AnyBd cs x n go) (k : ∀ b : Bd, x = bdD cs b → BdOk b → go b → y) : AnyBd cs x n fun _ => y := h.elim (fun h => .inl h) fun ⟨b, e, o, g⟩ => .inr ⟨b, e, o, k b e o g⟩
section
variable {K : PySem.W.Frag} {cs : Cs} {Q : QD} {S : Store} {b : Bd}
theorem fld_h (kf : KF K cs) (q : Q (.tup (b.h.map sqD)) S) : FldO K "held" (bdD cs b) S Q := fldO_of rfl kf.c_Board.cl kf.o_Board_held rfl q
theorem fld_p (kf : KF K cs) (q : Q (.tup (b.p.map sqD)) S) : FldO K "passed" (bdD cs b) S Q := fldO_of rfl kf.c_Board.cl kf.o_Board_passed rfl q
theorem fld_f (kf : KF K cs) (q : Q (.tup (b.f.map sqD)) S) : FldO K "burnt" (bdD cs b) S Q := fldO_of rfl kf.c_Board.cl kf.o_Board_burnt rfl q
end
theorem run_box_of {K : PySem.W.Frag} {cs : Cs} (kf : KF K cs) (xs : List D) (S : Store) (Q : QD) (E : XD) (h : r_box_of cs xs S Q E) : runX 1 (b_box_of K cs) xs S Q E := by
  obtain ⟨x, rfl, h⟩ := h
  refine i_runX ?_
  unfold b_box_of
  walk_at "nc hs"
  refine ⟨_, _, rfl, by decide, h.to fun b e ok go => ?_⟩
  subst e
  walk_at "nc hs"
  refine fld_h kf ?_
  walk_at "nc hs"
  refine fld_p kf ?_
  walk_at "nc hs"
  refine fld_f kf ?_
  walk_at "nc hs"
  exact ⟨b, rfl, ok, go⟩
theorem run_best_for {K : PySem.W.Frag} {cs : Cs} (kf : KF K cs) (xs : List D) (S : Store) (Q : QD) (E : XD) (h : r_best_for cs xs S Q E) : runX 7 (b_best_for K cs) xs S Q E := by
  obtain ⟨x, t, rfl, ht, e⟩ := h
  refine i_runX ?_
  unfold b_best_for
  walk_at "nc hs"
  exact ⟨_, _, rfl, by decide, .inl ⟨⟨t, ht⟩, e⟩⟩
theorem run_cheapest_cost {K : PySem.W.Frag} {cs : Cs} (kf : KF K cs) (xs : List D) (S : Store) (Q : QD) (E : XD) (h : r_cheapest_cost cs xs S Q E) : runX 2 (b_cheapest_cost K cs) xs S Q E := by
  obtain ⟨x, t, rfl, ht, e⟩ := h
  refine i_runX ?_
  unfold b_cheapest_cost
  walk_at "nc hs"
  exact ⟨_, _, rfl, by decide, .inl ⟨⟨t, ht⟩, e⟩⟩
theorem run_shows_best {K : PySem.W.Frag} {cs : Cs} (kf : KF K cs) (xs : List D) (S : Store) (Q : QD) (E : XD) (h : r_shows_best cs xs S Q E) : runX 7 (b_shows_best K cs) xs S Q E := by
  obtain ⟨x, y, t, rfl, ht, e⟩ := h
  refine i_runX ?_
  unfold b_shows_best
  walk_at "nc hs"
  exact ⟨_, _, rfl, by decide, .inl ⟨⟨t, ht⟩, e⟩⟩
theorem run_need_wall {K : PySem.W.Frag} {cs : Cs} (kf : KF K cs) (xs : List D) (S : Store) (Q : QD) (E : XD) (h : r_need_wall cs xs S Q E) : runX 3 (b_need_wall K cs) xs S Q E := by
  obtain ⟨d, e, p, rfl, hp, l, n1, n2, q⟩ := h
  refine i_runX ?_
  unfold b_need_wall
  walk_at "nc hq"
  refine ⟨d, e, p, rfl, hp, l, n1, fun a qs pm sr => ?_⟩
  obtain ⟨f, u⟩ := lotG_is l a
  have g := pm.length_eq
  walk_at "nc hq"
  refine ⟨qs, p, rfl, by omega, hp, fun h => n2 a (by rw [← left_perm pm]; exact h), fun h => ?_⟩
  walk_at "nc hq"
  exact q a (by rw [← left_perm pm]; exact h) qs pm sr
theorem all_any {S : Store} (l : List Sq) (f : Sq → Bool) : drf S (.lst (l.map fun p => D.bl (f p))) = .lst ((l.map f).map D.bl) := by rw [List.map_map]; rfl
theorem run_is_fit (xs : List D) (S : Store) (Q : QD) (h : r_is_fit xs S Q) : runD 6 b_is_fit xs S Q := by
  obtain ⟨hs_, ps, ws, rfl, hl, pl, wl, pn, wn, q⟩ := h
  refine i_runD ?_
  unfold b_is_fit
  refine cut2 3 4 (fun d e S' => d = ditS ws ∧ e = ditS ps ∧ S' = S) (fun N' hrt hnx => ?_) (fun d e S' hP => ?_)
  · walk_at "nc hh"
    refine dc_sq wn (few (by omega)) (by simp [startD]) rfl ?_
    walk_at "nc hh"
    refine dc_sq pn (few (by omega)) (by simp [startD]) rfl ?_
    walk_at "nc hh"
    exact hnx _ _ _ ⟨rfl, rfl, rfl⟩
  obtain ⟨rfl, rfl, rfl⟩ := hP
  walk_at "nc hh"
  refine lc_each (l := hs_) (enc := sqD) (g := fun p => .bl (decide (p ∈ ws))) rfl (few (by omega)) (fun a ha => ⟨_, by unfold bindT; rfl, fun Q' q' => ?_⟩) ?_
  · walk_at "nc hh"
    refine inU_dit rfl ?_
    walk_at "nc hh"
    exact q'
  walk_at "nc hh"
  refine ⟨_, all_any _ _, ?_⟩
  walk_at "nc hh"
  unfold fitS at q
  cases h1 : (hs_.map fun p => decide (p ∈ ws)).all id with
  | false =>
    rw [List.all_map] at h1
    rw [show (hs_.all fun p => decide (p ∈ ws)) = false from h1, Bool.false_and] at q
    walk_at "nc hh"
    exact q
  | true =>
    rw [List.all_map] at h1
    rw [show (hs_.all fun p => decide (p ∈ ws)) = true from h1, Bool.true_and] at q
    walk_at "nc hh"
    refine lc_each (l := ws) (enc := sqD) (g := fun p => .bl (barS ps p)) rfl (few (by omega)) (fun a ha => ⟨_, by unfold bindT; rfl, fun Q' q' => ?_⟩) ?_
    · walk_at "nc hh"
      exact ⟨_, a, ps, rfl, .inr rfl, q'⟩
    walk_at "nc hh"
    refine ⟨_, all_any _ _, ?_⟩
    walk_at "nc hh"
    rw [List.any_map]
    exact q
theorem run_fits {K : PySem.W.Frag} {cs : Cs} (kf : KF K cs) (xs : List D) (S : Store) (Q : QD) (E : XD) (h : r_fits cs xs S Q E) : runX 2 (b_fits K cs) xs S Q E := by
  obtain ⟨x, w, rfl, h⟩ := h
  refine i_runX ?_
  unfold b_fits
  walk_at "nc hs"
  refine ⟨_, _, rfl, by decide, h.to fun b e ok go => ?_⟩
  subst e
  obtain ⟨e, l, n1, n2, q⟩ := go
  walk_at "nc hs"
  refine fld_h kf ?_
  walk_at "nc hs"
  refine fld_p kf ?_
  walk_at "nc hs"
  refine ⟨w, e, _, rfl, by decide, l, n1, n2, fun a lf qs pm sr => ?_⟩
  obtain ⟨f, u⟩ := lotG_is l a
  have g := pm.length_eq
  walk_at "nc hs"
  refine ⟨b.h, b.p, qs, rfl, ok.hl, ok.pl, by omega, ok.pn, pm.nodup_iff.mpr u, ?_⟩
  have e1 : fitS b.h b.p qs = fitS b.h b.p (sqsOf e) := by
    unfold fitS
    rw [show (fun p => decide (p ∈ qs)) = fun p => decide (p ∈ sqsOf e) from funext fun p => by rw [decide_eq_decide]; exact pm.mem_iff, pm.any_eq]
  rw [e1]
  exact q a lf
theorem run_Board_is_passed {K : PySem.W.Frag} {cs : Cs} (kf : KF K cs) (xs : List D) (S : Store) (Q : QD) (E : XD) (h : r_Board_is_passed cs xs S Q E) : runX 2 (b_Board_is_passed K cs) xs S Q E := by
  obtain ⟨b, x, rfl, hf, n, q⟩ := h
  refine i_runX ?_
  unfold b_Board_is_passed
  walk_at "nc hs"
  refine fld_p kf ?_
  walk_at "nc hs"
  refine ⟨x, _, rfl, by decide, hf, n, fun hs => ?_⟩
  walk_at "nc hs"
  exact ⟨_, _, _, rfl, .inl rfl, q hs⟩
theorem eqd_bd (b c : Bd) : eqd (.tup [.tup (b.h.map sqD), .tup (b.p.map sqD), .tup (b.f.map sqD)]) (.tup [.tup (c.h.map sqD), .tup (c.p.map sqD), .tup (c.f.map sqD)]) = bdEq b c := by
  unfold bdEq
  rw [← eqd_sqs, ← eqd_sqs, ← eqd_sqs]
  simp [eqd, pd, pds, PyData.eqv, PyData.eqvAll]
theorem run_Board_eq {K : PySem.W.Frag} {cs : Cs} (kf : KF K cs) (xs : List D) (S : Store) (Q : QD) (h : r_Board_eq cs xs S Q) : runD 2 (b_Board_eq K cs) xs S Q := by
  obtain ⟨b, y, rfl, h⟩ := h
  refine i_runD ?_
  unfold b_Board_eq
  have fl3 : ∀ b : Bd, fl 60 (.tup [.tup (b.h.map sqD), .tup (b.p.map sqD), .tup (b.f.map sqD)]) = true := fun b => fls_all.mpr fun d hd => by
    simp only [List.mem_cons, List.not_mem_nil, or_false] at hd
    rcases hd with rfl | rfl | rfl <;> exact fl_sqT 57 _
  rcases h with ⟨c, rfl, q⟩ | ⟨t, ht, q⟩
  · walk_at "nc hs"
    refine isb_yes kf ?_
    walk_at "nc hs"
    refine fld_h kf ?_
    walk_at "nc hs"
    refine fld_p kf ?_
    walk_at "nc hs"
    refine fld_f kf ?_
    walk_at "nc hs"
    refine fld_h kf ?_
    walk_at "nc hs"
    refine fld_p kf ?_
    walk_at "nc hs"
    refine fld_f kf ?_
    walk_at "nc hs"
    refine eq_dat (fl3 b) (fl3 c) ?_
    have e := eqd_bd b c
    show Q (.bl (eqd (.tup [.tup (b.h.map sqD), .tup (b.p.map sqD), .tup (b.f.map sqD)]) (.tup [.tup (c.h.map sqD), .tup (c.p.map sqD), .tup (c.f.map sqD)]))) S
    rw [e]
    exact q
  · walk_at "nc hs"
    refine isb_no kf ht ?_
    walk_at "nc hs"
    exact q
end NC
set_option Elab.async false
set_option linter.all false
set_option maxRecDepth 100000
set_option maxHeartbeats 4000000
namespace NC
open PySem PySem.Spec PyProof.Rows L2
local macro_rules | `(tactic| walk_at "nc hh") => `(tactic| repeat (first | (with_reducible first | refine nes_same ?_ | refine eqs_same ?_ | refine iteT ?_ | refine iteF ?_ | refine iteNT ?_ | refine iteNF ?_) | (with_reducible first | refine i_sIf ?_ | refine i_sNil ?_ | refine i_sRet ?_ | refine i_sAsg ?_ | refine i_sDrop ?_ | refine i_sPut ?_ | refine i_sPar ?_ | refine i_eC ?_ | refine i_eOp ?_ | refine i_eChain ?_ | refine i_eB ?_ | refine i_eUn ?_ | refine i_eTup ?_ | refine i_eLst ?_ | refine i_eLstM ?_ | refine i_eAnd ?_ | refine i_eOr ?_ | refine i_eNot ?_ | refine i_eIf ?_ | refine i_bOf ?_ | refine i_bAnd ?_ | refine i_bOr ?_ | refine i_bNot ?_ | refine i_bYes ?_ | refine i_aNil ?_ | refine i_aCons ?_ | refine i_eCall ?_ | refine i_eCallKw ?_ | refine i_eCut ?_ | refine i_oNone ?_ | refine i_oSome ?_ | refine i_eM ?_ | refine i_sSq ?_ | refine i_sRange1 ?_ | refine i_sRange2 ?_ | refine i_sEnum ?_ | refine i_eIsi ?_ | refine i_eIsi2 ?_ | refine i_eLc ?_ | refine i_eLcM ?_ | refine i_sFor ?_ | refine i_eDisp1 ?_ | refine i_bl ?_ | refine i_int ?_ | refine i_nm ?_ | refine i_one ?_ | refine i_two ?_ | refine i_rng ?_ | refine i_len0 ?_ | refine i_int1 ?_ | refine i_intb ?_ | refine i_abs ?_ | refine i_add ?_ | refine i_sub ?_ | refine i_lt ?_ | refine i_le ?_ | refine i_gt ?_ | refine i_ge ?_ | refine i_eqi ?_ | refine i_is ?_ | refine i_isn ?_ | refine i_nes ?_ | refine i_rbl ?_ | refine i_eCallX ?_ | refine i_eCallKwX ?_ | refine i_sRaiseF ?_ | refine i_eIsX ?_ | refine i_eFld ?_ | refine i_eDit1 ?_ | refine i_sTry ?_ | refine i_runX ?_ | refine i_ltU ?_ | refine i_isU ?_ | refine i_isnU ?_ | refine i_isS ?_ | refine i_isnS ?_ | refine i_isB ?_ | refine i_isnB ?_ | refine i_neg ?_ | refine i_eDcT ?_ | refine i_sPar3 ?_ | refine i_three ?_ | refine i_eFldU ?_ | refine i_eIsU ?_ | refine i_eFrzO ?_ | refine i_eMake ?_ | refine i_sFldP ?_ | refine i_eMeth ?_ | refine i_sWhile ?_ | refine i_aStar ?_ | refine i_eFn ?_ | refine i_sAsgL ?_ | refine i_sCont ?_ | refine i_sBrk ?_ | refine i_eDnT ?_ | refine i_eDnK ?_ | refine i_eDit1M ?_ | refine i_sDPutU ?_ | refine i_eListR2 ?_ | refine i_bool1 ?_ | refine i_eCName ?_ | refine i_sFlds ?_ | refine i_bTruL ?_ | refine i_eCutU ?_ | refine i_sStr ?_ | refine i_eJoined ?_ | refine i_dJs ?_ | refine i_dJn ?_ | refine i_eMakeX ?_ | refine i_eMethX ?_ | refine i_eFmt ?_ | refine i_eLc2 ?_ | refine i_sRng ?_ | refine i_sTryS ?_) | ((with_reducible refine i_eVarX ?_); refine ⟨_, rfl, ?_⟩) | ((with_reducible refine i_len1 ?_ ?_); · exact Nat.le_of_ble_eq_true rfl) | ((with_reducible first | refine i_ix0 ?_ | refine i_ix1 ?_ | refine i_ix2 ?_ | refine i_ix3 ?_); refine ⟨_, _, rfl, rfl, ?_⟩) | ((with_reducible refine i_tp ?_); refine ⟨_, by unfold bindT; rfl, ?_⟩) | ((with_reducible first | refine i_len ?_ | refine i_list ?_ | refine i_listU ?_ | refine i_tuple ?_ | refine i_sqE ?_); refine ⟨_, rfl, ?_⟩) | ((with_reducible refine i_modL ?_ ?_); · decide) | (with_reducible refine i_eqs ?_) | (with_reducible first | refine cl_power (by assumption) ?_ | refine cl_height (by assumption) ?_ | refine cl_origins (by assumption) ?_ | refine cl_lasted (by assumption) ?_ | refine cl_square (by assumption) ?_ | refine cl_turn (by assumption) ?_ | refine is_cl (by assumption) ?_ | refine st_wide (by assumption) ?_ | refine st_power (by assumption) ?_ | refine st_far (by assumption) ?_) | ((with_reducible refine i_kw ?_); refine ⟨rfl, rfl, ?_⟩)))
local macro_rules | `(tactic| walk_at "nc hs") => `(tactic| repeat (first | (with_reducible first | refine nes_same ?_ | refine eqs_same ?_ | refine iteT ?_ | refine iteF ?_ | refine iteNT ?_ | refine iteNF ?_) | (with_reducible first | refine i_sSeq ?_ | refine i_sIf ?_ | refine i_sNil ?_ | refine i_sRet ?_ | refine i_sAsg ?_ | refine i_sDrop ?_ | refine i_sPut ?_ | refine i_sPar ?_ | refine i_eC ?_ | refine i_eOp ?_ | refine i_eChain ?_ | refine i_eB ?_ | refine i_eUn ?_ | refine i_eTup ?_ | refine i_eLst ?_ | refine i_eLstM ?_ | refine i_eAnd ?_ | refine i_eOr ?_ | refine i_eNot ?_ | refine i_eIf ?_ | refine i_bOf ?_ | refine i_bAnd ?_ | refine i_bOr ?_ | refine i_bNot ?_ | refine i_bYes ?_ | refine i_aNil ?_ | refine i_aCons ?_ | refine i_eCall ?_ | refine i_eCallKw ?_ | refine i_eCut ?_ | refine i_oNone ?_ | refine i_oSome ?_ | refine i_eM ?_ | refine i_sSq ?_ | refine i_sRange1 ?_ | refine i_sRange2 ?_ | refine i_sEnum ?_ | refine i_eIsi ?_ | refine i_eIsi2 ?_ | refine i_eLc ?_ | refine i_eLcM ?_ | refine i_sFor ?_ | refine i_eDisp1 ?_ | refine i_bl ?_ | refine i_int ?_ | refine i_nm ?_ | refine i_one ?_ | refine i_two ?_ | refine i_rng ?_ | refine i_len0 ?_ | refine i_int1 ?_ | refine i_intb ?_ | refine i_abs ?_ | refine i_add ?_ | refine i_sub ?_ | refine i_lt ?_ | refine i_le ?_ | refine i_gt ?_ | refine i_ge ?_ | refine i_eqi ?_ | refine i_is ?_ | refine i_isn ?_ | refine i_nes ?_ | refine i_rbl ?_ | refine i_eCallX ?_ | refine i_eCallKwX ?_ | refine i_sRaiseF ?_ | refine i_eIsX ?_ | refine i_eFld ?_ | refine i_eDit1 ?_ | refine i_sTry ?_ | refine i_runX ?_ | refine i_ltU ?_ | refine i_isU ?_ | refine i_isnU ?_ | refine i_isS ?_ | refine i_isnS ?_ | refine i_isB ?_ | refine i_isnB ?_ | refine i_neg ?_ | refine i_eDcT ?_ | refine i_sPar3 ?_ | refine i_three ?_ | refine i_eFldU ?_ | refine i_eIsU ?_ | refine i_eFrzO ?_ | refine i_eMake ?_ | refine i_sFldP ?_ | refine i_eMeth ?_ | refine i_sWhile ?_ | refine i_aStar ?_ | refine i_eFn ?_ | refine i_sAsgL ?_ | refine i_sCont ?_ | refine i_sBrk ?_ | refine i_eDnT ?_ | refine i_eDnK ?_ | refine i_eDit1M ?_ | refine i_sDPutU ?_ | refine i_eListR2 ?_ | refine i_bool1 ?_ | refine i_eCName ?_ | refine i_sFlds ?_ | refine i_bTruL ?_ | refine i_eCutU ?_ | refine i_sStr ?_ | refine i_eJoined ?_ | refine i_dJs ?_ | refine i_dJn ?_ | refine i_eMakeX ?_ | refine i_eMethX ?_ | refine i_eFmt ?_ | refine i_eLc2 ?_ | refine i_sRng ?_ | refine i_sTryS ?_) | ((with_reducible refine i_eVarX ?_); refine ⟨_, rfl, ?_⟩) | ((with_reducible refine i_len1 ?_ ?_); · exact Nat.le_of_ble_eq_true rfl) | ((with_reducible first | refine i_ix0 ?_ | refine i_ix1 ?_ | refine i_ix2 ?_ | refine i_ix3 ?_); refine ⟨_, _, rfl, rfl, ?_⟩) | ((with_reducible refine i_tp ?_); refine ⟨_, by unfold bindT; rfl, ?_⟩) | ((with_reducible first | refine i_len ?_ | refine i_list ?_ | refine i_listU ?_ | refine i_tuple ?_ | refine i_sqE ?_); refine ⟨_, rfl, ?_⟩) | ((with_reducible refine i_modL ?_ ?_); · decide) | (with_reducible refine i_eqs ?_) | (with_reducible first | refine cl_power (by assumption) ?_ | refine cl_height (by assumption) ?_ | refine cl_origins (by assumption) ?_ | refine cl_lasted (by assumption) ?_ | refine cl_square (by assumption) ?_ | refine cl_turn (by assumption) ?_ | refine is_cl (by assumption) ?_ | refine st_wide (by assumption) ?_ | refine st_power (by assumption) ?_ | refine st_far (by assumption) ?_) | ((with_reducible refine i_kw ?_); refine ⟨rfl, rfl, ?_⟩)))
theorem barS_perm {ps qs : List Sq} (h : ps.Perm qs) (p : Sq) : barS ps p = barS qs p := by
  unfold barS
  rw [show decide (p ∈ ps) = decide (p ∈ qs) by rw [decide_eq_decide]; exact h.mem_iff]
theorem misB_perm {hs ps hs' ps' : List Sq} (h : hs.Perm hs') (h' : ps.Perm ps') : misB hs ps = misB hs' ps' := by
  unfold misB
  rw [show (fun p : Sq => decide (p.1 < 0) || barS ps p) = fun p => decide (p.1 < 0) || barS ps' p from funext fun p => by rw [barS_perm h']]
  exact h.any_eq
theorem run_Board_init {K : PySem.W.Frag} {cs : Cs} (kf : KF K cs) (xs : List D) (S : Store) (Q : QD) (E : XD) (h : r_Board_init cs xs S Q E) : runX 9 (b_Board_init K cs) xs S Q E := by
  obtain ⟨n, x1, x2, x3, e1, e2, e3, rfl, hn, l1, l2, l3, n1, n2, n3, q⟩ := h
  refine i_runX ?_
  unfold b_Board_init
  refine cut (fun ρ' S' => ∃ hs ps fs : List Sq, areSq e1 = true ∧ areSq e2 = true ∧ areSq e3 = true ∧ hs.Perm (sqsOf e1) ∧ Srt hs ∧ ps.Perm (sqsOf e2) ∧ Srt ps ∧ fs.Perm (sqsOf e3) ∧ Srt fs ∧ S' = S ∧
    ρ' = [some (.ref n), some x1, some x2, some x3, some (.tup (hs.map sqD)), some (.tup (ps.map sqD)), some (.tup (fs.map sqD)), none, none]) (fun N' hrt hnx => ?_) (fun ρ' S' hP => ?_)
  · walk_at "nc hh"
    refine ⟨x1, e1, _, rfl, by decide, l1, n1, fun a1 hs p1 s1 => ?_⟩
    walk_at "nc hh"
    refine ⟨x2, e2, _, rfl, by decide, l2, n2 a1, fun a2 ps p2 s2 => ?_⟩
    walk_at "nc hh"
    refine ⟨x3, e3, _, rfl, by decide, l3, n3 a1 a2, fun a3 fs p3 s3 => ?_⟩
    walk_at "nc hh"
    exact hnx _ _ ⟨hs, ps, fs, a1, a2, a3, p1, s1, p2, s2, p3, s3, rfl, rfl⟩
  obtain ⟨hs, ps, fs, a1, a2, a3, p1, s1, p2, s2, p3, s3, rfl, rfl⟩ := hP
  obtain ⟨f1, u1⟩ := lotG_is l1 a1
  obtain ⟨f2, u2⟩ := lotG_is l2 a2
  have g1 := p1.length_eq
  have g2 := p2.length_eq
  have q := q a1 a2 a3
  rw [← misB_perm p1 p2] at q
  walk_at "nc hs"
  refine dc_sq (p2.nodup_iff.mpr u2) (few (by omega)) (by simp) rfl ?_
  walk_at "nc hs"
  refine lc_each (l := hs) (enc := sqD) (g := fun p => .bl (decide (p.1 < 0) || barS ps p)) rfl (few (by omega)) (fun a ha => ⟨_, by unfold bindT; rfl, fun Q' q' => ?_⟩) ?_
  · walk_at "nc hh"
    cases h1 : decide (a.1 < 0) with
    | true =>
      rw [h1] at q'
      walk_at "nc hh"
      exact q'
    | false =>
      rw [h1, Bool.false_or] at q'
      walk_at "nc hh"
      exact ⟨_, a, ps, rfl, .inr rfl, q'⟩
  walk_at "nc hh"
  refine ⟨_, all_any _ _, ?_⟩
  walk_at "nc hh"
  rw [List.any_map]
  refine ite_by (fun h1 => ?_) (fun h1 => ?_)
  · have h1 : misB hs ps = true := h1
    walk_at "nc hh"
    exact ⟨okD_part (by decide), q.1 h1⟩
  · have h1 : misB hs ps = false := h1
    have q := q.2 h1 ⟨hs, ps, fs⟩ p1 s1 p2 s2 p3 s3
    walk_at "nc hs"
    refine ⟨n, _, _, rfl, hn, kf.c_Board.cl, kf.o_Board_held, by simp, ?_⟩
    have h1 := set_get (b := some (.ins cs.Board [("held", .tup (hs.map sqD))])) hn
    walk_at "nc hs"
    refine ⟨n, _, _, rfl, h1, kf.c_Board.cl, kf.o_Board_passed, by simp, ?_⟩
    rw [List.set_set]
    have h2 := set_get (b := some (.ins cs.Board [("held", .tup (hs.map sqD)), ("passed", .tup (ps.map sqD))])) hn
    walk_at "nc hs"
    refine ⟨n, _, _, rfl, h2, kf.c_Board.cl, kf.o_Board_burnt, by simp, ?_⟩
    rw [List.set_set]
    exact q
end NC
set_option Elab.async false
set_option linter.all false
set_option maxRecDepth 100000
set_option maxHeartbeats 4000000
namespace NC
open PySem PySem.Spec PyProof.Rows L2
local macro_rules | `(tactic| walk_at "nc hh") => `(tactic| repeat (first | (with_reducible first | refine nes_same ?_ | refine eqs_same ?_ | refine iteT ?_ | refine iteF ?_ | refine iteNT ?_ | refine iteNF ?_) | (with_reducible first | refine i_sIf ?_ | refine i_sNil ?_ | refine i_sRet ?_ | refine i_sAsg ?_ | refine i_sDrop ?_ | refine i_sPut ?_ | refine i_sPar ?_ | refine i_eC ?_ | refine i_eOp ?_ | refine i_eChain ?_ | refine i_eB ?_ | refine i_eUn ?_ | refine i_eTup ?_ | refine i_eLst ?_ | refine i_eLstM ?_ | refine i_eAnd ?_ | refine i_eOr ?_ | refine i_eNot ?_ | refine i_eIf ?_ | refine i_bOf ?_ | refine i_bAnd ?_ | refine i_bOr ?_ | refine i_bNot ?_ | refine i_bYes ?_ | refine i_aNil ?_ | refine i_aCons ?_ | refine i_eCall ?_ | refine i_eCallKw ?_ | refine i_eCut ?_ | refine i_oNone ?_ | refine i_oSome ?_ | refine i_eM ?_ | refine i_sSq ?_ | refine i_sRange1 ?_ | refine i_sRange2 ?_ | refine i_sEnum ?_ | refine i_eIsi ?_ | refine i_eIsi2 ?_ | refine i_eLc ?_ | refine i_eLcM ?_ | refine i_sFor ?_ | refine i_eDisp1 ?_ | refine i_bl ?_ | refine i_int ?_ | refine i_nm ?_ | refine i_one ?_ | refine i_two ?_ | refine i_rng ?_ | refine i_len0 ?_ | refine i_int1 ?_ | refine i_intb ?_ | refine i_abs ?_ | refine i_add ?_ | refine i_sub ?_ | refine i_lt ?_ | refine i_le ?_ | refine i_gt ?_ | refine i_ge ?_ | refine i_eqi ?_ | refine i_is ?_ | refine i_isn ?_ | refine i_nes ?_ | refine i_rbl ?_ | refine i_eCallX ?_ | refine i_eCallKwX ?_ | refine i_sRaiseF ?_ | refine i_eIsX ?_ | refine i_eFld ?_ | refine i_eDit1 ?_ | refine i_sTry ?_ | refine i_runX ?_ | refine i_ltU ?_ | refine i_isU ?_ | refine i_isnU ?_ | refine i_isS ?_ | refine i_isnS ?_ | refine i_isB ?_ | refine i_isnB ?_ | refine i_neg ?_ | refine i_eDcT ?_ | refine i_sPar3 ?_ | refine i_three ?_ | refine i_eFldU ?_ | refine i_eIsU ?_ | refine i_eFrzO ?_ | refine i_eMake ?_ | refine i_sFldP ?_ | refine i_eMeth ?_ | refine i_sWhile ?_ | refine i_aStar ?_ | refine i_eFn ?_ | refine i_sAsgL ?_ | refine i_sCont ?_ | refine i_sBrk ?_ | refine i_eDnT ?_ | refine i_eDnK ?_ | refine i_eDit1M ?_ | refine i_sDPutU ?_ | refine i_eListR2 ?_ | refine i_bool1 ?_ | refine i_eCName ?_ | refine i_sFlds ?_ | refine i_bTruL ?_ | refine i_eCutU ?_ | refine i_sStr ?_ | refine i_eJoined ?_ | refine i_dJs ?_ | refine i_dJn ?_ | refine i_eMakeX ?_ | refine i_eMethX ?_ | refine i_eFmt ?_ | refine i_eLc2 ?_ | refine i_sRng ?_ | refine i_sTryS ?_) | ((with_reducible refine i_eVarX ?_); refine ⟨_, rfl, ?_⟩) | ((with_reducible refine i_len1 ?_ ?_); · exact Nat.le_of_ble_eq_true rfl) | ((with_reducible first | refine i_ix0 ?_ | refine i_ix1 ?_ | refine i_ix2 ?_ | refine i_ix3 ?_); refine ⟨_, _, rfl, rfl, ?_⟩) | ((with_reducible refine i_tp ?_); refine ⟨_, by unfold bindT; rfl, ?_⟩) | ((with_reducible first | refine i_len ?_ | refine i_list ?_ | refine i_listU ?_ | refine i_tuple ?_ | refine i_sqE ?_); refine ⟨_, rfl, ?_⟩) | ((with_reducible refine i_modL ?_ ?_); · decide) | (with_reducible refine i_eqs ?_) | (with_reducible first | refine cl_power (by assumption) ?_ | refine cl_height (by assumption) ?_ | refine cl_origins (by assumption) ?_ | refine cl_lasted (by assumption) ?_ | refine cl_square (by assumption) ?_ | refine cl_turn (by assumption) ?_ | refine is_cl (by assumption) ?_ | refine st_wide (by assumption) ?_ | refine st_power (by assumption) ?_ | refine st_far (by assumption) ?_) | ((with_reducible refine i_kw ?_); refine ⟨rfl, rfl, ?_⟩)))
def NearP (w : Int) (p : Sq) : Prop := w ≤ p.1 ∧ p.1 ≤ 4 ∧ -2 ≤ p.2 ∧ p.2 ≤ 17
structure Drn (hs ps fs : List Sq) : Prop where
  hn : hs.Nodup
  pn : ps.Nodup
  fn : fs.Nodup
  hl : hs.length ≤ 2
  pl : ps.length ≤ 3
  fl : fs.length ≤ 8
  hb : ∀ p ∈ hs, NearP 0 p ∧ barS ps p = false
  pb : ∀ p ∈ ps, NearP 0 p
  fb : ∀ p ∈ fs, NearP (-3) p
  fe : fs ≠ []
def r_law_board : RDs := fun xs S Q => ∃ (k : Nat) (o : SO) (T : Store) (tall many : Int), xs = [.ref 0, .int 4, .int tall, .int many] ∧ S = some o :: T ∧ Urn k o ∧ k < 700000 ∧ 1 ≤ tall ∧ tall ≤ 6 ∧ 1 ≤ many ∧ many ≤ 7 ∧
  ∀ (o' : SO) (T' : Store) (hs ps fs : List Sq), Urn (k + 40) o' → Grow T T' → Drn hs ps fs → Q (.tup [.lst (hs.map sqD), .lst (ps.map sqD), .lst (fs.map sqD)]) (some o' :: T')
def b_law_board : TSd := (sSeq (sAsg (.tp [(.nm 4), (.nm 5), (.nm 6), (.nm 7)]) (eTup (aCons (eCall r_law_pick (aCons (eVar 0) (aCons (eLst (aCons (eC (.int 1)) (aCons (eC (.int 1)) (aCons (eC (.int 3)) (aCons (eUn rNeg (eC (.int 2))) (aCons (eC (.int 0)) (aCons (eC (.int 12)) aNil))))))) aNil))) (aCons (eLstM aNil) (aCons (eLstM aNil) (aCons (eLstM aNil) aNil))))))
    (sSeq (sFor (sRange1 (aCons (eOp rAdd (eC (.int 1)) (eCall r_law_draw (aCons (eVar 0) (aCons (eVar 3) aNil)))) aNil)) (.nm 8)
    (sSeq (sAsg (.nm 9) (eTup (aCons (eCall r_law_draw (aCons (eVar 0) (aCons (eVar 1) aNil))) (aCons (eOp rAdd (eVar 4) (eCall r_law_draw (aCons (eVar 0) (aCons (eVar 2) aNil)))) aNil))))
    (sDrop (eM "list" rExtU (eVar 7) (aCons (eIf (bOf (eOp rNiU (eVar 9) (eVar 7))) (eLst (aCons (eVar 9) aNil)) (eLst aNil)) aNil)))))
    (sSeq (sFor (sRange1 (aCons (eCall r_law_pick (aCons (eVar 0) (aCons (eLst (aCons (eC (.int 0)) (aCons (eC (.int 1)) (aCons (eC (.int 3)) (aCons (eC (.int 0)) aNil))))) aNil))) aNil)) (.nm 8)
    (sSeq (sAsg (.nm 9) (eTup (aCons (eCall r_law_draw (aCons (eVar 0) (aCons (eOp rAdd (eVar 1) (eC (.int 1))) aNil))) (aCons (eOp rAdd (eVar 4) (eCall r_law_draw (aCons (eVar 0) (aCons (eVar 2) aNil)))) aNil))))
    (sDrop (eM "list" rExtU (eVar 6) (aCons (eIf (bOf (eOp rNiU (eVar 9) (eVar 6))) (eLst (aCons (eVar 9) aNil)) (eLst aNil)) aNil)))))
    (sSeq (sFor (sRange1 (aCons (eCall r_law_pick (aCons (eVar 0) (aCons (eLst (aCons (eC (.int 0)) (aCons (eC (.int 0)) (aCons (eC (.int 1)) (aCons (eC (.int 2)) aNil))))) aNil))) aNil)) (.nm 8)
    (sSeq (sAsg (.nm 9) (eTup (aCons (eCall r_law_draw (aCons (eVar 0) (aCons (eVar 1) aNil))) (aCons (eOp rAdd (eVar 4) (eCall r_law_draw (aCons (eVar 0) (aCons (eVar 2) aNil)))) aNil))))
    (sDrop (eM "list" rExtU (eVar 5) (aCons (eIf (bAnd (bOf (eOp rNiU (eVar 9) (eVar 5))) (bNot (bOf (eCall r_law_barred (aCons (eVar 6) (aCons (eVar 9) aNil)))))) (eLst (aCons (eVar 9) aNil)) (eLst aNil)) aNil)))))
    (sSeq (sDrop (eM "list" rExtU (eVar 7) (aCons (eIf (bOf (eOp rEq3 (eCall r_law_draw (aCons (eVar 0) (aCons (eC (.int 4)) aNil))) (eC (.int 0)))) (eLst (aCons (eTup (aCons (eOp rSub (eUn rNeg (eC (.int 1))) (eCall r_law_draw (aCons (eVar 0) (aCons (eC (.int 3)) aNil)))) (aCons (eVar 4) aNil))) aNil)) (eLst aNil)) aNil)))
    (sRet (eTup (aCons (eFrz (eVar 5)) (aCons (eFrz (eVar 6)) (aCons (eFrz (eVar 7)) aNil))))))))))
theorem len_law_board (xs : List D) (S : Store) (Q : QD) (h : r_law_board xs S Q) : xs.length = 4 := by obtain ⟨_, _, _, _, _, rfl, _⟩ := h; rfl
theorem thr {o : SO} {T L : Store} {i : Nat} : (some o :: (T ++ L))[T.length + 1 + i]? = L[i]? := by
  rw [show T.length + 1 + i = (T.length + i) + 1 by omega, List.getElem?_cons_succ, List.getElem?_append_right (by omega)]
  congr 1
  omega
theorem thrs {o : SO} {T L : Store} {i : Nat} {x : Option SO} : (some o :: (T ++ L)).set (T.length + 1 + i) x = some o :: (T ++ L.set i x) := by
  rw [show T.length + 1 + i = (T.length + i) + 1 by omega, List.set_cons_succ, List.set_append_right _ _ (by omega)]
  congr 3
  omega
theorem i_mext {x : D} {xs : List D} {S : Store} {Q : QD} (h : ∃ n ys zs, x = .ref n ∧ S[n]? = some (some (.lst ys)) ∧ xs = [.lst zs] ∧ ys.length + zs.length ≤ 1000 ∧ Q .non (S.set n (some (.lst (ys ++ zs))))) : rExtU x xs S Q := by
  obtain ⟨n, ys, zs, rfl, h1, rfl, h2, q⟩ := h
  exact ⟨n, ys, _, zs, rfl, rfl, h1, .inl rfl, small h2, q⟩
theorem add_one {ps : List Sq} {r : Sq} {P : Sq → Prop} {n : Nat} (h : ps.Nodup ∧ ps.length ≤ n ∧ ∀ p ∈ ps, P p) (hr : P r) (hn : r ∉ ps) : (ps ++ [r]).Nodup ∧ (ps ++ [r]).length ≤ n + 1 ∧ ∀ p ∈ ps ++ [r], P p := by
  refine ⟨List.nodup_append.mpr ⟨h.1, by simp, fun p hp q hq e => ?_⟩, by simp; exact h.2.1, fun p hp => ?_⟩
  · rw [List.mem_singleton.mp hq] at e
    exact hn (e ▸ hp)
  · rcases List.mem_append.mp hp with hp | hp
    · exact h.2.2 p hp
    · rw [List.mem_singleton.mp hp]; exact hr
def Some_ (n : Nat) (P : Sq → Prop) (ps : List Sq) : Prop := ps.Nodup ∧ ps.length ≤ n ∧ ∀ p ∈ ps, P p
theorem run_law_board (xs : List D) (S : Store) (Q : QD) (h : r_law_board xs S Q) : runD 10 b_law_board xs S Q := by
  obtain ⟨k, o, T, tall, many, rfl, rfl, u, hk, t0, t1, m0, m1, q⟩ := h
  refine i_runD ?_
  unfold b_law_board
  refine cut (fun ρ' S' => ∃ (o : SO) (low : Int), Urn (k + 1) o ∧ -2 ≤ low ∧ low ≤ 12 ∧ S' = some o :: (T ++ [some (.lst []), some (.lst []), some (.lst [])]) ∧
    ρ' = [some (.ref 0), some (.int 4), some (.int tall), some (.int many), some (.int low), some (.ref (T.length + 1 + 0)), some (.ref (T.length + 1 + 1)), some (.ref (T.length + 1 + 2)), none, none]) (fun N' hrt hnx => ?_) (fun ρ' S' hP => ?_)
  · walk_at "nc hh"
    refine ⟨_, o, T, _, [.int 1, .int 1, .int 3, .int (-2), .int 0, .int 12], rfl, rfl, u, by omega, fun _ => rfl, by decide, by decide, fun o1 e u1 he => ?_⟩
    have he : ∃ x : Int, e = .int x ∧ -2 ≤ x ∧ x ≤ 12 := by
      simp only [List.mem_cons, List.not_mem_nil, or_false] at he
      rcases he with rfl | rfl | rfl | rfl | rfl | rfl <;> exact ⟨_, rfl, by decide, by decide⟩
    obtain ⟨x, rfl, x0, x1⟩ := he
    walk_at "nc hh"
    refine hnx _ _ ⟨o1, x, u1, x0, x1, by simp, ?_⟩
    simp [startD]
  clear u
  obtain ⟨o, low, u, l0, l1, rfl, rfl⟩ := hP
  refine cut (fun ρ' S' => ∃ (o : SO) (ls : List Sq) (x8 x9 : Option D), Urn (k + 16) o ∧ Some_ 7 (NearP 0) ls ∧ ls ≠ [] ∧ S' = some o :: (T ++ [some (.lst []), some (.lst []), some (.lst (ls.map sqD))]) ∧ ρ' = [some (.ref 0), some (.int 4), some (.int tall), some (.int many), some (.int low), some (.ref (T.length + 1 + 0)), some (.ref (T.length + 1 + 1)), some (.ref (T.length + 1 + 2)), x8, x9]) (fun N' hrt hnx => ?_) (fun ρ' S' hP => ?_)
  · walk_at "nc hh"
    refine draw_of u (by omega) (by omega) (by omega) fun o1 n u1 n0 n1 => ?_
    walk_at "nc hh"
    refine ⟨by omega, by omega, fun i ρ' S' => ∃ (o : SO) (ls : List Sq) (x8 x9 : Option D), Urn (k + 2 + 2 * i) o ∧ Some_ i (NearP 0) ls ∧ (0 < i → ls ≠ []) ∧ S' = some o :: (T ++ [some (.lst []), some (.lst []), some (.lst (ls.map sqD))]) ∧ ρ' = [some (.ref 0), some (.int 4), some (.int tall), some (.int many), some (.int low), some (.ref (T.length + 1 + 0)), some (.ref (T.length + 1 + 1)), some (.ref (T.length + 1 + 2)), x8, x9],
      ⟨o1, [], _, _, u1, ⟨.nil, Nat.le_refl _, fun p h => (nomatch h)⟩, fun h => absurd h (by decide), rfl, rfl⟩, fun _ _ _ _ => trivial, ?_, ?_⟩
    · rintro i e ρ' S' he ⟨o2, ls, x8, x9, u2, hl2, ne2, rfl, rfl⟩
      obtain ⟨rfl, hi⟩ := range_at he
      have hi : i < 7 := by omega
      refine ⟨_, by unfold bindT; rfl, ?_⟩
      refine cut1 9 (fun d S' => ∃ (o : SO) (r : Sq), Urn (k + 2 + 2 * (i + 1)) o ∧ NearP 0 r ∧ d = sqD r ∧ S' = some o :: (T ++ [some (.lst []), some (.lst []), some (.lst (ls.map sqD))])) (fun N2 hrt2 hnx2 => ?_) (fun d S' hP => ?_)
      · walk_at "nc hh"
        refine draw_of u2 (by omega) (by decide) (by decide) fun o3 a u3 a0 a1 => ?_
        walk_at "nc hh"
        refine draw_of u3 (by omega) (by omega) (by omega) fun o4 c u4 c0 c1 => ?_
        walk_at "nc hh"
        exact hnx2 _ _ ⟨o4, (a, low + c), u4.mono (by omega), ⟨a0, by omega, by omega, by omega⟩, rfl, rfl⟩
      obtain ⟨o4, r, u4, br, rfl, rfl⟩ := hP
      have nd := hl2.1
      have ll := hl2.2.1
      walk_at "nc hh"
      refine ⟨by rw [drf_ref (thr (i := 2))]; trivial, ?_⟩
      walk_at "nc hh"
      refine niU_sq (p := r) (ps := ls) (by rw [drf_ref (thr (i := 2))]; rfl) ?_
      walk_at "nc hh"
      refine ite_by (fun h => ?_) (fun h => ?_)
      · have hni : r ∉ ls := by simpa using h
        walk_at "nc hh"
        refine i_mext ⟨_, ls.map sqD, [sqD r], rfl, thr (i := 2), rfl, by simp; omega, ?_⟩
        rw [thrs]
        refine ⟨o4, ls ++ [r], _, _, u4, add_one hl2 br hni, fun _ => by simp, by rw [List.map_append]; rfl, rfl⟩
      · have hin : r ∈ ls := by simpa using h
        walk_at "nc hh"
        refine i_mext ⟨_, ls.map sqD, [], rfl, thr (i := 2), rfl, by simp; omega, ?_⟩
        rw [thrs]
        exact ⟨o4, ls, _, _, u4, ⟨hl2.1, by omega, hl2.2.2⟩, fun _ => List.ne_nil_of_mem hin, by rw [List.append_nil]; rfl, rfl⟩
    · rintro ρ' S' ⟨o2, ls, x8, x9, u2, hl2, ne3, rfl, rfl⟩
      rw [rangeD_len] at u2 hl2 ne3
      exact hnx _ _ ⟨o2, ls, _, _, u2.mono (by omega), ⟨hl2.1, Nat.le_trans hl2.2.1 (by omega), hl2.2.2⟩, ne3 (by omega), rfl, rfl⟩
  clear u
  obtain ⟨o, fs, x8, x9, u, hfs, fne, rfl, rfl⟩ := hP
  refine cut (fun ρ' S' => ∃ (o : SO) (ls : List Sq) (x8 x9 : Option D), Urn (k + 23) o ∧ Some_ 3 (NearP 0) ls ∧ S' = some o :: (T ++ [some (.lst []), some (.lst (ls.map sqD)), some (.lst (fs.map sqD))]) ∧ ρ' = [some (.ref 0), some (.int 4), some (.int tall), some (.int many), some (.int low), some (.ref (T.length + 1 + 0)), some (.ref (T.length + 1 + 1)), some (.ref (T.length + 1 + 2)), x8, x9]) (fun N' hrt hnx => ?_) (fun ρ' S' hP => ?_)
  · walk_at "nc hh"
    refine ⟨_, o, _, _, [.int 0, .int 1, .int 3, .int 0], rfl, rfl, u, by omega, fun _ => rfl, by decide, by decide, fun o1 e u1 he => ?_⟩
    have he : ∃ x : Int, e = .int x ∧ 0 ≤ x ∧ x ≤ 3 := by
      simp only [List.mem_cons, List.not_mem_nil, or_false] at he
      rcases he with rfl | rfl | rfl | rfl <;> exact ⟨_, rfl, by decide, by decide⟩
    obtain ⟨n, rfl, n0, n1⟩ := he
    walk_at "nc hh"
    refine ⟨by omega, by omega, fun i ρ' S' => ∃ (o : SO) (ls : List Sq) (x8 x9 : Option D), Urn (k + 17 + 2 * i) o ∧ Some_ i (NearP 0) ls ∧ S' = some o :: (T ++ [some (.lst []), some (.lst (ls.map sqD)), some (.lst (fs.map sqD))]) ∧ ρ' = [some (.ref 0), some (.int 4), some (.int tall), some (.int many), some (.int low), some (.ref (T.length + 1 + 0)), some (.ref (T.length + 1 + 1)), some (.ref (T.length + 1 + 2)), x8, x9],
      ⟨o1, [], _, _, u1, ⟨.nil, Nat.le_refl _, fun p h => (nomatch h)⟩, rfl, rfl⟩, fun _ _ _ _ => trivial, ?_, ?_⟩
    · rintro i e ρ' S' he ⟨o2, ls, x8, x9, u2, hl2, rfl, rfl⟩
      obtain ⟨rfl, hi⟩ := range_at he
      have hi : i < 3 := by omega
      refine ⟨_, by unfold bindT; rfl, ?_⟩
      refine cut1 9 (fun d S' => ∃ (o : SO) (r : Sq), Urn (k + 17 + 2 * (i + 1)) o ∧ NearP 0 r ∧ d = sqD r ∧ S' = some o :: (T ++ [some (.lst []), some (.lst (ls.map sqD)), some (.lst (fs.map sqD))])) (fun N2 hrt2 hnx2 => ?_) (fun d S' hP => ?_)
      · walk_at "nc hh"
        refine draw_of u2 (by omega) (by decide) (by decide) fun o3 a u3 a0 a1 => ?_
        walk_at "nc hh"
        refine draw_of u3 (by omega) (by omega) (by omega) fun o4 c u4 c0 c1 => ?_
        walk_at "nc hh"
        exact hnx2 _ _ ⟨o4, (a, low + c), u4.mono (by omega), ⟨a0, by omega, by omega, by omega⟩, rfl, rfl⟩
      obtain ⟨o4, r, u4, br, rfl, rfl⟩ := hP
      have nd := hl2.1
      have ll := hl2.2.1
      walk_at "nc hh"
      refine ⟨by rw [drf_ref (thr (i := 1))]; trivial, ?_⟩
      walk_at "nc hh"
      refine niU_sq (p := r) (ps := ls) (by rw [drf_ref (thr (i := 1))]; rfl) ?_
      walk_at "nc hh"
      refine ite_by (fun h => ?_) (fun h => ?_)
      · have hni : r ∉ ls := by simpa using h
        walk_at "nc hh"
        refine i_mext ⟨_, ls.map sqD, [sqD r], rfl, thr (i := 1), rfl, by simp; omega, ?_⟩
        rw [thrs]
        refine ⟨o4, ls ++ [r], _, _, u4, add_one hl2 br hni, by rw [List.map_append]; rfl, rfl⟩
      · have hin : r ∈ ls := by simpa using h
        walk_at "nc hh"
        refine i_mext ⟨_, ls.map sqD, [], rfl, thr (i := 1), rfl, by simp; omega, ?_⟩
        rw [thrs]
        exact ⟨o4, ls, _, _, u4, ⟨hl2.1, by omega, hl2.2.2⟩, by rw [List.append_nil]; rfl, rfl⟩
    · rintro ρ' S' ⟨o2, ls, x8, x9, u2, hl2, rfl, rfl⟩
      rw [rangeD_len] at u2 hl2
      exact hnx _ _ ⟨o2, ls, _, _, u2.mono (by omega), ⟨hl2.1, Nat.le_trans hl2.2.1 (by omega), hl2.2.2⟩, rfl, rfl⟩
  clear u
  obtain ⟨o, ps, x8, x9, u, hps, rfl, rfl⟩ := hP
  refine cut (fun ρ' S' => ∃ (o : SO) (ls : List Sq) (x8 x9 : Option D), Urn (k + 28) o ∧ Some_ 2 (fun p => NearP 0 p ∧ barS ps p = false) ls ∧ S' = some o :: (T ++ [some (.lst (ls.map sqD)), some (.lst (ps.map sqD)), some (.lst (fs.map sqD))]) ∧ ρ' = [some (.ref 0), some (.int 4), some (.int tall), some (.int many), some (.int low), some (.ref (T.length + 1 + 0)), some (.ref (T.length + 1 + 1)), some (.ref (T.length + 1 + 2)), x8, x9]) (fun N' hrt hnx => ?_) (fun ρ' S' hP => ?_)
  · walk_at "nc hh"
    refine ⟨_, o, _, _, [.int 0, .int 0, .int 1, .int 2], rfl, rfl, u, by omega, fun _ => rfl, by decide, by decide, fun o1 e u1 he => ?_⟩
    have he : ∃ x : Int, e = .int x ∧ 0 ≤ x ∧ x ≤ 2 := by
      simp only [List.mem_cons, List.not_mem_nil, or_false] at he
      rcases he with rfl | rfl | rfl | rfl <;> exact ⟨_, rfl, by decide, by decide⟩
    obtain ⟨n, rfl, n0, n1⟩ := he
    walk_at "nc hh"
    refine ⟨by omega, by omega, fun i ρ' S' => ∃ (o : SO) (ls : List Sq) (x8 x9 : Option D), Urn (k + 24 + 2 * i) o ∧ Some_ i (fun p => NearP 0 p ∧ barS ps p = false) ls ∧ S' = some o :: (T ++ [some (.lst (ls.map sqD)), some (.lst (ps.map sqD)), some (.lst (fs.map sqD))]) ∧ ρ' = [some (.ref 0), some (.int 4), some (.int tall), some (.int many), some (.int low), some (.ref (T.length + 1 + 0)), some (.ref (T.length + 1 + 1)), some (.ref (T.length + 1 + 2)), x8, x9],
      ⟨o1, [], _, _, u1, ⟨.nil, Nat.le_refl _, fun p h => (nomatch h)⟩, rfl, rfl⟩, fun _ _ _ _ => trivial, ?_, ?_⟩
    · rintro i e ρ' S' he ⟨o2, ls, x8, x9, u2, hl2, rfl, rfl⟩
      obtain ⟨rfl, hi⟩ := range_at he
      have hi : i < 2 := by omega
      refine ⟨_, by unfold bindT; rfl, ?_⟩
      refine cut1 9 (fun d S' => ∃ (o : SO) (r : Sq), Urn (k + 24 + 2 * (i + 1)) o ∧ NearP 0 r ∧ d = sqD r ∧ S' = some o :: (T ++ [some (.lst (ls.map sqD)), some (.lst (ps.map sqD)), some (.lst (fs.map sqD))])) (fun N2 hrt2 hnx2 => ?_) (fun d S' hP => ?_)
      · walk_at "nc hh"
        refine draw_of u2 (by omega) (by decide) (by decide) fun o3 a u3 a0 a1 => ?_
        walk_at "nc hh"
        refine draw_of u3 (by omega) (by omega) (by omega) fun o4 c u4 c0 c1 => ?_
        walk_at "nc hh"
        exact hnx2 _ _ ⟨o4, (a, low + c), u4.mono (by omega), ⟨a0, by omega, by omega, by omega⟩, rfl, rfl⟩
      obtain ⟨o4, r, u4, br, rfl, rfl⟩ := hP
      have nd := hl2.1
      have ll := hl2.2.1
      walk_at "nc hh"
      refine ⟨by rw [drf_ref (thr (i := 0))]; trivial, ?_⟩
      walk_at "nc hh"
      refine niU_sq (p := r) (ps := ls) (by rw [drf_ref (thr (i := 0))]; rfl) ?_
      walk_at "nc hh"
      refine ite_by (fun h => ?_) (fun h => ?_)
      · have hni : r ∉ ls := by simpa using h
        walk_at "nc hh"
        refine ⟨_, r, ps, rfl, .inl (by rw [drf_ref (thr (i := 1))]; rfl), ?_⟩
        walk_at "nc hh"
        refine ite_by (fun h2 => ?_) (fun h2 => ?_)
        · have h2 : barS ps r = false := by simpa using h2
          walk_at "nc hh"
          refine i_mext ⟨_, ls.map sqD, [sqD r], rfl, thr (i := 0), rfl, by simp; omega, ?_⟩
          rw [thrs]
          refine ⟨o4, ls ++ [r], _, _, u4, add_one hl2 ⟨br, h2⟩ hni, by rw [List.map_append]; rfl, rfl⟩
        · walk_at "nc hh"
          refine i_mext ⟨_, ls.map sqD, [], rfl, thr (i := 0), rfl, by simp; omega, ?_⟩
          rw [thrs]
          exact ⟨o4, ls, _, _, u4, ⟨hl2.1, by omega, hl2.2.2⟩, by rw [List.append_nil]; rfl, rfl⟩
      · walk_at "nc hh"
        refine i_mext ⟨_, ls.map sqD, [], rfl, thr (i := 0), rfl, by simp; omega, ?_⟩
        rw [thrs]
        exact ⟨o4, ls, _, _, u4, ⟨hl2.1, by omega, hl2.2.2⟩, by rw [List.append_nil]; rfl, rfl⟩
    · rintro ρ' S' ⟨o2, ls, x8, x9, u2, hl2, rfl, rfl⟩
      rw [rangeD_len] at u2 hl2
      exact hnx _ _ ⟨o2, ls, _, _, u2.mono (by omega), ⟨hl2.1, Nat.le_trans hl2.2.1 (by omega), hl2.2.2⟩, rfl, rfl⟩
  clear u
  obtain ⟨o, hs, x8, x9, u, hhs, rfl, rfl⟩ := hP
  refine cut (fun ρ' S' => ∃ (o : SO) (gs : List Sq), Urn (k + 30) o ∧ gs.Nodup ∧ gs.length ≤ 8 ∧ (∀ p ∈ gs, NearP (-3) p) ∧ gs ≠ [] ∧ S' = some o :: (T ++ [some (.lst (hs.map sqD)), some (.lst (ps.map sqD)), some (.lst (gs.map sqD))]) ∧
    ρ' = [some (.ref 0), some (.int 4), some (.int tall), some (.int many), some (.int low), some (.ref (T.length + 1 + 0)), some (.ref (T.length + 1 + 1)), some (.ref (T.length + 1 + 2)), x8, x9]) (fun N' hrt hnx => ?_) (fun ρ' S' hP => ?_)
  · have fl := hfs.2.1
    have wide : ∀ p ∈ fs, NearP (-3) p := fun p hp => by
      have := hfs.2.2 p hp
      unfold NearP at this ⊢
      omega
    walk_at "nc hh"
    refine ⟨by rw [drf_ref (thr (i := 2))]; trivial, ?_⟩
    walk_at "nc hh"
    refine draw_of u (by omega) (by decide) (by decide) fun o1 n u1 n0 n1 => ?_
    walk_at "nc hh"
    refine ite_by (fun h => ?_) (fun h => ?_)
    · walk_at "nc hh"
      refine draw_of u1 (by omega) (by decide) (by decide) fun o2 c u2 c0 c1 => ?_
      walk_at "nc hh"
      refine i_mext ⟨_, fs.map sqD, [sqD (-1 - c, low)], rfl, thr (i := 2), rfl, by simp; omega, ?_⟩
      rw [thrs]
      have ni : (-1 - c, low) ∉ fs := fun hm => by
        have := (hfs.2.2 _ hm).1
        simp only at this
        omega
      have a := add_one (P := NearP (-3)) ⟨hfs.1, fl, wide⟩ (r := (-1 - c, low)) (by unfold NearP; simp only; omega) ni
      exact hnx _ _ ⟨o2, fs ++ [(-1 - c, low)], u2.mono (by omega), a.1, a.2.1, a.2.2, by simp, by rw [List.map_append]; rfl, rfl⟩
    · walk_at "nc hh"
      refine i_mext ⟨_, fs.map sqD, [], rfl, thr (i := 2), rfl, by simp; omega, ?_⟩
      rw [thrs]
      exact hnx _ _ ⟨o1, fs, u1.mono (by omega), hfs.1, by omega, wide, fne, by rw [List.append_nil]; rfl, rfl⟩
  clear u
  obtain ⟨o, gs, u, gn, gl, gb, ge, rfl, rfl⟩ := hP
  walk_at "nc hh"
  have e0 : (some o :: (T ++ [some (.lst (hs.map sqD)), some (.lst (ps.map sqD)), some (.lst (gs.map sqD))]))[T.length + 1 + 0]? = some (some (.lst (hs.map sqD))) := thr
  refine i_eFrz ?_
  walk_at "nc hh"
  refine frz_at (ds := hs.map sqD) e0 ?_
  rw [thrs]
  walk_at "nc hh"
  have e1 : (some o :: (T ++ [none, some (.lst (ps.map sqD)), some (.lst (gs.map sqD))]))[T.length + 1 + 1]? = some (some (.lst (ps.map sqD))) := thr
  refine i_eFrz ?_
  walk_at "nc hh"
  refine frz_at (ds := ps.map sqD) e1 ?_
  rw [thrs]
  walk_at "nc hh"
  have e2 : (some o :: (T ++ [none, none, some (.lst (gs.map sqD))]))[T.length + 1 + 2]? = some (some (.lst (gs.map sqD))) := thr
  refine i_eFrz ?_
  walk_at "nc hh"
  refine frz_at (ds := gs.map sqD) e2 ?_
  rw [thrs]
  walk_at "nc hh"
  exact q o _ hs ps gs (u.mono (by omega)) (Grow.add _ _) ⟨hhs.1, hps.1, gn, hhs.2.1, hps.2.1, gl, hhs.2.2, hps.2.2, gb, ge⟩
end NC
set_option Elab.async false
set_option linter.all false
set_option maxRecDepth 100000
set_option maxHeartbeats 4000000
namespace NC
open PySem PySem.Spec PyProof.Rows L2
theorem srt_ex (l : List Sq) : ∃ m : List Sq, m.Perm l ∧ Srt m := by
  refine ⟨l.mergeSort (fun p q => !ltS q p), List.mergeSort_perm _ _, ?_⟩
  have := List.pairwise_mergeSort (le := fun p q : Sq => !ltS q p) (fun a b c h1 h2 => ?_) (fun a b => ?_) l
  · exact this.imp fun h => by simpa using h
  · rw [Bool.not_eq_true'] at h1 h2 ⊢
    have h1 := SrtO.lexB_no.mp h1
    have h2 := SrtO.lexB_no.mp h2
    exact SrtO.lexB_no.mpr (by omega)
  · rw [Bool.or_eq_true, Bool.not_eq_true', Bool.not_eq_true']
    rw [SrtO.lexB_no, SrtO.lexB_no]
    omega
structure BdOf (b : Bd) (hs ps fs : List Sq) : Prop where
  h : b.h.Perm hs
  hS : Srt b.h
  p : b.p.Perm ps
  pS : Srt b.p
  f : b.f.Perm fs
  fS : Srt b.f
theorem bd_ex (hs ps fs : List Sq) : ∃ b : Bd, BdOf b hs ps fs := by
  obtain ⟨a, a1, a2⟩ := srt_ex hs
  obtain ⟨b, b1, b2⟩ := srt_ex ps
  obtain ⟨c, c1, c2⟩ := srt_ex fs
  exact ⟨⟨a, b, c⟩, a1, a2, b1, b2, c1, c2⟩
theorem BdOf.one {b c : Bd} {hs ps fs hs' ps' fs' : List Sq} (x : BdOf b hs ps fs) (y : BdOf c hs' ps' fs') (h : hs.Perm hs') (p : ps.Perm ps') (f : fs.Perm fs') : b = c := by
  obtain ⟨bh, bp, bf⟩ := b
  obtain ⟨ch, cp, cf⟩ := c
  have e1 : bh = ch := srt_uniq ((x.h.trans h).trans y.h.symm) x.hS y.hS
  have e2 : bp = cp := srt_uniq ((x.p.trans p).trans y.p.symm) x.pS y.pS
  have e3 : bf = cf := srt_uniq ((x.f.trans f).trans y.f.symm) x.fS y.fS
  rw [e1, e2, e3]
def LotQ (S : Store) (d : D) (ps : List Sq) : Prop := ∃ e, LotG S d e ∧ areSq e = true ∧ sqsOf e = ps
theorem map_drf {S : Store} {ps : List Sq} {zs : List D} (hz : zs = ps.map sqD ∨ zs = ps.map sqL) : zs.map (drf S) = zs := by
  rcases hz with rfl | rfl <;> (rw [List.map_map]; rfl)
theorem lotQ_row {S : Store} {d : D} {ps : List Sq} {zs : List D} (e : d = .lst zs ∨ d = .tup zs) (hz : zs = ps.map sqD ∨ zs = ps.map sqL) (hl : ps.length < 60) (hn : ps.Nodup) : LotQ S d ps := by
  have hd : drf S d = d := by rcases e with rfl | rfl <;> rfl
  refine ⟨d, ⟨?_, .inr ⟨zs, by rw [hd]; exact e, ?_, ?_, fun y hy => ?_⟩⟩, are_row e hz hn, sqs_row e hz⟩
  · rw [hd]
    rcases e with rfl | rfl <;> exact ⟨_, rfl⟩
  · rw [map_drf hz]
    rcases e with rfl | rfl <;> rfl
  · rcases hz with rfl | rfl <;> simpa using hl
  · rcases hz with rfl | rfl <;> (obtain ⟨p, _, rfl⟩ := List.mem_map.mp hy)
    · exact flat_D p
    · exact flat_L p
theorem lotQ_ref {S : Store} {n : Nat} {rs : List D} {ps : List Sq} (h : S[n]? = some (some (.lst rs))) (e : rs.map (drf S) = ps.map sqL) (hl : ps.length < 60) (hn : ps.Nodup) : LotQ S (.ref n) ps := by
  have len : rs.length = ps.length := by simpa using congrArg List.length e
  refine ⟨.lst (ps.map sqL), ⟨⟨_, by rw [drf_ref h]; rfl⟩, .inr ⟨rs, .inl (drf_ref h), by rw [e]; rfl, by omega, fun y hy => ?_⟩⟩, are_row (.inl rfl) (.inr rfl) hn, sqs_row (.inl rfl) (.inr rfl)⟩
  have : drf S y ∈ ps.map sqL := by rw [← e]; exact List.mem_map_of_mem hy
  obtain ⟨p, _, ep⟩ := List.mem_map.mp this
  rw [← ep]
  exact flat_L p
section
variable {K : PySem.W.Frag} {cs : Cs}
theorem make_ok (kf : KF K cs) {x1 x2 x3 : D} {hs ps fs : List Sq} {S : Store} {Q : QD} {E : XD} (b : Bd) (hb : BdOf b hs ps fs) (l1 : ∀ S', Grow S S' → LotQ S' x1 hs) (l2 : ∀ S', Grow S S' → LotQ S' x2 ps) (l3 : ∀ S', Grow S S' → LotQ S' x3 fs) (m : misB hs ps = false)
    (q : ∀ S', Grow S S' → Q (bdD cs b) S') : KOk K cs.Board ∧ r_Board_init cs [.ref S.length, x1, x2, x3] (S ++ [some (SO.ins cs.Board [])]) (fun d S2 => d = .non ∧ frzO Q (.ref S.length) S2) E := by
  obtain ⟨e1, g1, a1, s1⟩ := l1 _ (Grow.add S [some (SO.ins cs.Board [])])
  obtain ⟨e2, g2, a2, s2⟩ := l2 _ (Grow.add S [some (SO.ins cs.Board [])])
  obtain ⟨e3, g3, a3, s3⟩ := l3 _ (Grow.add S [some (SO.ins cs.Board [])])
  refine ⟨kf.w_Board, S.length, x1, x2, x3, e1, e2, e3, rfl, at_end, g1, g2, g3, fun z => ?_, fun _ z => ?_, fun _ _ z => ?_, fun _ _ _ => ⟨fun z => ?_, fun _ c h1 h2 h3 h4 h5 h6 => ?_⟩⟩
  · rw [a1] at z; cases z
  · rw [a2] at z; cases z
  · rw [a3] at z; cases z
  · rw [s1, s2, m] at z; cases z
  · rw [s1] at h1
    rw [s2] at h3
    rw [s3] at h5
    have e : c = b := BdOf.one (hs := hs) (ps := ps) (fs := fs) ⟨h1, h2, h3, h4, h5, h6⟩ hb (.refl _) (.refl _) (.refl _)
    subst e
    exact ⟨rfl, frz_end q⟩
end
theorem grow_drf {S S' : Store} (g : Grow S S') {r : D} {l : List D} (h : drf S r = .lst l) : drf S' r = .lst l := by
  cases r with
  | ref n =>
    rw [show drf S (.ref n) = _ from rfl] at h
    simp only [drf] at h
    split at h <;> cases h
    rename_i e
    rw [drf_ref (grow_get g e)]
  | _ => exact h
theorem grow_map {S S' : Store} (g : Grow S S') {rs : List D} {ps : List Sq} (h : rs.map (drf S) = ps.map sqL) : rs.map (drf S') = ps.map sqL := by
  rw [← h]
  refine List.map_congr_left fun r hr => ?_
  have : drf S r ∈ ps.map sqL := by rw [← h]; exact List.mem_map_of_mem hr
  obtain ⟨p, _, e⟩ := List.mem_map.mp this
  rw [← e]
  exact grow_drf g e.symm
theorem lc_copy {i : Nat} {ps : List Sq} {stays : Store → Prop} {ρ : Rho} {S : Store} {R : List D → Store → Prop} (hs : ∀ S', stays S') (hl : ps.length ≤ 100) (hi : i < ρ.length)
    (fin : ∀ (rs : List D) (S' : Store), Grow S S' → S'.length = S.length + ps.length → rs.map (drf S') = ps.map sqL → (∀ r, rs[0]? = some r → r = .ref S.length ∧ ∃ l, S'[S.length]? = some (some (.lst l)) ∧ l.length = 2) → R rs S') :
    Lc1 (.nm i) bYes (eB rListM (aCons (eVar i) aNil)) [i] ρ (ps.map sqD) stays S R := by
  refine ⟨fun j acc S' => Grow S S' ∧ S'.length = S.length + (ps.take j).length ∧ acc.map (drf S') = (ps.take j).map sqL ∧ (∀ r, acc[0]? = some r → r = .ref S.length ∧ ∃ l, S'[S.length]? = some (some (.lst l)) ∧ l.length = 2),
    ⟨.refl _, rfl, rfl, fun r h => nomatch h⟩, fun j acc S' h => hs _, by rw [List.length_map]; exact few hl, ?_, ?_⟩
  · rintro j d acc S' hd ⟨g, len, e, h0⟩
    rw [List.getElem?_map] at hd
    obtain ⟨p, hp, rfl⟩ := Option.map_eq_some_iff.mp hd
    have gi : ((wipeD ρ [i]).set i (some (sqD p)))[i]? = some (some (sqD p)) := List.getElem?_set_self (by rw [wipeD_len]; exact hi)
    refine ⟨_, by unfold bindT; rfl, i_bYes ?_⟩
    rw [if_pos rfl]
    refine i_eB (i_aCons (i_eVar gi (i_aNil ?_)))
    have tk : ps.take (j + 1) = ps.take j ++ [p] := by rw [List.take_add_one, hp]; rfl
    show ∃ ys, seqOf (drf S' (sqD p)) = some ys ∧ _
    refine ⟨[.int p.1, .int p.2], rfl, ?_⟩
    have g2 : Grow S' (S' ++ [some (.lst [.int p.1, .int p.2])]) := Grow.add _ _
    refine ⟨g.trans g2, by rw [tk, List.length_append, List.length_append, len]; simp only [List.length_cons, List.length_nil]; omega, ?_, fun r hr => ?_⟩
    · rw [tk, List.map_append, List.map_append, grow_map g2 e]
      show _ ++ [drf _ (.ref S'.length)] = _
      rw [drf_ref at_end]
      rfl
    · cases hj : acc with
      | nil =>
        rw [hj] at hr
        have er : r = .ref S'.length := by cases hr; rfl
        have ez : (ps.take j).length = 0 := by
          have := congrArg List.length e
          rw [hj] at this
          simpa using this.symm
        have eS : S'.length = S.length := by omega
        rw [er, eS]
        refine ⟨rfl, [.int p.1, .int p.2], ?_, rfl⟩
        rw [← eS]
        exact at_end
      | cons a acc' =>
        rw [hj] at hr h0
        obtain ⟨e1, l, e2, e3⟩ := h0 r hr
        exact ⟨e1, l, grow_get g2 e2, e3⟩
  · rintro acc S' ⟨g, len, e, h0⟩
    rw [List.length_map, List.take_length] at len e
    exact fin acc S' g len e h0
theorem deep1_sq {S : Store} {r : D} {p : Sq} (h : drf S r = sqL p) : deep 1 S r = sqL p := by
  show (match drf S r with | .lst xs => D.lst (xs.map (deep 0 S)) | .tup xs => .tup (xs.map (deep 0 S)) | x => x) = _
  rw [h]
  rfl
theorem deep2_row {S : Store} {d : D} {rs : List D} {ps : List Sq} (h : drf S d = .lst rs) (e : rs.map (drf S) = ps.map sqL) : deep 2 S d = .lst (ps.map sqL) := by
  show (match drf S d with | .lst xs => D.lst (xs.map (deep 1 S)) | .tup xs => .tup (xs.map (deep 1 S)) | x => x) = _
  rw [h]
  show D.lst (rs.map (deep 1 S)) = _
  rw [← e]
  congr 1
  refine List.map_congr_left fun r hr => ?_
  have : drf S r ∈ ps.map sqL := by rw [← e]; exact List.mem_map_of_mem hr
  obtain ⟨p, _, ep⟩ := List.mem_map.mp this
  rw [← ep]
  exact deep1_sq ep.symm
structure Hnd (S : Store) (n n0 n1 n2 m : Nat) (hs ps fs : List Sq) : Prop where
  top : S[n]? = some (some (.lst [.ref n0, .ref n1, .ref n2]))
  l0 : ∃ rs, S[n0]? = some (some (.lst rs)) ∧ rs.map (drf S) = hs.map sqL
  l1 : ∃ rs, S[n1]? = some (some (.lst rs)) ∧ rs.map (drf S) = ps.map sqL
  l2 : ∃ rs, S[n2]? = some (some (.lst rs)) ∧ rs.map (drf S) = fs.map sqL ∧ rs[0]? = some (.ref m)
  l3 : ∃ l, S[m]? = some (some (.lst l)) ∧ l.length = 2
  ord : 0 < n1 ∧ n1 < m ∧ m < n2 ∧ n2 < n
theorem Hnd.grow {S S' : Store} {n n0 n1 n2 m : Nat} {hs ps fs : List Sq} (h : Hnd S n n0 n1 n2 m hs ps fs) (g : Grow S S') : Hnd S' n n0 n1 n2 m hs ps fs := by
  obtain ⟨r0, a0, b0⟩ := h.l0
  obtain ⟨r1, a1, b1⟩ := h.l1
  obtain ⟨r2, a2, b2, c2⟩ := h.l2
  obtain ⟨l, a3, b3⟩ := h.l3
  exact ⟨grow_get g h.top, ⟨r0, grow_get g a0, grow_map g b0⟩, ⟨r1, grow_get g a1, grow_map g b1⟩, ⟨r2, grow_get g a2, grow_map g b2, c2⟩, ⟨l, grow_get g a3, b3⟩, h.ord⟩
theorem Hnd.deep {S : Store} {n n0 n1 n2 m : Nat} {hs ps fs : List Sq} (h : Hnd S n n0 n1 n2 m hs ps fs) : NC.deep 3 S (.ref n) = .lst [.lst (hs.map sqL), .lst (ps.map sqL), .lst (fs.map sqL)] := by
  obtain ⟨r0, a0, b0⟩ := h.l0
  obtain ⟨r1, a1, b1⟩ := h.l1
  obtain ⟨r2, a2, b2, c2⟩ := h.l2
  show (match drf S (.ref n) with | .lst xs => D.lst (xs.map (NC.deep 2 S)) | .tup xs => .tup (xs.map (NC.deep 2 S)) | x => x) = _
  rw [drf_ref h.top]
  show D.lst [NC.deep 2 S (.ref n0), NC.deep 2 S (.ref n1), NC.deep 2 S (.ref n2)] = _
  rw [deep2_row (drf_ref a0) b0, deep2_row (drf_ref a1) b1, deep2_row (drf_ref a2) b2]
theorem deep_val {S : Store} {hs ps fs : List Sq} : NC.deep 3 S (.lst [.lst (hs.map sqL), .lst (ps.map sqL), .lst (fs.map sqL)]) = .lst [.lst (hs.map sqL), .lst (ps.map sqL), .lst (fs.map sqL)] := by
  have e : ∀ qs : List Sq, NC.deep 2 S (.lst (qs.map sqL)) = .lst (qs.map sqL) := fun qs => deep2_row (rs := qs.map sqL) rfl (by rw [List.map_map]; rfl)
  show D.lst [NC.deep 2 S (.lst (hs.map sqL)), NC.deep 2 S (.lst (ps.map sqL)), NC.deep 2 S (.lst (fs.map sqL))] = _
  rw [e, e, e]
end NC
set_option Elab.async false
set_option linter.all false
set_option maxRecDepth 100000
set_option maxHeartbeats 4000000
namespace NC
open PySem PySem.Spec PyProof.Rows L2
local macro_rules | `(tactic| walk_at "nc hh") => `(tactic| repeat (first | (with_reducible first | refine nes_same ?_ | refine eqs_same ?_ | refine iteT ?_ | refine iteF ?_ | refine iteNT ?_ | refine iteNF ?_) | (with_reducible first | refine i_sIf ?_ | refine i_sNil ?_ | refine i_sRet ?_ | refine i_sAsg ?_ | refine i_sDrop ?_ | refine i_sPut ?_ | refine i_sPar ?_ | refine i_eC ?_ | refine i_eOp ?_ | refine i_eChain ?_ | refine i_eB ?_ | refine i_eUn ?_ | refine i_eTup ?_ | refine i_eLst ?_ | refine i_eLstM ?_ | refine i_eAnd ?_ | refine i_eOr ?_ | refine i_eNot ?_ | refine i_eIf ?_ | refine i_bOf ?_ | refine i_bAnd ?_ | refine i_bOr ?_ | refine i_bNot ?_ | refine i_bYes ?_ | refine i_aNil ?_ | refine i_aCons ?_ | refine i_eCall ?_ | refine i_eCallKw ?_ | refine i_eCut ?_ | refine i_oNone ?_ | refine i_oSome ?_ | refine i_eM ?_ | refine i_sSq ?_ | refine i_sRange1 ?_ | refine i_sRange2 ?_ | refine i_sEnum ?_ | refine i_eIsi ?_ | refine i_eIsi2 ?_ | refine i_eLc ?_ | refine i_eLcM ?_ | refine i_sFor ?_ | refine i_eDisp1 ?_ | refine i_bl ?_ | refine i_int ?_ | refine i_nm ?_ | refine i_one ?_ | refine i_two ?_ | refine i_rng ?_ | refine i_len0 ?_ | refine i_int1 ?_ | refine i_intb ?_ | refine i_abs ?_ | refine i_add ?_ | refine i_sub ?_ | refine i_lt ?_ | refine i_le ?_ | refine i_gt ?_ | refine i_ge ?_ | refine i_eqi ?_ | refine i_is ?_ | refine i_isn ?_ | refine i_nes ?_ | refine i_rbl ?_ | refine i_eCallX ?_ | refine i_eCallKwX ?_ | refine i_sRaiseF ?_ | refine i_eIsX ?_ | refine i_eFld ?_ | refine i_eDit1 ?_ | refine i_sTry ?_ | refine i_runX ?_ | refine i_ltU ?_ | refine i_isU ?_ | refine i_isnU ?_ | refine i_isS ?_ | refine i_isnS ?_ | refine i_isB ?_ | refine i_isnB ?_ | refine i_neg ?_ | refine i_eDcT ?_ | refine i_sPar3 ?_ | refine i_three ?_ | refine i_eFldU ?_ | refine i_eIsU ?_ | refine i_eFrzO ?_ | refine i_eMake ?_ | refine i_sFldP ?_ | refine i_eMeth ?_ | refine i_sWhile ?_ | refine i_aStar ?_ | refine i_eFn ?_ | refine i_sAsgL ?_ | refine i_sCont ?_ | refine i_sBrk ?_ | refine i_eDnT ?_ | refine i_eDnK ?_ | refine i_eDit1M ?_ | refine i_sDPutU ?_ | refine i_eListR2 ?_ | refine i_bool1 ?_ | refine i_eCName ?_ | refine i_sFlds ?_ | refine i_bTruL ?_ | refine i_eCutU ?_ | refine i_sStr ?_ | refine i_eJoined ?_ | refine i_dJs ?_ | refine i_dJn ?_ | refine i_eMakeX ?_ | refine i_eMethX ?_ | refine i_eFmt ?_ | refine i_eLc2 ?_ | refine i_sRng ?_ | refine i_sTryS ?_) | ((with_reducible refine i_eVarX ?_); refine ⟨_, rfl, ?_⟩) | ((with_reducible refine i_len1 ?_ ?_); · exact Nat.le_of_ble_eq_true rfl) | ((with_reducible first | refine i_ix0 ?_ | refine i_ix1 ?_ | refine i_ix2 ?_ | refine i_ix3 ?_); refine ⟨_, _, rfl, rfl, ?_⟩) | ((with_reducible refine i_tp ?_); refine ⟨_, by unfold bindT; rfl, ?_⟩) | ((with_reducible first | refine i_len ?_ | refine i_list ?_ | refine i_listU ?_ | refine i_tuple ?_ | refine i_sqE ?_); refine ⟨_, rfl, ?_⟩) | ((with_reducible refine i_modL ?_ ?_); · decide) | (with_reducible refine i_eqs ?_) | (with_reducible first | refine cl_power (by assumption) ?_ | refine cl_height (by assumption) ?_ | refine cl_origins (by assumption) ?_ | refine cl_lasted (by assumption) ?_ | refine cl_square (by assumption) ?_ | refine cl_turn (by assumption) ?_ | refine is_cl (by assumption) ?_ | refine st_wide (by assumption) ?_ | refine st_power (by assumption) ?_ | refine st_far (by assumption) ?_) | ((with_reducible refine i_kw ?_); refine ⟨rfl, rfl, ?_⟩)))
def r_law_kept_right (cs : Cs) : RDs := fun xs S Q => ∃ (k : Nat) (o : SO) (T : Store), xs = [.ref 0] ∧ S = some o :: T ∧ Urn k o ∧ k < 600000 ∧ ∀ (o' : SO) (T' : Store), Urn (k + 100) o' → Q (.bl true) (some o' :: T')
def b_law_kept_right (K : PySem.W.Frag) (cs : Cs) : TSd := (sSeq (sAsg (.tp [(.nm 1), (.nm 2), (.nm 3)]) (eCall r_law_board (aCons (eVar 0) (aCons (eC (.int 4)) (aCons (eC (.int 6)) (aCons (eC (.int 7)) aNil))))))
    (sSeq (sAsg (.nm 4) (eLstM (aCons (eLcM (sSq (eVar 1)) (.nm 10) bYes (eB rListM (aCons (eVar 10) aNil)) [10]) (aCons (eLcM (sSq (eVar 2)) (.nm 10) bYes (eB rListM (aCons (eVar 10) aNil)) [10]) (aCons (eLcM (sSq (eVar 3)) (.nm 10) bYes (eB rListM (aCons (eVar 10) aNil)) [10]) aNil)))))
    (sSeq (sAsg (.nm 5) (eFrzO (eMakeKX K (r_Board_init cs) cs.Board NoX 3 [1, 2, 0] (aCons (eOp rIxU (eVar 4) (eC (.int 2))) (aCons (eOp rIxU (eVar 4) (eC (.int 0))) (aCons (eOp rIxU (eVar 4) (eC (.int 1))) aNil))))))
    (sSeq (sAsg (.nm 6) (eB rRepr (aCons (eTup (aCons (eB rTuple (aCons (eB rSortP (aCons (eVar 1) aNil)) aNil)) (aCons (eB rTuple (aCons (eB rSortP (aCons (eVar 2) aNil)) aNil)) (aCons (eB rTuple (aCons (eB rSortP (aCons (eVar 3) aNil)) aNil)) aNil)))) aNil)))
    (sSeq (sIf (bOr (bOf (eOp rNe3 (eB rRepr (aCons (eTup (aCons (eFldU K "held" (eVar 5)) (aCons (eFldU K "passed" (eVar 5)) (aCons (eFldU K "burnt" (eVar 5)) aNil)))) aNil)) (eVar 6))) (bOf (eOp rNeH (eVar 4) (eLc (sSq (eTup (aCons (eVar 1) (aCons (eVar 2) (aCons (eVar 3) aNil))))) (.nm 12) bYes (eLc (sSq (eVar 12)) (.nm 10) bYes (eB rListU (aCons (eVar 10) aNil)) [10]) [12]))))
    (sRet (eC (.bl false)))
    sNil)
    (sSeq (sPar 7 8 (aCons (eFrzO (eMakeX K (r_Board_init cs) cs.Board NoX (aCons (eB rTuple (aCons (eUn rRev (eVar 1)) aNil)) (aCons (eB rTuple (aCons (eUn rRev (eVar 2)) aNil)) (aCons (eUn rRev (eVar 3)) aNil))))) (aCons (eFrzO (eMakeX K (r_Board_init cs) cs.Board NoX (aCons (eVar 1) (aCons (eVar 2) (aCons (eOp rAdd (eVar 3) (eLst (aCons (eTup (aCons (eUn rNeg (eC (.int 7))) (aCons (eC (.int 0)) aNil))) aNil))) aNil))))) aNil)))
    (sSeq (sIf (bOr (bOf (eOp (rNeO K cs.Board (r_Board_eq cs)) (eVar 5) (eVar 7))) (bOr (bOf (eOp (rEqO K cs.Board (r_Board_eq cs)) (eVar 5) (eVar 8))) (bOr (bOf (eOp (rEqO K cs.Board (r_Board_eq cs)) (eVar 5) (eVar 6))) (bOf (eOp (rEqO K cs.Board (r_Board_eq cs)) (eVar 5) (eTup (aCons (eFldU K "held" (eVar 5)) (aCons (eFldU K "passed" (eVar 5)) (aCons (eFldU K "burnt" (eVar 5)) aNil)))))))))
    (sRet (eC (.bl false)))
    sNil)
    (sSeq (sIf (bOr (bOf (eOp (rEqO K cs.Board (r_Board_eq cs)) (eFrzO (eMakeX K (r_Board_init cs) cs.Board NoX (aCons (eVar 1) (aCons (eOp rAdd (eVar 2) (eLst (aCons (eTup (aCons (eUn rNeg (eC (.int 5))) (aCons (eC (.int 1)) aNil))) aNil))) (aCons (eVar 3) aNil))))) (eVar 5))) (bOf (eOp (rEqO K cs.Board (r_Board_eq cs)) (eFrzO (eMakeX K (r_Board_init cs) cs.Board NoX (aCons (eOp rAdd (eVar 1) (eLst (aCons (eTup (aCons (eC (.int 50)) (aCons (eC (.int 50)) aNil))) aNil))) (aCons (eVar 2) (aCons (eVar 3) aNil))))) (eVar 5))))
    (sRet (eC (.bl false)))
    sNil)
    (sSeq (sDrop (eM "list" rApp (eOp rIxU (eVar 4) (eC (.int 2))) (aCons (eLst (aCons (eC (.int 30)) (aCons (eC (.int 30)) aNil))) aNil)))
    (sSeq (sDrop (eM "list" rApp (eOp rIxU (eVar 4) (eC (.int 1))) (aCons (eLst (aCons (eC (.int 31)) (aCons (eC (.int 30)) aNil))) aNil)))
    (sSeq (sPut (eOp rIxU (eOp rIxU (eVar 4) (eC (.int 2))) (eC (.int 0))) (eC (.int 0)) (eC (.int 33)))
    (sSeq (sIf (bOr (bOf (eOp rNe3 (eB rRepr (aCons (eTup (aCons (eFldU K "held" (eVar 5)) (aCons (eFldU K "passed" (eVar 5)) (aCons (eFldU K "burnt" (eVar 5)) aNil)))) aNil)) (eVar 6))) (bOf (eOp rNe3 (eCallX (r_box_of cs) NoX (aCons (eVar 5) aNil)) (eCall r_law_box (aCons (eVar 1) (aCons (eVar 2) (aCons (eVar 3) aNil)))))))
    (sRet (eC (.bl false)))
    sNil)
    (sSeq (sAsg (.nm 9) (eOp rAdd (eOp rAdd (eLc (sRange1 (aCons (eC (.int 4)) aNil)) (.nm 13) bYes (eTup (aCons (eOp rSub (eCall r_law_draw (aCons (eVar 0) (aCons (eC (.int 6)) aNil))) (eC (.int 1))) (aCons (eOp rSub (eCall r_law_draw (aCons (eVar 0) (aCons (eC (.int 14)) aNil))) (eC (.int 4))) aNil))) [13]) (eVar 2)) (eVar 1)))
    (sRet (eOp rEq3 (eLc (sSq (eVar 9)) (.nm 11) (bOf (eOp rNe3 (eB rRepr (aCons (eMethKX (r_Board_is_passed cs) cs.Board "is_passed" NoX 1 [0] (eVar 5) (aCons (eB rListU (aCons (eVar 11) aNil)) aNil)) aNil)) (eB rRepr (aCons (eCall r_law_barred (aCons (eVar 2) (aCons (eVar 11) aNil))) aNil)))) (eVar 11) [11]) (eLst aNil))))))))))))))))
theorem len_law_kept_right (cs : Cs) (xs : List D) (S : Store) (Q : QD) (h : r_law_kept_right cs xs S Q) : xs.length = 1 := by obtain ⟨_, _, _, rfl, _⟩ := h; rfl
theorem i_eMakeKX {K : PySem.W.Frag} {r : RDx} {C : Addr} {ED : XD} {m : Nat} {perm : List Nat} {tl : TLs} {ρ : Rho} {S : Store} {Q : QD} (h : tl ρ S fun xs S1 => xs.length = m ∧ KOk K C ∧ r (.ref S1.length :: pick perm xs .non) (S1 ++ [some (.ins C [])]) (fun d S2 => d = .non ∧ Q (.ref S1.length) S2) ED) : eMakeKX K r C ED m perm tl ρ S Q := h
theorem BdOf.to {b : Bd} {hs ps fs hs' ps' fs' : List Sq} (x : BdOf b hs ps fs) (h : hs.Perm hs') (p : ps.Perm ps') (f : fs.Perm fs') : BdOf b hs' ps' fs' := ⟨x.h.trans h, x.hS, x.p.trans p, x.pS, x.f.trans f, x.fS⟩
theorem rev_sq {ps : List Sq} {S : Store} {Q : QD} (q : Q (.lst (ps.reverse.map sqD)) S) : rRev (.lst (ps.map sqD)) S Q := by
  show Q (.lst (ps.map sqD).reverse) S
  rw [← List.map_reverse]
  exact q
theorem i_eMethKX {r : RDx} {C : Addr} {mm : Str} {ED : XD} {m : Nat} {perm : List Nat} {ta : TD} {tl : TLs} {ρ : Rho} {S : Store} {Q : QD} (h : ta ρ S fun x S1 => ∃ fs, drf S1 x = .obj C fs ∧ fs.lookup mm = none ∧ tl ρ S1 fun xs S2 => xs.length = m ∧ r (x :: pick perm xs .non) S2 Q ED) : eMethKX r C mm ED m perm ta tl ρ S Q := h
theorem drf_seq {S : Store} {n : Nat} {ds : List D} (h : S[n]? = some (some (.lst ds))) : seqOf (drf S (.ref n)) = some ds := by rw [drf_ref h]; rfl
theorem drn_mis {hs ps fs : List Sq} (d : Drn hs ps fs) : misB hs ps = false := by
  refine List.any_eq_false.mpr fun p hp => ?_
  obtain ⟨⟨h1, _⟩, h2⟩ := d.hb p hp
  rw [h2, Bool.or_false]
  simp only [decide_eq_true_eq]
  omega
def bdT (b : Bd) : D := .tup [.tup (b.h.map sqD), .tup (b.p.map sqD), .tup (b.f.map sqD)]
theorem near_sml {w : Int} {p : Sq} (hw : -20 ≤ w) (h : NearP w p) : SmlP p := by
  unfold NearP at h
  exact ⟨sml_of (by omega), sml_of (by omega)⟩
theorem bdT_ok {b : Bd} {hs ps fs : List Sq} (d : Drn hs ps fs) (hb : BdOf b hs ps fs) : shw 60 (bdT b) = true ∧ wid (bdT b) ≤ 3 * (8 * 152 + 3 + 2) + 3 := by
  have h1 : ∀ z ∈ [D.tup (b.h.map sqD), .tup (b.p.map sqD), .tup (b.f.map sqD)], shw 59 z = true ∧ wid z ≤ 8 * 152 + 3 := by
    have one : ∀ qs : List Sq, (∀ p ∈ qs, SmlP p) → qs.length ≤ 8 → shw 59 (.tup (qs.map sqD)) = true ∧ wid (.tup (qs.map sqD)) ≤ 8 * 152 + 3 := fun qs hq hl =>
      ⟨shw_many (w := 0) (.inr rfl) fun z hz => by
        obtain ⟨p, hp, rfl⟩ := List.mem_map.mp hz
        exact shw_D (hq p hp), wid_many (zs := qs.map sqD) (w := 150) (.inr rfl) (fun z hz => by
        obtain ⟨p, hp, rfl⟩ := List.mem_map.mp hz
        exact wid_D (hq p hp)) (by rw [List.length_map]; exact hl)⟩
    intro z hz
    simp only [List.mem_cons, List.not_mem_nil, or_false] at hz
    have := d.hl
    have := d.pl
    rcases hz with rfl | rfl | rfl
    · exact one _ (fun p hp => near_sml (by decide) (d.hb p (hb.h.mem_iff.mp hp)).1) (by rw [hb.h.length_eq]; omega)
    · exact one _ (fun p hp => near_sml (by decide) (d.pb p (hb.p.mem_iff.mp hp))) (by rw [hb.p.length_eq]; omega)
    · exact one _ (fun p hp => near_sml (by decide) (d.fb p (hb.f.mem_iff.mp hp))) (by rw [hb.f.length_eq]; exact d.fl)
  exact ⟨shw_many (w := 0) (.inr rfl) fun z hz => (h1 z hz).1, wid_many (w := 8 * 152 + 3) (m := 3) (.inr rfl) (fun z hz => (h1 z hz).2) (Nat.le_refl 3)⟩
theorem run_law_kept_right {K : PySem.W.Frag} {cs : Cs} (kf : KF K cs) (xs : List D) (S : Store) (Q : QD) (h : r_law_kept_right cs xs S Q) : runD 14 (b_law_kept_right K cs) xs S Q := by
  obtain ⟨k, o, T, rfl, rfl, u, hk, q⟩ := h
  refine i_runD ?_
  unfold b_law_kept_right
  refine cut (fun ρ' S' => ∃ (o : SO) (T : Store) (hs ps fs : List Sq), Urn (k + 40) o ∧ Drn hs ps fs ∧ S' = some o :: T ∧
    ρ' = [some (.ref 0), some (.lst (hs.map sqD)), some (.lst (ps.map sqD)), some (.lst (fs.map sqD)), none, none, none, none, none, none, none, none, none, none]) (fun N' hrt hnx => ?_) (fun ρ' S' hP => ?_)
  · walk_at "nc hh"
    refine ⟨k, o, T, 6, 7, rfl, rfl, u, by omega, by decide, by decide, by decide, by decide, fun o' T' hs ps fs u' g d => ?_⟩
    walk_at "nc hh"
    exact hnx _ _ ⟨o', T', hs, ps, fs, u', d, rfl, rfl⟩
  clear u
  obtain ⟨o, T, hs, ps, fs, u, d, rfl, rfl⟩ := hP
  have hl := d.hl
  have pl := d.pl
  have fl := d.fl
  obtain ⟨b, hb⟩ := bd_ex hs ps fs
  obtain ⟨sw, wd⟩ := bdT_ok d hb
  have mis := drn_mis d
  refine cut1 4 (fun x S' => ∃ (T' : Store) (n n0 n1 n2 m : Nat), S' = some o :: T' ∧ x = .ref n ∧ Hnd S' n n0 n1 n2 m hs ps fs) (fun N' hrt hnx => ?_) (fun x S' hP => ?_)
  · walk_at "nc hh"
    refine lc_copy (fun _ => rfl) (by omega) (by simp) fun r0 S1 g1 len1 e1 _ => ?_
    walk_at "nc hh"
    refine lc_copy (fun _ => rfl) (by omega) (by simp) fun r1 S2 g2 len2 e2 _ => ?_
    walk_at "nc hh"
    refine lc_copy (fun _ => rfl) (by omega) (by simp) fun r2 S3 g3 len3 e3 f3 => ?_
    walk_at "nc hh"
    have a1 : Grow S1 (S1 ++ [some (.lst r0)]) := .add _ _
    have a2 : Grow S2 (S2 ++ [some (.lst r1)]) := .add _ _
    have a3 : Grow S3 (S3 ++ [some (.lst r2)]) := .add _ _
    obtain ⟨a, fs', efs⟩ : ∃ a fs', fs = a :: fs' := by
      cases hf : fs with
      | nil => exact (d.fe hf).elim
      | cons a l => exact ⟨a, l, rfl⟩
    obtain ⟨r, r2', er2⟩ : ∃ r r2', r2 = r :: r2' := by
      cases hf : r2 with
      | nil => rw [hf, efs] at e3; cases e3
      | cons a l => exact ⟨a, l, rfl⟩
    obtain ⟨e4, l, e5, e6⟩ := f3 r (by rw [er2]; rfl)
    have a4 : Grow (S3 ++ [some (.lst r2)]) (S3 ++ [some (.lst r2)] ++ [some (.lst [.ref S1.length, .ref S2.length, .ref S3.length])]) := .add _ _
    have gA : Grow S1 (S3 ++ [some (.lst r2)] ++ [some (.lst [.ref S1.length, .ref S2.length, .ref S3.length])]) := a1.trans (g2.trans (a2.trans (g3.trans (a3.trans a4))))
    have gB : Grow S2 (S3 ++ [some (.lst r2)] ++ [some (.lst [.ref S1.length, .ref S2.length, .ref S3.length])]) := a2.trans (g3.trans (a3.trans a4))
    have gC : Grow S3 (S3 ++ [some (.lst r2)] ++ [some (.lst [.ref S1.length, .ref S2.length, .ref S3.length])]) := a3.trans a4
    obtain ⟨T', eT, _⟩ := grow_head (g1.trans gA)
    have len4 : (S1 ++ [some (SO.lst r0)]).length = S1.length + 1 := by simp
    have len5 : (S2 ++ [some (SO.lst r1)]).length = S2.length + 1 := by simp
    have len6 : (S3 ++ [some (SO.lst r2)]).length = S3.length + 1 := by simp
    have len0 : (some o :: T).length = T.length + 1 := rfl
    have fpos : 0 < fs.length := List.length_pos_iff.mpr d.fe
    refine hnx _ _ ⟨T', _, S1.length, S2.length, S3.length, (S2 ++ [some (SO.lst r1)]).length, eT, rfl, at_end, ⟨r0, grow_get (g2.trans (a2.trans (g3.trans (a3.trans a4)))) at_end, grow_map gA e1⟩, ⟨r1, grow_get (g3.trans (a3.trans a4)) at_end, grow_map gB e2⟩,
      ⟨r2, grow_get a4 at_end, grow_map gC e3, by rw [er2, e4]; rfl⟩, ⟨l, grow_get gC e5, e6⟩, by omega, by omega, by omega, by omega⟩
  obtain ⟨T, n, n0, n1, n2, m, rfl, rfl, hn⟩ := hP
  refine cut1 5 (fun x S' => ∃ T', S' = some o :: T' ∧ x = bdD cs b ∧ Hnd S' n n0 n1 n2 m hs ps fs) (fun N' hrt hnx => ?_) (fun x S' hP => ?_)
  · obtain ⟨r0, a0, b0⟩ := hn.l0
    obtain ⟨r1, a1, b1⟩ := hn.l1
    obtain ⟨r2, a2, b2, c2⟩ := hn.l2
    walk_at "nc hh"
    refine i_eMakeKX ?_
    walk_at "nc hh"
    refine i_ix2 ⟨_, _, drf_seq hn.top, rfl, ?_⟩
    walk_at "nc hh"
    refine i_ix0 ⟨_, _, drf_seq hn.top, rfl, ?_⟩
    walk_at "nc hh"
    refine i_ix1 ⟨_, _, drf_seq hn.top, rfl, ?_⟩
    walk_at "nc hh"
    refine ⟨rfl, make_ok kf b hb (fun S' g => ?_) (fun S' g => ?_) (fun S' g => ?_) mis fun S' g => ?_⟩
    · exact lotQ_ref (grow_get g a0) (grow_map g b0) (by omega) d.hn
    · exact lotQ_ref (grow_get g a1) (grow_map g b1) (by omega) d.pn
    · exact lotQ_ref (grow_get g a2) (grow_map g b2) (by omega) d.fn
    · obtain ⟨T', rfl, _⟩ := grow_head g
      walk_at "nc hh"
      exact hnx _ _ ⟨T', rfl, rfl, hn.grow g⟩
  obtain ⟨T, rfl, rfl, hn⟩ := hP
  refine cut1 6 (fun x S' => S' = some o :: T ∧ x = .str (shn (bdT b))) (fun N' hrt hnx => ?_) (fun x S' hP => ?_)
  · walk_at "nc hh"
    refine ⟨_, hs, rfl, rfl, fun q1 p1 s1 => ?_⟩
    walk_at "nc hh"
    refine ⟨_, ps, rfl, rfl, fun q2 p2 s2 => ?_⟩
    walk_at "nc hh"
    refine ⟨_, fs, rfl, rfl, fun q3 p3 s3 => ?_⟩
    walk_at "nc hh"
    have e : bdT ⟨q1, q2, q3⟩ = bdT b := by rw [BdOf.one (b := ⟨q1, q2, q3⟩) ⟨p1, s1, p2, s2, p3, s3⟩ hb (.refl _) (.refl _) (.refl _)]
    refine repr_of (y := bdT b) e sw wd (by decide) ?_
    walk_at "nc hh"
    exact hnx _ _ ⟨rfl, rfl⟩
  obtain ⟨rfl, rfl⟩ := hP
  refine cut0 (fun S' => S' = some o :: T) (fun N' hrt hnx => ?_) (fun S' hP => ?_)
  · walk_at "nc hh"
    refine fld_h kf ?_
    walk_at "nc hh"
    refine fld_p kf ?_
    walk_at "nc hh"
    refine fld_f kf ?_
    walk_at "nc hh"
    refine repr_of (y := bdT b) rfl sw wd (by decide) ?_
    walk_at "nc hh"
    refine lc_map (fun d => .lst (((seqOf d).getD []).map fun z => sqL (sqOf z))) rfl (show 3 ≤ sizeLine by decide) (fun z hz => ?_) ?_
    · obtain ⟨qs, ql, rfl⟩ : ∃ qs : List Sq, qs.length ≤ 60 ∧ z = .lst (qs.map sqD) := by
        simp only [List.mem_cons, List.not_mem_nil, or_false] at hz
        rcases hz with rfl | rfl | rfl
        · exact ⟨hs, by omega, rfl⟩
        · exact ⟨ps, by omega, rfl⟩
        · exact ⟨fs, by omega, rfl⟩
      refine ⟨_, by unfold bindT; rfl, fun Q' q' => ?_⟩
      walk_at "nc hh"
      refine lc_each (l := qs) (enc := sqD) (g := sqL) rfl (few (by omega)) (fun a ha => ⟨_, by unfold bindT; rfl, fun Q' q' => ?_⟩) ?_
      · walk_at "nc hh"
        exact q'
      · rw [show qs.map sqL = (((seqOf (D.lst (qs.map sqD))).getD []).map fun z => sqL (sqOf z)) from by show _ = (qs.map sqD).map _; rw [List.map_map]; rfl]
        exact q'
    · have e : ∀ qs : List Sq, D.lst (((seqOf (D.lst (qs.map sqD))).getD []).map fun z => sqL (sqOf z)) = .lst (qs.map sqL) := fun qs => by show D.lst ((qs.map sqD).map _) = _; rw [List.map_map]; rfl
      have fV : NC.fl 60 (.lst [.lst (hs.map sqL), .lst (ps.map sqL), .lst (fs.map sqL)]) = true := fls_all.mpr fun z hz => by
        simp only [List.mem_cons, List.not_mem_nil, or_false] at hz
        rcases hz with rfl | rfl | rfl <;> exact fls_all.mpr fun z hz => by
          obtain ⟨p, _, rfl⟩ := List.mem_map.mp hz
          rfl
      simp only [List.map_cons, List.map_nil]
      rw [e, e, e]
      refine .inr ?_
      rw [hn.deep, deep_val, eqd_refl fV]
      refine ⟨fV, fV, ?_⟩
      walk_at "nc hh"
      exact hnx _ rfl
  subst hP
  have LQ : ∀ (S : Store) (d : D) (ps : List Sq), (d = .lst (ps.map sqD) ∨ d = .tup (ps.map sqD)) → ps.length ≤ 50 → ps.Nodup → LotQ S d ps := fun S d ps e hl hn => lotQ_row e (.inl rfl) (by omega) hn
  have nfs : (fs ++ [((-7 : Int), (0 : Int))]).Nodup := (add_one (P := fun _ => True) (n := 8) ⟨d.fn, fl, fun _ _ => trivial⟩ trivial fun h => by
    have := (d.fb _ h).1
    simp only at this
    omega).1
  obtain ⟨b2, hb2⟩ := bd_ex hs ps (fs ++ [(-7, 0)])
  have ne2 : bdEq b b2 = false := by
    have : b.f ≠ b2.f := fun e => by
      have h1 := hb.f.length_eq
      have h2 := hb2.f.length_eq
      rw [← e, h1, List.length_append] at h2
      simp at h2
    unfold bdEq
    rw [decide_eq_false this, Bool.and_false, Bool.and_false]
  refine cut2 7 8 (fun x y S' => ∃ T', S' = some o :: T' ∧ x = bdD cs b ∧ y = bdD cs b2 ∧ Hnd S' n n0 n1 n2 m hs ps fs) (fun N' hrt hnx => ?_) (fun x y S' hP => ?_)
  · walk_at "nc hh"
    refine rev_sq ?_
    walk_at "nc hh"
    refine rev_sq ?_
    walk_at "nc hh"
    refine rev_sq ?_
    walk_at "nc hh"
    refine make_ok kf b (hb.to (List.reverse_perm hs).symm (List.reverse_perm ps).symm (List.reverse_perm fs).symm) (fun S' g => LQ S' _ _ (.inr rfl) (by rw [List.length_reverse]; omega) ((List.reverse_perm _).nodup_iff.mpr d.hn))
      (fun S' g => LQ S' _ _ (.inr rfl) (by rw [List.length_reverse]; omega) ((List.reverse_perm _).nodup_iff.mpr d.pn)) (fun S' g => LQ S' _ _ (.inl rfl) (by rw [List.length_reverse]; omega) ((List.reverse_perm _).nodup_iff.mpr d.fn))
      (by rw [misB_perm (List.reverse_perm hs) (List.reverse_perm ps)]; exact mis) fun S1 g1 => ?_
    walk_at "nc hh"
    refine add_lst (b := [sqD (-7, 0)]) rfl rfl (small (by rw [List.length_map]; simp; omega)) ?_
    walk_at "nc hh"
    refine make_ok kf b2 hb2 (fun S' g => LQ S' _ _ (.inl rfl) (by omega) d.hn) (fun S' g => LQ S' _ _ (.inl rfl) (by omega) d.pn) (fun S' g => LQ S' _ _ (.inl (by rw [List.map_append]; rfl)) (by simp; omega) nfs) mis fun S2 g2 => ?_
    obtain ⟨T', rfl, _⟩ := grow_head (g1.trans g2)
    walk_at "nc hh"
    exact hnx _ _ _ ⟨T', rfl, rfl, rfl, hn.grow (g1.trans g2)⟩
  obtain ⟨T, rfl, rfl, rfl, hn⟩ := hP
  have eqB : ∀ (c : Bd) (S : Store) (Q : QD), Q (.bl (bdEq b c)) S → rEqO K cs.Board (r_Board_eq cs) (bdD cs b) (bdD cs c) S Q := fun c S Q q =>
    ⟨_, .ref cs.Board, rfl, .inr ⟨_, _, rfl, kf.c_Board, rfl⟩, by simp [PySem.W.notFirst], b, _, rfl, .inl ⟨c, rfl, ⟨_, rfl⟩, q⟩⟩
  have eqB' : ∀ (c : Bd) (S : Store) (Q : QD), Q (.bl (bdEq c b)) S → rEqO K cs.Board (r_Board_eq cs) (bdD cs c) (bdD cs b) S Q := fun c S Q q =>
    ⟨_, .ref cs.Board, rfl, .inr ⟨_, _, rfl, kf.c_Board, rfl⟩, by simp [PySem.W.notFirst], c, _, rfl, .inl ⟨b, rfl, ⟨_, rfl⟩, q⟩⟩
  have eqD : ∀ (y : D) (t : String) (S : Store) (Q : QD), tyD y = some t → Q (.bl false) S → rEqO K cs.Board (r_Board_eq cs) (bdD cs b) y S Q := fun y t S Q h q =>
    ⟨_, .type t, rfl, .inl ⟨t, by rw [drf_ty h]; exact h, rfl⟩, kf.q_Board t (ty_in h), b, _, rfl, .inr ⟨t, h, ⟨_, rfl⟩, q⟩⟩
  have eqq : bdEq b b = true := by unfold bdEq; simp
  refine cut0 (fun S' => S' = some o :: T) (fun N' hrt hnx => ?_) (fun S' hP => ?_)
  · walk_at "nc hh"
    refine ⟨_, .ref cs.Board, rfl, .inr ⟨_, _, rfl, kf.c_Board, rfl⟩, by simp [PySem.W.notFirst], b, _, rfl, .inl ⟨b, rfl, _, rfl, ?_⟩⟩
    rw [eqq]
    walk_at "nc hh"
    refine eqB b2 _ _ ?_
    rw [ne2]
    walk_at "nc hh"
    refine eqD _ _ _ _ rfl ?_
    walk_at "nc hh"
    refine fld_h kf ?_
    walk_at "nc hh"
    refine fld_p kf ?_
    walk_at "nc hh"
    refine fld_f kf ?_
    walk_at "nc hh"
    refine eqD _ _ _ _ rfl ?_
    walk_at "nc hh"
    exact hnx _ rfl
  subst hP
  have nps : (ps ++ [((-5 : Int), (1 : Int))]).Nodup := (add_one (P := fun _ => True) (n := 3) ⟨d.pn, pl, fun _ _ => trivial⟩ trivial fun h => by
    have := (d.pb _ h).1
    simp only at this
    omega).1
  have nhs : (hs ++ [((50 : Int), (50 : Int))]).Nodup := (add_one (P := fun _ => True) (n := 2) ⟨d.hn, hl, fun _ _ => trivial⟩ trivial fun h => by
    have := (d.hb _ h).1.2.1
    simp only at this
    omega).1
  obtain ⟨b3, hb3⟩ := bd_ex hs (ps ++ [(-5, 1)]) fs
  obtain ⟨b4, hb4⟩ := bd_ex (hs ++ [(50, 50)]) ps fs
  have ne3 : bdEq b3 b = false := by
    have : b3.p ≠ b.p := fun e => by
      have h1 := hb.p.length_eq
      have h2 := hb3.p.length_eq
      rw [e, h1, List.length_append] at h2
      simp at h2
    unfold bdEq
    rw [decide_eq_false this, Bool.false_and, Bool.and_false]
  have ne4 : bdEq b4 b = false := by
    have : b4.h ≠ b.h := fun e => by
      have h1 := hb.h.length_eq
      have h2 := hb4.h.length_eq
      rw [e, h1, List.length_append] at h2
      simp at h2
    unfold bdEq
    rw [decide_eq_false this, Bool.false_and]
  have mis3 : misB hs (ps ++ [(-5, 1)]) = false := by
    refine List.any_eq_false.mpr fun p hp => ?_
    obtain ⟨⟨h1, _⟩, h2⟩ := d.hb p hp
    unfold barS at h2 ⊢
    rw [Bool.or_eq_false_iff] at h2
    rw [h2.2, Bool.or_false]
    have : p ∉ ps ++ [((-5 : Int), (1 : Int))] := fun hm => by
      rcases List.mem_append.mp hm with hm | hm
      · exact absurd hm (of_decide_eq_false h2.1)
      · rw [List.mem_singleton.mp hm] at h1
        simp only at h1
        omega
    rw [decide_eq_false this, Bool.or_false]
    simp only [decide_eq_true_eq]
    omega
  have mis4 : misB (hs ++ [(50, 50)]) ps = false := by
    have h5 : barS ps (50, 50) = false := by
      unfold barS
      have : ((50 : Int), (50 : Int)) ∉ ps := fun hm => by
        have := (d.pb _ hm).2.1
        simp only at this
        omega
      rw [decide_eq_false this]
      rfl
    unfold misB at mis ⊢
    rw [List.any_append, mis, Bool.false_or]
    simp [h5]
  refine cut0 (fun S' => ∃ T', S' = some o :: T' ∧ Hnd S' n n0 n1 n2 m hs ps fs) (fun N' hrt hnx => ?_) (fun S' hP => ?_)
  · walk_at "nc hh"
    refine add_lst (b := [sqD (-5, 1)]) rfl rfl (small (by rw [List.length_map]; simp; omega)) ?_
    walk_at "nc hh"
    refine make_ok kf b3 hb3 (fun S' g => LQ S' _ _ (.inl rfl) (by omega) d.hn) (fun S' g => LQ S' _ _ (.inl (by rw [List.map_append]; rfl)) (by simp; omega) nps) (fun S' g => LQ S' _ _ (.inl rfl) (by omega) d.fn) mis3 fun S1 g1 => ?_
    walk_at "nc hh"
    refine eqB' b3 _ _ ?_
    rw [ne3]
    walk_at "nc hh"
    refine add_lst (b := [sqD (50, 50)]) rfl rfl (small (by rw [List.length_map]; simp; omega)) ?_
    walk_at "nc hh"
    refine make_ok kf b4 hb4 (fun S' g => LQ S' _ _ (.inl (by rw [List.map_append]; rfl)) (by simp; omega) nhs) (fun S' g => LQ S' _ _ (.inl rfl) (by omega) d.pn) (fun S' g => LQ S' _ _ (.inl rfl) (by omega) d.fn) mis4 fun S2 g2 => ?_
    walk_at "nc hh"
    refine eqB' b4 _ _ ?_
    rw [ne4]
    obtain ⟨T', rfl, _⟩ := grow_head (g1.trans g2)
    walk_at "nc hh"
    exact hnx _ ⟨T', rfl, hn.grow (g1.trans g2)⟩
  obtain ⟨T, rfl, hn⟩ := hP
  obtain ⟨r0, a0, b0⟩ := hn.l0
  obtain ⟨r1, a1, b1⟩ := hn.l1
  obtain ⟨r2, a2, b2_, c2⟩ := hn.l2
  obtain ⟨l, a3, l3⟩ := hn.l3
  obtain ⟨i1, i2, i3, i4⟩ := hn.ord
  have at_ := hn.top
  clear hn
  have len1 : r1.length ≤ 60 := by
    have := congrArg List.length b1
    simp at this
    omega
  have len2 : r2.length ≤ 60 := by
    have := congrArg List.length b2_
    simp at this
    omega
  have setT : ∀ (T : Store) (j : Nat) (x : Option SO), 0 < j → (some o :: T).set j x = some o :: T.set (j - 1) x := fun T j x hj => by
    cases j with
    | zero => omega
    | succ j => rfl
  refine cut0 (fun S' => ∃ T', S' = some o :: T' ∧ S'[n]? = some (some (.lst [.ref n0, .ref n1, .ref n2])) ∧ S'[n1]? = some (some (.lst r1)) ∧ (∃ r, S'[n2]? = some (some (.lst r)) ∧ r[0]? = some (.ref m)) ∧ S'[m]? = some (some (.lst l))) (fun N' hrt hnx => ?_) (fun S' hP => ?_)
  · walk_at "nc hh"
    refine i_ix2 ⟨_, _, drf_seq at_, rfl, ?_⟩
    walk_at "nc hh"
    refine ⟨by rw [drf_ref a2]; trivial, ?_⟩
    walk_at "nc hh"
    refine ⟨n2, r2, _, rfl, rfl, a2, Nat.lt_of_le_of_lt len2 (by decide), ?_⟩
    have z : ∀ j, j ≠ n2 → ((some o :: T).set n2 (some (.lst (r2 ++ [D.lst [.int 30, .int 30]]))))[j]? = (some o :: T)[j]? := fun j hj => List.getElem?_set_ne (Ne.symm hj)
    refine hnx _ ⟨_, setT _ _ _ (by omega), by rw [z n (by omega)]; exact at_, by rw [z n1 (by omega)]; exact a1, ⟨_, set_get a2, ?_⟩, by rw [z m (by omega)]; exact a3⟩
    rw [List.getElem?_append_left (by
      cases r2 with
      | nil => cases c2
      | cons x y => simp)]
    exact c2
  obtain ⟨T, rfl, at_, a1, ⟨r, a2, c2⟩, a3⟩ := hP
  refine cut0 (fun S' => ∃ T', S' = some o :: T' ∧ S'[n]? = some (some (.lst [.ref n0, .ref n1, .ref n2])) ∧ (∃ r, S'[n2]? = some (some (.lst r)) ∧ r[0]? = some (.ref m)) ∧ S'[m]? = some (some (.lst l))) (fun N' hrt hnx => ?_) (fun S' hP => ?_)
  · walk_at "nc hh"
    refine i_ix1 ⟨_, _, drf_seq at_, rfl, ?_⟩
    walk_at "nc hh"
    refine ⟨by rw [drf_ref a1]; trivial, ?_⟩
    walk_at "nc hh"
    refine ⟨n1, r1, _, rfl, rfl, a1, Nat.lt_of_le_of_lt len1 (by decide), ?_⟩
    have z : ∀ j, j ≠ n1 → ((some o :: T).set n1 (some (.lst (r1 ++ [D.lst [.int 31, .int 30]]))))[j]? = (some o :: T)[j]? := fun j hj => List.getElem?_set_ne (Ne.symm hj)
    exact hnx _ ⟨_, setT _ _ _ (by omega), by rw [z n (by omega)]; exact at_, ⟨r, by rw [z n2 (by omega)]; exact a2, c2⟩, by rw [z m (by omega)]; exact a3⟩
  obtain ⟨T, rfl, at_, ⟨r, a2, c2⟩, a3⟩ := hP
  refine cut0 (fun S' => ∃ T', S' = some o :: T') (fun N' hrt hnx => ?_) (fun S' hP => ?_)
  · walk_at "nc hh"
    refine i_ix2 ⟨_, _, drf_seq at_, rfl, ?_⟩
    walk_at "nc hh"
    refine i_ix0 ⟨_, _, drf_seq a2, c2, ?_⟩
    walk_at "nc hh"
    refine ⟨m, 0, l, 0, rfl, rfl, a3, by rw [l3]; rfl, ?_⟩
    exact hnx _ ⟨_, setT _ _ _ (by omega)⟩
  obtain ⟨T, rfl⟩ := hP
  have ok : BdOk b := ⟨by rw [hb.h.length_eq]; omega, by rw [hb.p.length_eq]; omega, by rw [hb.f.length_eq]; omega, hb.p.nodup_iff.mpr d.pn⟩
  have okL : BdOk ⟨hs, ps, fs⟩ := ⟨by simp only; omega, by simp only; omega, by simp only; omega, d.pn⟩
  refine cut0 (fun S' => S' = some o :: T) (fun N' hrt hnx => ?_) (fun S' hP => ?_)
  · walk_at "nc hh"
    refine fld_h kf ?_
    walk_at "nc hh"
    refine fld_p kf ?_
    walk_at "nc hh"
    refine fld_f kf ?_
    walk_at "nc hh"
    refine repr_of (y := bdT b) rfl sw wd (by decide) ?_
    walk_at "nc hh"
    refine ⟨_, rfl, .inr ⟨b, rfl, ok, fun d1 h1 => ?_⟩⟩
    walk_at "nc hh"
    refine ⟨⟨hs, ps, fs⟩, rfl, okL, fun d2 h2 => ?_⟩
    have e : d1 = d2 := h1.one h2 fun x => by
      have e1 : barS b.p = barS ps := funext fun p => barS_perm hb.p p
      unfold within_
      simp only [List.mem_append, List.mem_filter, e1, hb.h.mem_iff, hb.f.mem_iff]
    subst e
    walk_at "nc hh"
    refine ne_same (d := d1) ?_ ?_ ?_ ?_
    · rcases h1 with ⟨_, rfl⟩ | ⟨_, _, _, _, rfl, _⟩ <;> rfl
    · rcases h1 with ⟨_, rfl⟩ | ⟨_, _, _, _, rfl, _⟩ <;> rfl
    · rcases h1 with ⟨_, rfl⟩ | ⟨_, _, _, _, rfl, _⟩ <;> rfl
    walk_at "nc hh"
    exact hnx _ rfl
  subst hP
  refine cut1 9 (fun x S' => ∃ (o : SO) (T : Store) (qs : List Sq), Urn (k + 80) o ∧ S' = some o :: T ∧ x = .lst (qs.map sqD) ∧ qs.length ≤ 30) (fun N' hrt hnx => ?_) (fun x S' hP => ?_)
  · walk_at "nc hh"
    refine ⟨by decide, by decide, fun j acc S' => ∃ (o : SO) (qs : List Sq), Urn (k + 40 + 2 * j) o ∧ S' = some o :: T ∧ acc = qs.map sqD ∧ qs.length = j, ⟨o, [], u, rfl, rfl, rfl⟩, fun _ _ _ _ => trivial, by rw [rangeD_len]; decide, ?_, ?_⟩
    · rintro j e acc S' he ⟨o1, qs, u1, rfl, rfl, len⟩
      obtain ⟨rfl, hj⟩ := range_at he
      have hj : j < 4 := by omega
      refine ⟨_, by unfold bindT; rfl, i_bYes ?_⟩
      rw [if_pos rfl]
      walk_at "nc hh"
      refine draw_of u1 (by omega) (by decide) (by decide) fun o2 a u2 a0 a1 => ?_
      walk_at "nc hh"
      refine draw_of u2 (by omega) (by decide) (by decide) fun o3 c u3 c0 c1 => ?_
      walk_at "nc hh"
      exact ⟨o3, qs ++ [(a - 1, c - 4)], u3.mono (by omega), rfl, by rw [List.map_append]; rfl, by simp; omega⟩
    · rintro acc S' ⟨o1, qs, u1, rfl, rfl, len⟩
      rw [rangeD_len] at u1 len
      have len : qs.length = 4 := len
      walk_at "nc hh"
      refine add_lst rfl rfl (small (by rw [List.length_map, List.length_map]; omega)) ?_
      rw [← List.map_append]
      walk_at "nc hh"
      refine add_lst rfl rfl (small (by rw [List.length_map, List.length_map, List.length_append]; omega)) ?_
      rw [← List.map_append]
      walk_at "nc hh"
      exact hnx _ _ ⟨o1, T, qs ++ ps ++ hs, u1.mono (by have : ((4 : Int) - 0).toNat = 4 := rfl; omega), rfl, rfl, by simp only [List.length_append]; omega⟩
  clear u
  obtain ⟨o, T, qs, u, rfl, rfl, ql⟩ := hP
  walk_at "nc hh"
  refine lc_ty (l := qs) (enc := sqD) (p := fun _ => false) (g := sqD) rfl (few (by omega)) (fun a ha => ⟨_, by unfold bindT; rfl, fun Q' q' => ?_, fun h => nomatch h⟩) ?_
  · walk_at "nc hh"
    refine i_eMethKX ?_
    walk_at "nc hh"
    refine ⟨bdF b, rfl, rfl, ?_⟩
    walk_at "nc hh"
    refine ⟨rfl, b, .lst [.int a.1, .int a.2], rfl, flat_L a, fun h => ?_, fun _ => ?_⟩
    · cases h
    walk_at "nc hh"
    refine ⟨_, a, ps, rfl, .inl rfl, ?_⟩
    walk_at "nc hh"
    have e : barS b.p (sqOf (drf (some o :: T) (.lst [.int a.1, .int a.2]))) = barS ps a := barS_perm hb.p a
    rw [e, decide_eq_true rfl]
    exact q'
  · rw [show qs.filter (fun _ => false) = [] from List.filter_eq_nil_iff.mpr (by simp)]
    walk_at "nc hh"
    refine eq_lnil (l := []) ?_
    walk_at "nc hh"
    exact q o T (u.mono (by omega))
end NC
set_option Elab.async false
set_option linter.all false
set_option maxRecDepth 100000
set_option maxHeartbeats 4000000
namespace NC
open PySem PySem.Spec PyProof.Rows L2
local macro_rules | `(tactic| walk_at "nc hs") => `(tactic| repeat (first | (with_reducible first | refine nes_same ?_ | refine eqs_same ?_ | refine iteT ?_ | refine iteF ?_ | refine iteNT ?_ | refine iteNF ?_) | (with_reducible first | refine i_sSeq ?_ | refine i_sIf ?_ | refine i_sNil ?_ | refine i_sRet ?_ | refine i_sAsg ?_ | refine i_sDrop ?_ | refine i_sPut ?_ | refine i_sPar ?_ | refine i_eC ?_ | refine i_eOp ?_ | refine i_eChain ?_ | refine i_eB ?_ | refine i_eUn ?_ | refine i_eTup ?_ | refine i_eLst ?_ | refine i_eLstM ?_ | refine i_eAnd ?_ | refine i_eOr ?_ | refine i_eNot ?_ | refine i_eIf ?_ | refine i_bOf ?_ | refine i_bAnd ?_ | refine i_bOr ?_ | refine i_bNot ?_ | refine i_bYes ?_ | refine i_aNil ?_ | refine i_aCons ?_ | refine i_eCall ?_ | refine i_eCallKw ?_ | refine i_eCut ?_ | refine i_oNone ?_ | refine i_oSome ?_ | refine i_eM ?_ | refine i_sSq ?_ | refine i_sRange1 ?_ | refine i_sRange2 ?_ | refine i_sEnum ?_ | refine i_eIsi ?_ | refine i_eIsi2 ?_ | refine i_eLc ?_ | refine i_eLcM ?_ | refine i_sFor ?_ | refine i_eDisp1 ?_ | refine i_bl ?_ | refine i_int ?_ | refine i_nm ?_ | refine i_one ?_ | refine i_two ?_ | refine i_rng ?_ | refine i_len0 ?_ | refine i_int1 ?_ | refine i_intb ?_ | refine i_abs ?_ | refine i_add ?_ | refine i_sub ?_ | refine i_lt ?_ | refine i_le ?_ | refine i_gt ?_ | refine i_ge ?_ | refine i_eqi ?_ | refine i_is ?_ | refine i_isn ?_ | refine i_nes ?_ | refine i_rbl ?_ | refine i_eCallX ?_ | refine i_eCallKwX ?_ | refine i_sRaiseF ?_ | refine i_eIsX ?_ | refine i_eFld ?_ | refine i_eDit1 ?_ | refine i_sTry ?_ | refine i_runX ?_ | refine i_ltU ?_ | refine i_isU ?_ | refine i_isnU ?_ | refine i_isS ?_ | refine i_isnS ?_ | refine i_isB ?_ | refine i_isnB ?_ | refine i_neg ?_ | refine i_eDcT ?_ | refine i_sPar3 ?_ | refine i_three ?_ | refine i_eFldU ?_ | refine i_eIsU ?_ | refine i_eFrzO ?_ | refine i_eMake ?_ | refine i_sFldP ?_ | refine i_eMeth ?_ | refine i_sWhile ?_ | refine i_aStar ?_ | refine i_eFn ?_ | refine i_sAsgL ?_ | refine i_sCont ?_ | refine i_sBrk ?_ | refine i_eDnT ?_ | refine i_eDnK ?_ | refine i_eDit1M ?_ | refine i_sDPutU ?_ | refine i_eListR2 ?_ | refine i_bool1 ?_ | refine i_eCName ?_ | refine i_sFlds ?_ | refine i_bTruL ?_ | refine i_eCutU ?_ | refine i_sStr ?_ | refine i_eJoined ?_ | refine i_dJs ?_ | refine i_dJn ?_ | refine i_eMakeX ?_ | refine i_eMethX ?_ | refine i_eFmt ?_ | refine i_eLc2 ?_ | refine i_sRng ?_ | refine i_sTryS ?_) | ((with_reducible refine i_eVarX ?_); refine ⟨_, rfl, ?_⟩) | ((with_reducible refine i_len1 ?_ ?_); · exact Nat.le_of_ble_eq_true rfl) | ((with_reducible first | refine i_ix0 ?_ | refine i_ix1 ?_ | refine i_ix2 ?_ | refine i_ix3 ?_); refine ⟨_, _, rfl, rfl, ?_⟩) | ((with_reducible refine i_tp ?_); refine ⟨_, by unfold bindT; rfl, ?_⟩) | ((with_reducible first | refine i_len ?_ | refine i_list ?_ | refine i_listU ?_ | refine i_tuple ?_ | refine i_sqE ?_); refine ⟨_, rfl, ?_⟩) | ((with_reducible refine i_modL ?_ ?_); · decide) | (with_reducible refine i_eqs ?_) | (with_reducible first | refine cl_power (by assumption) ?_ | refine cl_height (by assumption) ?_ | refine cl_origins (by assumption) ?_ | refine cl_lasted (by assumption) ?_ | refine cl_square (by assumption) ?_ | refine cl_turn (by assumption) ?_ | refine is_cl (by assumption) ?_ | refine st_wide (by assumption) ?_ | refine st_power (by assumption) ?_ | refine st_far (by assumption) ?_) | ((with_reducible refine i_kw ?_); refine ⟨rfl, rfl, ?_⟩)))
def wordsX (cs : Cs) : List (Str × Addr) := [("squares", cs.BadSquares), ("square", cs.BadSquare), ("board", cs.BadBoard), ("misfit", cs.Misfit)]
def b_law_heard (K : PySem.W.Frag) (cs : Cs) : AskD → Fnk → TSd := fun tl κ => (sSeq (sAsg (.nm 1) (eC .non))
    (sSeq (sTry K 5 NoX (fun ED => (sDrop (eAsk tl ED κ))) [⟨.ref cs.FlightError, some 4, (sAsg (.nm 1) (eVar 4))⟩])
    (sSeq (sFor (sSq (eTup (aCons (eTup (aCons (eC (.str "squares")) (aCons (eIsX K cs.BadSquares (eVar 1)) aNil))) (aCons (eTup (aCons (eC (.str "square")) (aCons (eIsX K cs.BadSquare (eVar 1)) aNil))) (aCons (eTup (aCons (eC (.str "board")) (aCons (eIsX K cs.BadBoard (eVar 1)) aNil))) (aCons (eTup (aCons (eC (.str "misfit")) (aCons (eIsX K cs.Misfit (eVar 1)) aNil))) aNil)))))) (.tp [(.nm 2), (.nm 3)])
    (sIf (bOf (eVar 3))
    (sRet (eTup (aCons (eVar 2) (aCons (eFld K "part" (eVar 1)) aNil))))
    sNil))
    (sRet (eIf (bOf (eOp rIsU (eVar 1) (eC .non))) (eC .non) (eTup (aCons (eC (.str "other")) (aCons (eC .non) aNil))))))))
theorem told_loop {K : PySem.W.Frag} {N : DN} {a c x2 x3 x4 : Option D} {its : List (Str × Bool)} {S : Store} {stays : Store → Prop} {pt : Str} (hs : stays S) (hl : its.length ≤ 100)
    (hf : (∃ w, (w, true) ∈ its) → ∀ (x2 x3 : Option D) (Q' : QD), Q' (.str pt) S → eFld K "part" (eVar 1) [a, c, x2, x3, x4] S Q') (h1 : ∀ w, (w, true) ∈ its → N.rt (.tup [.str w, .str pt]) S) (h2 : (∀ p ∈ its, p.2 = false) → ∀ x2 x3 : Option D, N.nx [a, c, x2, x3, x4] S) :
    For1 (.tp [(.nm 2), (.nm 3)]) (sIf (bOf (eVar 3)) (sRet (eTup (aCons (eVar 2) (aCons (eFld K "part" (eVar 1)) aNil)))) sNil) N [a, c, x2, x3, x4] (its.map fun p => .tup [.str p.1, .bl p.2]) stays S := by
  refine ⟨fun i ρ' S' => S' = S ∧ (∃ x2 x3 : Option D, ρ' = [a, c, x2, x3, x4]) ∧ ∀ p ∈ its.take i, p.2 = false, ⟨rfl, ⟨_, _, rfl⟩, fun p h => by cases h⟩, fun i ρ' S' h => by rw [h.1]; exact hs, ?_, ?_⟩
  · rintro i e ρ' S' he ⟨rfl, ⟨x2, x3, rfl⟩, hp⟩
    rw [List.getElem?_map] at he
    obtain ⟨⟨w, f⟩, hw, rfl⟩ := Option.map_eq_some_iff.mp he
    refine ⟨_, by unfold bindT; rfl, ?_⟩
    cases f with
    | true =>
      walk_at "nc hs"
      refine hf ⟨w, List.mem_of_getElem? hw⟩ _ _ _ ?_
      walk_at "nc hs"
      exact h1 w (List.mem_of_getElem? hw)
    | false =>
      walk_at "nc hs"
      refine ⟨rfl, ⟨_, _, rfl⟩, fun p h => ?_⟩
      rw [List.take_add_one, hw] at h
      rcases List.mem_append.mp h with h | h
      · exact hp p h
      · have : p = (w, false) := by simpa using h
        rw [this]
  · rintro ρ' S' ⟨rfl, ⟨x2, x3, rfl⟩, hp⟩
    rw [List.length_map, List.take_length] at hp
    exact h2 hp _ _
theorem heard_of {K : PySem.W.Frag} {cs : Cs} (kf : KF K cs) {te : XD → TD} {ρ : Rho} {S : Store} {Q : QD}
    (h : ∀ (so : SO) (E' : XD) (Q' : QD), (∀ (w pt : Str) (C : Addr) (S1 : Store), (w, C) ∈ wordsX cs → (∀ so, Q (told2 w pt) (S1 ++ [some so])) → E' (C, [("part", .str pt)]) S1) →
      (∀ d S1, Q .non S1 → Q' d S1) → te E' ρ (S ++ [some so]) Q') : eHear 5 (b_law_heard K cs) te ρ S Q := by
  intro κ hκ
  unfold b_law_heard
  walk_at "nc hs"
  refine ⟨by rw [hκ]; rfl, by rw [hκ]; exact at_end, h _ _ _ (fun w pt C S1 hC q => ?_) (fun d S1 q => ?_)⟩
  · simp only [wordsX, List.mem_cons, List.not_mem_nil, or_false, Prod.mk.injEq] at hC
    have get : ∀ C : Addr, (S1 ++ [some (SO.exc C [("part", D.str pt)])])[S1.length]? = some (some (.exc C [("part", .str pt)])) := fun C => at_end
    rcases hC with ⟨rfl, rfl⟩ | ⟨rfl, rfl⟩ | ⟨rfl, rfl⟩ | ⟨rfl, rfl⟩
    · refine ⟨true, kf.x_BadSquares_FlightError, fun _ => ?_, fun e => (nomatch e)⟩
      show sAsg (.nm 1) (eVar 4) _ _ _
      walk_at "nc hs"
      refine isx_exc (get _) kf.e_BadSquares kf.i_BadSquares_BadSquares ?_
      walk_at "nc hs"
      refine isx_exc (get _) kf.e_BadSquares kf.i_BadSquares_BadSquare ?_
      walk_at "nc hs"
      refine isx_exc (get _) kf.e_BadSquares kf.i_BadSquares_BadBoard ?_
      walk_at "nc hs"
      refine isx_exc (get _) kf.e_BadSquares kf.i_BadSquares_Misfit ?_
      walk_at "nc hs"
      refine told_loop (pt := pt) (its := [("squares", true), ("square", false), ("board", false), ("misfit", false)]) rfl (by decide) (fun hw x2 x3 Q' q' => ?_) (fun v hv => ?_) fun h => nomatch h ("squares", true) (by simp)
      · walk_at "nc hs"
        exact ⟨_, _, _, _, rfl, get _, kf.f_BadSquares, kf.o_BadSquares_part, rfl, q'⟩
      · have e : v = "squares" := by simpa using hv
        rw [e]
        exact q _
    · refine ⟨true, kf.x_BadSquare_FlightError, fun _ => ?_, fun e => (nomatch e)⟩
      show sAsg (.nm 1) (eVar 4) _ _ _
      walk_at "nc hs"
      refine isx_exc (get _) kf.e_BadSquare kf.i_BadSquare_BadSquares ?_
      walk_at "nc hs"
      refine isx_exc (get _) kf.e_BadSquare kf.i_BadSquare_BadSquare ?_
      walk_at "nc hs"
      refine isx_exc (get _) kf.e_BadSquare kf.i_BadSquare_BadBoard ?_
      walk_at "nc hs"
      refine isx_exc (get _) kf.e_BadSquare kf.i_BadSquare_Misfit ?_
      walk_at "nc hs"
      refine told_loop (pt := pt) (its := [("squares", false), ("square", true), ("board", false), ("misfit", false)]) rfl (by decide) (fun hw x2 x3 Q' q' => ?_) (fun v hv => ?_) fun h => nomatch h ("square", true) (by simp)
      · walk_at "nc hs"
        exact ⟨_, _, _, _, rfl, get _, kf.f_BadSquare, kf.o_BadSquare_part, rfl, q'⟩
      · have e : v = "square" := by simpa using hv
        rw [e]
        exact q _
    · refine ⟨true, kf.x_BadBoard_FlightError, fun _ => ?_, fun e => (nomatch e)⟩
      show sAsg (.nm 1) (eVar 4) _ _ _
      walk_at "nc hs"
      refine isx_exc (get _) kf.e_BadBoard kf.i_BadBoard_BadSquares ?_
      walk_at "nc hs"
      refine isx_exc (get _) kf.e_BadBoard kf.i_BadBoard_BadSquare ?_
      walk_at "nc hs"
      refine isx_exc (get _) kf.e_BadBoard kf.i_BadBoard_BadBoard ?_
      walk_at "nc hs"
      refine isx_exc (get _) kf.e_BadBoard kf.i_BadBoard_Misfit ?_
      walk_at "nc hs"
      refine told_loop (pt := pt) (its := [("squares", false), ("square", false), ("board", true), ("misfit", false)]) rfl (by decide) (fun hw x2 x3 Q' q' => ?_) (fun v hv => ?_) fun h => nomatch h ("board", true) (by simp)
      · walk_at "nc hs"
        exact ⟨_, _, _, _, rfl, get _, kf.f_BadBoard, kf.o_BadBoard_part, rfl, q'⟩
      · have e : v = "board" := by simpa using hv
        rw [e]
        exact q _
    · refine ⟨true, kf.x_Misfit_FlightError, fun _ => ?_, fun e => (nomatch e)⟩
      show sAsg (.nm 1) (eVar 4) _ _ _
      walk_at "nc hs"
      refine isx_exc (get _) kf.e_Misfit kf.i_Misfit_BadSquares ?_
      walk_at "nc hs"
      refine isx_exc (get _) kf.e_Misfit kf.i_Misfit_BadSquare ?_
      walk_at "nc hs"
      refine isx_exc (get _) kf.e_Misfit kf.i_Misfit_BadBoard ?_
      walk_at "nc hs"
      refine isx_exc (get _) kf.e_Misfit kf.i_Misfit_Misfit ?_
      walk_at "nc hs"
      refine told_loop (pt := pt) (its := [("squares", false), ("square", false), ("board", false), ("misfit", true)]) rfl (by decide) (fun hw x2 x3 Q' q' => ?_) (fun v hv => ?_) fun h => nomatch h ("misfit", true) (by simp)
      · walk_at "nc hs"
        exact ⟨_, _, _, _, rfl, get _, kf.f_Misfit, kf.o_Misfit_part, rfl, q'⟩
      · have e : v = "misfit" := by simpa using hv
        rw [e]
        exact q _
  · walk_at "nc hs"
    refine isx_non kf.n_BadSquares ?_
    walk_at "nc hs"
    refine isx_non kf.n_BadSquare ?_
    walk_at "nc hs"
    refine isx_non kf.n_BadBoard ?_
    walk_at "nc hs"
    refine isx_non kf.n_Misfit ?_
    walk_at "nc hs"
    refine told_loop (pt := "") (its := [("squares", false), ("square", false), ("board", false), ("misfit", false)]) rfl (by decide) (fun hw x2 x3 Q' q' => ?_) (fun v hv => ?_) fun h x2 x3 => ?_
    · obtain ⟨w, hw⟩ := hw
      simp at hw
    · simp at hv
    · walk_at "nc hs"
      exact q
end NC
set_option Elab.async false
set_option linter.all false
set_option maxRecDepth 100000
set_option maxHeartbeats 4000000
namespace NC
open PySem PySem.Spec PyProof.Rows L2
local macro_rules | `(tactic| walk_at "nc hh") => `(tactic| repeat (first | (with_reducible first | refine nes_same ?_ | refine eqs_same ?_ | refine iteT ?_ | refine iteF ?_ | refine iteNT ?_ | refine iteNF ?_) | (with_reducible first | refine i_sIf ?_ | refine i_sNil ?_ | refine i_sRet ?_ | refine i_sAsg ?_ | refine i_sDrop ?_ | refine i_sPut ?_ | refine i_sPar ?_ | refine i_eC ?_ | refine i_eOp ?_ | refine i_eChain ?_ | refine i_eB ?_ | refine i_eUn ?_ | refine i_eTup ?_ | refine i_eLst ?_ | refine i_eLstM ?_ | refine i_eAnd ?_ | refine i_eOr ?_ | refine i_eNot ?_ | refine i_eIf ?_ | refine i_bOf ?_ | refine i_bAnd ?_ | refine i_bOr ?_ | refine i_bNot ?_ | refine i_bYes ?_ | refine i_aNil ?_ | refine i_aCons ?_ | refine i_eCall ?_ | refine i_eCallKw ?_ | refine i_eCut ?_ | refine i_oNone ?_ | refine i_oSome ?_ | refine i_eM ?_ | refine i_sSq ?_ | refine i_sRange1 ?_ | refine i_sRange2 ?_ | refine i_sEnum ?_ | refine i_eIsi ?_ | refine i_eIsi2 ?_ | refine i_eLc ?_ | refine i_eLcM ?_ | refine i_sFor ?_ | refine i_eDisp1 ?_ | refine i_bl ?_ | refine i_int ?_ | refine i_nm ?_ | refine i_one ?_ | refine i_two ?_ | refine i_rng ?_ | refine i_len0 ?_ | refine i_int1 ?_ | refine i_intb ?_ | refine i_abs ?_ | refine i_add ?_ | refine i_sub ?_ | refine i_lt ?_ | refine i_le ?_ | refine i_gt ?_ | refine i_ge ?_ | refine i_eqi ?_ | refine i_is ?_ | refine i_isn ?_ | refine i_nes ?_ | refine i_rbl ?_ | refine i_eCallX ?_ | refine i_eCallKwX ?_ | refine i_sRaiseF ?_ | refine i_eIsX ?_ | refine i_eFld ?_ | refine i_eDit1 ?_ | refine i_sTry ?_ | refine i_runX ?_ | refine i_ltU ?_ | refine i_isU ?_ | refine i_isnU ?_ | refine i_isS ?_ | refine i_isnS ?_ | refine i_isB ?_ | refine i_isnB ?_ | refine i_neg ?_ | refine i_eDcT ?_ | refine i_sPar3 ?_ | refine i_three ?_ | refine i_eFldU ?_ | refine i_eIsU ?_ | refine i_eFrzO ?_ | refine i_eMake ?_ | refine i_sFldP ?_ | refine i_eMeth ?_ | refine i_sWhile ?_ | refine i_aStar ?_ | refine i_eFn ?_ | refine i_sAsgL ?_ | refine i_sCont ?_ | refine i_sBrk ?_ | refine i_eDnT ?_ | refine i_eDnK ?_ | refine i_eDit1M ?_ | refine i_sDPutU ?_ | refine i_eListR2 ?_ | refine i_bool1 ?_ | refine i_eCName ?_ | refine i_sFlds ?_ | refine i_bTruL ?_ | refine i_eCutU ?_ | refine i_sStr ?_ | refine i_eJoined ?_ | refine i_dJs ?_ | refine i_dJn ?_ | refine i_eMakeX ?_ | refine i_eMethX ?_ | refine i_eFmt ?_ | refine i_eLc2 ?_ | refine i_sRng ?_ | refine i_sTryS ?_) | ((with_reducible refine i_eVarX ?_); refine ⟨_, rfl, ?_⟩) | ((with_reducible refine i_len1 ?_ ?_); · exact Nat.le_of_ble_eq_true rfl) | ((with_reducible first | refine i_ix0 ?_ | refine i_ix1 ?_ | refine i_ix2 ?_ | refine i_ix3 ?_); refine ⟨_, _, rfl, rfl, ?_⟩) | ((with_reducible refine i_tp ?_); refine ⟨_, by unfold bindT; rfl, ?_⟩) | ((with_reducible first | refine i_len ?_ | refine i_list ?_ | refine i_listU ?_ | refine i_tuple ?_ | refine i_sqE ?_); refine ⟨_, rfl, ?_⟩) | ((with_reducible refine i_modL ?_ ?_); · decide) | (with_reducible refine i_eqs ?_) | (with_reducible first | refine cl_power (by assumption) ?_ | refine cl_height (by assumption) ?_ | refine cl_origins (by assumption) ?_ | refine cl_lasted (by assumption) ?_ | refine cl_square (by assumption) ?_ | refine cl_turn (by assumption) ?_ | refine is_cl (by assumption) ?_ | refine st_wide (by assumption) ?_ | refine st_power (by assumption) ?_ | refine st_far (by assumption) ?_) | ((with_reducible refine i_kw ?_); refine ⟨rfl, rfl, ?_⟩)))
def r_law_fits_right (cs : Cs) : RDs := fun xs S Q => ∃ (k : Nat) (o : SO) (T : Store), xs = [.ref 0] ∧ S = some o :: T ∧ Urn k o ∧ k < 600000 ∧ ∀ (o' : SO) (T' : Store), Urn (k + 100) o' → Q (.bl true) (some o' :: T')
def b_law_fits_right (K : PySem.W.Frag) (cs : Cs) : TSd := (sSeq (sAsg (.tp [(.nm 1), (.nm 2), (.nm 3)]) (eCall r_law_board (aCons (eVar 0) (aCons (eC (.int 4)) (aCons (eC (.int 5)) (aCons (eC (.int 5)) aNil))))))
    (sSeq (sAsg (.nm 4) (eFrzO (eMakeX K (r_Board_init cs) cs.Board NoX (aCons (eVar 1) (aCons (eVar 2) (aCons (eVar 3) aNil))))))
    (sSeq (sAsg (.nm 5) (eOp rAdd (eVar 1) (eLc (sSq (eVar 3)) (.nm 9) (bAnd (bOf (eOp rGe (eOp rIxU (eVar 9) (eC (.int 0))) (eC (.int 0)))) (bAnd (bNot (bOf (eCall r_law_barred (aCons (eVar 2) (aCons (eVar 9) aNil))))) (bOf (eOp rNiU (eVar 9) (eVar 1))))) (eVar 9) [9])))
    (sSeq (sAsg (.nm 6) (eLstM (aCons (eTup (aCons (eVar 5) (aCons (eC (.bl true)) aNil))) (aCons (eTup (aCons (eOp rAdd (eUn rRev (eVar 5)) (eLst (aCons (eTup (aCons (eC (.int 9)) (aCons (eUn rNeg (eC (.int 9))) aNil))) aNil))) (aCons (eC (.bl true)) aNil))) (aCons (eTup (aCons (eOp rAdd (eVar 5) (eLst (aCons (eTup (aCons (eC (.int 0)) (aCons (eC (.int 0)) aNil))) aNil))) (aCons (eC (.bl false)) aNil))) (aCons (eTup (aCons (eOp rAdd (eVar 5) (eLst (aCons (eTup (aCons (eC (.int 0)) (aCons (eUn rNeg (eCall r_law_draw (aCons (eVar 0) (aCons (eC (.int 9)) aNil)))) aNil))) aNil))) (aCons (eC (.bl false)) aNil))) (aCons (eTup (aCons (eVar 1) (aCons (eC (.bl true)) aNil))) aNil)))))))
    (sSeq (sDrop (eM "list" rExtU (eVar 6) (aCons (eLc (sSq (eVar 2)) (.nm 9) (bAnd (bOf (eOp rGe (eOp rIxU (eVar 9) (eC (.int 0))) (eC (.int 0)))) (bOf (eOp rNiU (eVar 9) (eVar 5)))) (eTup (aCons (eOp rAdd (eVar 5) (eLst (aCons (eVar 9) aNil))) (aCons (eC (.bl false)) aNil))) [9]) aNil)))
    (sSeq (sDrop (eM "list" rExtU (eVar 6) (aCons (eLc (sSq (eVar 1)) (.nm 9) bYes (eTup (aCons (eLc (sSq (eVar 5)) (.nm 10) (bOf (eOp rNe3 (eVar 10) (eVar 9))) (eVar 10) [10]) (aCons (eC (.bl false)) aNil))) [9]) aNil)))
    (sSeq (sFor (sSq (eVar 6)) (.tp [(.nm 7), (.nm 8)])
    (sIf (bOf (eOp rNe3 (eB rRepr (aCons (eCallX (r_fits cs) NoX (aCons (eVar 4) (aCons (eVar 7) aNil))) aNil)) (eB rRepr (aCons (eVar 8) aNil))))
    (sRet (eC (.bl false)))
    sNil))
    (sRet (eOp rEq3 (eHear 5 (b_law_heard K cs) (fun ED => (eCallX (r_fits cs) ED (aCons (eVar 4) (aCons (eOp rAdd (eVar 5) (eLst (aCons (eTup (aCons (eUn rNeg (eC (.int 1))) (aCons (eC (.int 4)) aNil))) aNil))) aNil))))) (eTup (aCons (eC (.str "misfit")) (aCons (eC (.str "wall")) aNil))))))))))))
theorem len_law_fits_right (cs : Cs) (xs : List D) (S : Store) (Q : QD) (h : r_law_fits_right cs xs S Q) : xs.length = 1 := by obtain ⟨_, _, _, rfl, _⟩ := h; rfl
theorem fitS_perm {hs ps hs' ps' ws : List Sq} (h : hs.Perm hs') (h' : ps.Perm ps') : fitS hs ps ws = fitS hs' ps' ws := by
  unfold fitS
  rw [h.all_eq, show (fun p => barS ps p) = fun p => barS ps' p from funext fun p => barS_perm h' p]
structure AskOk (hs ps : List Sq) (a : List Sq × Bool) : Prop where
  n : a.1.Nodup
  l : a.1.length ≤ 20
  f : leftS a.1 = false
  e : fitS hs ps a.1 = a.2
def encA (a : List Sq × Bool) : D := .tup [.lst (a.1.map sqD), .bl a.2]
structure WallOk (hs ps w : List Sq) : Prop where
  n : w.Nodup
  l : w.length ≤ 12
  hs : ∀ p ∈ hs, p ∈ w
  b : ∀ p ∈ w, 0 ≤ p.1 ∧ p.1 ≤ 4 ∧ barS ps p = false
theorem left_of {w : List Sq} (h : ∀ p ∈ w, 0 ≤ p.1) : leftS w = false := List.any_eq_false.mpr fun p hp => by
  have := h p hp
  simp only [decide_eq_true_eq]
  omega
theorem fit_yes {hs ps w : List Sq} (h : ∀ p ∈ hs, p ∈ w) (b : ∀ p ∈ w, barS ps p = false) : fitS hs ps w = true := by
  unfold fitS
  rw [List.all_eq_true.mpr fun p hp => decide_eq_true (h p hp), List.any_eq_false.mpr fun p hp => by rw [b p hp]; decide]
  rfl
theorem fit_bar {hs ps w : List Sq} {q : Sq} (hq : q ∈ w) (b : barS ps q = true) : fitS hs ps w = false := by
  unfold fitS
  rw [List.any_eq_true.mpr ⟨q, hq, b⟩]
  simp
theorem fit_lack {hs ps w : List Sq} {q : Sq} (hq : q ∈ hs) (b : q ∉ w) : fitS hs ps w = false := by
  unfold fitS
  rw [show (hs.all fun p => decide (p ∈ w)) = false from List.all_eq_false.mpr ⟨q, hq, by simp [b]⟩]
  rfl
section
variable {hs ps fs w : List Sq}
theorem ask_w (h : WallOk hs ps w) : AskOk hs ps (w, true) := ⟨h.n, by have := h.l; simp only; omega, left_of fun p hp => (h.b p hp).1, fit_yes h.hs fun p hp => (h.b p hp).2.2⟩
theorem ask_more (h : WallOk hs ps w) {q : Sq} (hq : q ∉ w) (q0 : 0 ≤ q.1) (b : barS ps q = true) : AskOk hs ps (w ++ [q], false) := by
  have a := add_one (P := fun p => 0 ≤ p.1) ⟨h.n, h.l, fun p hp => (h.b p hp).1⟩ q0 hq
  exact ⟨a.1, by have := a.2.1; simp only; omega, left_of a.2.2, fit_bar (List.mem_append_right _ (List.mem_singleton.mpr rfl)) b⟩
theorem bar_ni (h : WallOk hs ps w) {q : Sq} (b : barS ps q = true) : q ∉ w := fun hm => by
  rw [(h.b q hm).2.2] at b
  cases b
theorem ask_far (d : Drn hs ps fs) (h : WallOk hs ps w) : AskOk hs ps (w.reverse ++ [(9, -9)], true) := by
  have ni : ((9 : Int), (-9 : Int)) ∉ w := fun hm => by
    have := (h.b _ hm).2.1
    simp only at this
    omega
  have a := add_one (P := fun p => 0 ≤ p.1 ∧ barS ps p = false) (n := 12) ⟨(List.reverse_perm w).nodup_iff.mpr h.n, by rw [List.length_reverse]; exact h.l, fun p hp => by
    have := h.b p ((List.reverse_perm w).mem_iff.mp hp)
    exact ⟨this.1, this.2.2⟩⟩ (r := (9, -9)) ⟨by decide, by
      unfold barS
      have : ((9 : Int), (-9 : Int)) ∉ ps := fun hm => by
        have := (d.pb _ hm).2.1
        simp only at this
        omega
      rw [decide_eq_false this]
      rfl⟩ (fun hm => ni ((List.reverse_perm w).mem_iff.mp hm))
  exact ⟨a.1, by have := a.2.1; simp only; omega, left_of fun p hp => (a.2.2 p hp).1, fit_yes (fun p hp => List.mem_append_left _ ((List.reverse_perm w).mem_iff.mpr (h.hs p hp))) fun p hp => (a.2.2 p hp).2⟩
theorem ask_held (d : Drn hs ps fs) : AskOk hs ps (hs, true) := ⟨d.hn, by have := d.hl; simp only; omega, left_of fun p hp => (d.hb p hp).1.1, fit_yes (fun p hp => hp) fun p hp => (d.hb p hp).2⟩
theorem ask_less (h : WallOk hs ps w) {q : Sq} (hq : q ∈ hs) : AskOk hs ps (w.filter fun e => !decide (e = q), false) := by
  refine ⟨h.n.filter _, ?_, left_of fun p hp => (h.b p (List.mem_filter.mp hp).1).1, fit_lack hq fun hm => ?_⟩
  · have := List.length_filter_le (fun e => !decide (e = q)) w
    have := h.l
    simp only
    omega
  · have := (List.mem_filter.mp hm).2
    simp at this
theorem wall_ok (d : Drn hs ps fs) : WallOk hs ps (hs ++ fs.filter fun q => decide (0 ≤ q.1) && (!barS ps q && !decide (q ∈ hs))) := by
  refine ⟨List.nodup_append.mpr ⟨d.hn, d.fn.filter _, fun p hp q hq e => ?_⟩, ?_, fun p hp => List.mem_append_left _ hp, fun p hp => ?_⟩
  · have := (List.mem_filter.mp hq).2
    rw [← e] at this
    simp [hp] at this
  · have := List.length_filter_le (fun q => decide (0 ≤ q.1) && (!barS ps q && !decide (q ∈ hs))) fs
    have := d.hl
    have := d.fl
    rw [List.length_append]
    omega
  · rcases List.mem_append.mp hp with hp | hp
    · obtain ⟨⟨h1, h2, _⟩, h3⟩ := d.hb p hp
      exact ⟨h1, h2, h3⟩
    · obtain ⟨h1, h2⟩ := List.mem_filter.mp hp
      have := (d.fb p h1).2.1
      simp only [Bool.and_eq_true, decide_eq_true_eq, Bool.not_eq_true'] at h2
      exact ⟨h2.1, this, h2.2.1⟩
end
theorem run_law_fits_right {K : PySem.W.Frag} {cs : Cs} (kf : KF K cs) (xs : List D) (S : Store) (Q : QD) (h : r_law_fits_right cs xs S Q) : runD 11 (b_law_fits_right K cs) xs S Q := by
  obtain ⟨k, o, T, rfl, rfl, u, hk, q⟩ := h
  refine i_runD ?_
  unfold b_law_fits_right
  refine cut (fun ρ' S' => ∃ (o : SO) (T : Store) (hs ps fs : List Sq), Urn (k + 40) o ∧ Drn hs ps fs ∧ S' = some o :: T ∧
    ρ' = [some (.ref 0), some (.lst (hs.map sqD)), some (.lst (ps.map sqD)), some (.lst (fs.map sqD)), none, none, none, none, none, none, none]) (fun N' hrt hnx => ?_) (fun ρ' S' hP => ?_)
  · walk_at "nc hh"
    refine ⟨k, o, T, 5, 5, rfl, rfl, u, by omega, by decide, by decide, by decide, by decide, fun o' T' hs ps fs u' g d => ?_⟩
    walk_at "nc hh"
    exact hnx _ _ ⟨o', T', hs, ps, fs, u', d, rfl, rfl⟩
  clear u
  obtain ⟨o, T, hs, ps, fs, u, d, rfl, rfl⟩ := hP
  have hl := d.hl
  have pl := d.pl
  have fl := d.fl
  obtain ⟨b, hb⟩ := bd_ex hs ps fs
  have mis := drn_mis d
  have ok : BdOk b := ⟨by rw [hb.h.length_eq]; omega, by rw [hb.p.length_eq]; omega, by rw [hb.f.length_eq]; omega, hb.p.nodup_iff.mpr d.pn⟩
  have LQ : ∀ (S : Store) (d : D) (ps : List Sq), (d = .lst (ps.map sqD) ∨ d = .tup (ps.map sqD)) → ps.length ≤ 50 → ps.Nodup → LotQ S d ps := fun S d ps e hl hn => lotQ_row e (.inl rfl) (by omega) hn
  refine cut1 4 (fun x S' => ∃ T', S' = some o :: T' ∧ x = bdD cs b) (fun N' hrt hnx => ?_) (fun x S' hP => ?_)
  · walk_at "nc hh"
    refine make_ok kf b hb (fun S' g => LQ S' _ _ (.inl rfl) (by omega) d.hn) (fun S' g => LQ S' _ _ (.inl rfl) (by omega) d.pn) (fun S' g => LQ S' _ _ (.inl rfl) (by omega) d.fn) mis fun S1 g1 => ?_
    obtain ⟨T', rfl, _⟩ := grow_head g1
    walk_at "nc hh"
    exact hnx _ _ ⟨T', rfl, rfl⟩
  obtain ⟨T, rfl, rfl⟩ := hP
  have W := wall_ok d
  refine cut1 5 (fun x S' => S' = some o :: T ∧ x = .lst ((hs ++ fs.filter fun q => decide (0 ≤ q.1) && (!barS ps q && !decide (q ∈ hs))).map sqD)) (fun N' hrt hnx => ?_) (fun x S' hP => ?_)
  · walk_at "nc hh"
    refine lc_ty (l := fs) (enc := sqD) (p := fun q => decide (0 ≤ q.1) && (!barS ps q && !decide (q ∈ hs))) (g := sqD) rfl (few (by omega)) (fun a ha => ⟨_, by unfold bindT; rfl, fun Q' q' => ?_, fun _ Q' q' => ?_⟩) ?_
    · walk_at "nc hh"
      cases h1 : decide (0 ≤ a.1) with
      | false =>
        rw [h1, Bool.false_and] at q'
        walk_at "nc hh"
        exact q'
      | true =>
        rw [h1, Bool.true_and] at q'
        walk_at "nc hh"
        refine ⟨_, a, ps, rfl, .inl rfl, ?_⟩
        cases h2 : barS ps a with
        | true =>
          rw [h2] at q'
          walk_at "nc hh"
          exact q'
        | false =>
          rw [h2] at q'
          walk_at "nc hh"
          refine niU_sq (p := a) (ps := hs) rfl ?_
          walk_at "nc hh"
          exact q'
    · walk_at "nc hh"
      exact q'
    walk_at "nc hh"
    have f1 : ∀ p : Sq → Bool, (fs.filter p).length ≤ 8 := fun p => Nat.le_trans (List.length_filter_le _ _) fl
    refine add_lst rfl rfl (small (by rw [List.length_map, List.length_map]; exact Nat.le_trans (Nat.add_le_add hl (f1 _)) (by decide))) ?_
    walk_at "nc hh"
    exact hnx _ _ ⟨rfl, by rw [List.map_append]⟩
  obtain ⟨rfl, rfl⟩ := hP
  generalize (hs ++ fs.filter fun q => decide (0 ≤ q.1) && (!barS ps q && !decide (q ∈ hs))) = w at W
  have wl := W.l
  refine cut1 6 (fun x S' => ∃ (o : SO) (T : Store) (n : Nat) (as : List (List Sq × Bool)), Urn (k + 41) o ∧ S' = some o :: T ∧ x = .ref n ∧ 0 < n ∧ S'[n]? = some (some (.lst (as.map encA))) ∧ (∀ a ∈ as, AskOk hs ps a) ∧ as.length = 5) (fun N' hrt hnx => ?_) (fun x S' hP => ?_)
  · walk_at "nc hh"
    refine rev_sq ?_
    walk_at "nc hh"
    refine add_lst (b := [sqD (9, -9)]) rfl rfl (small (by rw [List.length_map, List.length_reverse]; simp; omega)) ?_
    walk_at "nc hh"
    refine ⟨small (by rw [List.length_map]; show w.length + 1 ≤ 1000; omega), ?_⟩
    walk_at "nc hh"
    refine draw_of u (by omega) (by decide) (by decide) fun o1 c u1 c0 c1 => ?_
    walk_at "nc hh"
    refine ⟨small (by rw [List.length_map]; show w.length + 1 ≤ 1000; omega), ?_⟩
    walk_at "nc hh"
    have b0 : barS ps (0, 0) = true := by unfold barS; simp
    have bc : barS ps (0, -c) = true := by
      unfold barS
      have : (-c : Int) ≤ 0 := by omega
      simp [this]
    refine hnx _ _ ⟨o1, _, _, [(w, true), (w.reverse ++ [(9, -9)], true), (w ++ [(0, 0)], false), (w ++ [(0, -c)], false), (hs, true)], u1, rfl, rfl, Nat.succ_pos _, ?_, fun a ha => ?_, rfl⟩
    · rw [at_end]
      unfold encA
      simp only [List.map_cons, List.map_nil, List.map_append]
      rfl
    · simp only [List.mem_cons, List.not_mem_nil, or_false] at ha
      rcases ha with rfl | rfl | rfl | rfl | rfl
      · exact ask_w W
      · exact ask_far d W
      · exact ask_more W (bar_ni W b0) (by decide) b0
      · exact ask_more W (bar_ni W bc) (Int.le_refl 0) bc
      · exact ask_held d
  clear u
  obtain ⟨o, T, n, as, u, rfl, rfl, n0, hn, ao, al⟩ := hP
  refine cut0 (fun S' => ∃ (T : Store) (as : List (List Sq × Bool)), S' = some o :: T ∧ S'[n]? = some (some (.lst (as.map encA))) ∧ (∀ a ∈ as, AskOk hs ps a) ∧ as.length ≤ 8) (fun N' hrt hnx => ?_) (fun S' hP => ?_)
  · walk_at "nc hh"
    refine ⟨by rw [drf_ref hn]; trivial, ?_⟩
    walk_at "nc hh"
    refine lc_ty (l := ps) (enc := sqD) (p := fun q => decide (0 ≤ q.1) && !decide (q ∈ w)) (g := fun q => encA (w ++ [q], false)) rfl (few (by omega)) (fun a ha => ⟨_, by unfold bindT; rfl, fun Q' q' => ?_, fun _ Q' q' => ?_⟩) ?_
    · walk_at "nc hh"
      cases h1 : decide (0 ≤ a.1) with
      | false =>
        rw [h1, Bool.false_and] at q'
        walk_at "nc hh"
        exact q'
      | true =>
        rw [h1, Bool.true_and] at q'
        walk_at "nc hh"
        refine niU_sq (p := a) (ps := w) rfl ?_
        walk_at "nc hh"
        exact q'
    · walk_at "nc hh"
      refine add_lst (b := [sqD a]) rfl rfl (small (by rw [List.length_map]; simp; omega)) ?_
      walk_at "nc hh"
      rw [show D.lst (w.map sqD ++ [sqD a]) = .lst ((w ++ [a]).map sqD) by rw [List.map_append]; rfl]
      exact q'
    · walk_at "nc hh"
      have pl1 : ∀ p : Sq → Bool, (ps.filter p).length ≤ 3 := fun p => Nat.le_trans (List.length_filter_le _ _) pl
      refine i_mext ⟨n, as.map encA, _, rfl, hn, rfl, by rw [List.length_map, List.length_map, al]; exact Nat.le_trans (Nat.add_le_add_left (pl1 _) _) (by decide), ?_⟩
      obtain ⟨n', rfl⟩ : ∃ n', n = n' + 1 := by
        cases n with
        | zero => exact absurd n0 (by decide)
        | succ n => exact ⟨n, rfl⟩
      refine hnx _ ⟨_, as ++ (ps.filter fun q => decide (0 ≤ q.1) && !decide (q ∈ w)).map fun q => (w ++ [q], false), rfl, ?_, fun a ha => ?_, ?_⟩
      · rw [set_get hn, List.map_append, List.map_map]
        rfl
      · rcases List.mem_append.mp ha with ha | ha
        · exact ao a ha
        · obtain ⟨p, hp, rfl⟩ := List.mem_map.mp ha
          obtain ⟨h1, h2⟩ := List.mem_filter.mp hp
          simp only [Bool.and_eq_true, decide_eq_true_eq, Bool.not_eq_true', decide_eq_false_iff_not] at h2
          exact ask_more W h2.2 h2.1 (by unfold barS; rw [decide_eq_true h1]; rfl)
      · rw [List.length_append, List.length_map, al]
        exact Nat.add_le_add_left (pl1 _) 5
  obtain ⟨T, as, rfl, hn, ao, al⟩ := hP
  refine cut0 (fun S' => ∃ (T : Store) (as : List (List Sq × Bool)), S' = some o :: T ∧ S'[n]? = some (some (.lst (as.map encA))) ∧ (∀ a ∈ as, AskOk hs ps a) ∧ as.length ≤ 10) (fun N' hrt hnx => ?_) (fun S' hP => ?_)
  · walk_at "nc hh"
    refine ⟨by rw [drf_ref hn]; trivial, ?_⟩
    walk_at "nc hh"
    refine lc_each (l := hs) (enc := sqD) (g := fun q => encA (w.filter fun e => !decide (e = q), false)) rfl (few (by omega)) (fun a ha => ⟨_, by unfold bindT; rfl, fun Q' q' => ?_⟩) ?_
    · walk_at "nc hh"
      refine lc_ty (l := w) (enc := sqD) (p := fun e => !decide (e = a)) (g := sqD) rfl (few (by omega)) (fun e he => ⟨_, by unfold bindT; rfl, fun Q' q' => ?_, fun _ Q' q' => ?_⟩) ?_
      · walk_at "nc hh"
        refine ne_dat rfl rfl ?_
        rw [show eqd (drf (some o :: T) (sqD e)) (drf (some o :: T) (sqD a)) = decide (e = a) from eqd_sq e a]
        walk_at "nc hh"
        exact q'
      · walk_at "nc hh"
        exact q'
      · walk_at "nc hh"
        exact q'
    · walk_at "nc hh"
      refine i_mext ⟨n, as.map encA, _, rfl, hn, rfl, by rw [List.length_map, List.length_map]; omega, ?_⟩
      obtain ⟨n', rfl⟩ : ∃ n', n = n' + 1 := by
        cases n with
        | zero => exact absurd n0 (by decide)
        | succ n => exact ⟨n, rfl⟩
      refine hnx _ ⟨_, as ++ hs.map fun q => (w.filter fun e => !decide (e = q), false), rfl, ?_, fun a ha => ?_, ?_⟩
      · rw [set_get hn, List.map_append, List.map_map]
        rfl
      · rcases List.mem_append.mp ha with ha | ha
        · exact ao a ha
        · obtain ⟨p, hp, rfl⟩ := List.mem_map.mp ha
          exact ask_less W hp
      · rw [List.length_append, List.length_map]
        omega
  obtain ⟨T, as, rfl, hn, ao, al⟩ := hP
  refine cut (fun ρ' S' => S' = some o :: T ∧ ∃ x7 x8 x9 x10 : Option D, ρ' = [some (.ref 0), some (.lst (hs.map sqD)), some (.lst (ps.map sqD)), some (.lst (fs.map sqD)), some (bdD cs b), some (.lst (w.map sqD)), some (.ref n), x7, x8, x9, x10]) (fun N' hrt hnx => ?_) (fun ρ' S' hP => ?_)
  · walk_at "nc hh"
    refine ⟨_, drf_seq hn, fun i ρ' S' => S' = some o :: T ∧ ∃ x7 x8 x9 x10 : Option D, ρ' = [some (.ref 0), some (.lst (hs.map sqD)), some (.lst (ps.map sqD)), some (.lst (fs.map sqD)), some (bdD cs b), some (.lst (w.map sqD)), some (.ref n), x7, x8, x9, x10],
      ⟨rfl, _, _, _, _, rfl⟩, fun _ _ _ h => by rw [h.1], ?_, ?_⟩
    · rintro i e ρ' S' he ⟨rfl, x7, x8, x9, x10, rfl⟩
      rw [List.getElem?_map] at he
      obtain ⟨⟨ls, f⟩, ha, rfl⟩ := Option.map_eq_some_iff.mp he
      have A := ao _ (List.mem_of_getElem? ha)
      have al := A.l
      refine ⟨_, by unfold encA bindT; rfl, ?_⟩
      walk_at "nc hh"
      obtain ⟨e, le, ae, se⟩ := LQ (some o :: T) (.lst (ls.map sqD)) ls (.inl rfl) (by simp only at al; omega) A.n
      refine ⟨_, _, rfl, .inr ⟨b, rfl, ok, e, le, fun z => ?_, fun _ z => ?_, fun _ _ => ?_⟩⟩
      · rw [ae] at z; cases z
      · rw [se, A.f] at z; cases z
      rw [se, fitS_perm hb.h hb.p, A.e]
      walk_at "nc hh"
      exact ⟨rfl, _, _, _, _, rfl⟩
    · rintro ρ' S' ⟨rfl, x7, x8, x9, x10, rfl⟩
      exact hnx _ _ ⟨rfl, _, _, _, _, rfl⟩
  obtain ⟨rfl, x7, x8, x9, x10, rfl⟩ := hP
  walk_at "nc hh"
  have ni : ((-1 : Int), (4 : Int)) ∉ w := fun hm => by
    have := (W.b _ hm).1
    simp only at this
    omega
  have nd := (add_one (P := fun _ => True) (n := 12) ⟨W.n, W.l, fun _ _ => trivial⟩ trivial ni).1
  refine heard_of kf fun so E' Q' hE hQ => ?_
  walk_at "nc hh"
  refine add_lst (b := [sqD (-1, 4)]) rfl rfl (small (by rw [List.length_map]; show w.length + 1 ≤ 1000; omega)) ?_
  walk_at "nc hh"
  obtain ⟨e, le, ae, se⟩ := LQ (some o :: T ++ [some so]) (.lst (w.map sqD ++ [sqD (-1, 4)])) (w ++ [(-1, 4)]) (.inl (by rw [List.map_append]; rfl)) (by simp; omega) nd
  have lf : leftS (w ++ [(-1, 4)]) = true := by
    unfold leftS
    exact List.any_eq_true.mpr ⟨(-1, 4), by simp, by decide⟩
  refine ⟨_, _, rfl, .inr ⟨b, rfl, ok, e, le, fun z => ?_, fun _ z => ?_, fun _ z => ?_⟩⟩
  · rw [ae] at z; cases z
  · refine hE "misfit" "wall" _ _ (by simp [wordsX]) fun so2 => ?_
    walk_at "nc hh"
    refine eq_same (d := told2 "misfit" "wall") rfl rfl (by decide +kernel) ?_
    walk_at "nc hh"
    exact q o _ (u.mono (by omega))
  · rw [se, lf] at z; cases z
end NC
set_option Elab.async false
set_option linter.all false
set_option maxRecDepth 100000
set_option maxHeartbeats 4000000
namespace NC
open PySem PySem.Spec PyProof.Rows L2
local macro_rules | `(tactic| walk_at "nc hh") => `(tactic| repeat (first | (with_reducible first | refine nes_same ?_ | refine eqs_same ?_ | refine iteT ?_ | refine iteF ?_ | refine iteNT ?_ | refine iteNF ?_) | (with_reducible first | refine i_sIf ?_ | refine i_sNil ?_ | refine i_sRet ?_ | refine i_sAsg ?_ | refine i_sDrop ?_ | refine i_sPut ?_ | refine i_sPar ?_ | refine i_eC ?_ | refine i_eOp ?_ | refine i_eChain ?_ | refine i_eB ?_ | refine i_eUn ?_ | refine i_eTup ?_ | refine i_eLst ?_ | refine i_eLstM ?_ | refine i_eAnd ?_ | refine i_eOr ?_ | refine i_eNot ?_ | refine i_eIf ?_ | refine i_bOf ?_ | refine i_bAnd ?_ | refine i_bOr ?_ | refine i_bNot ?_ | refine i_bYes ?_ | refine i_aNil ?_ | refine i_aCons ?_ | refine i_eCall ?_ | refine i_eCallKw ?_ | refine i_eCut ?_ | refine i_oNone ?_ | refine i_oSome ?_ | refine i_eM ?_ | refine i_sSq ?_ | refine i_sRange1 ?_ | refine i_sRange2 ?_ | refine i_sEnum ?_ | refine i_eIsi ?_ | refine i_eIsi2 ?_ | refine i_eLc ?_ | refine i_eLcM ?_ | refine i_sFor ?_ | refine i_eDisp1 ?_ | refine i_bl ?_ | refine i_int ?_ | refine i_nm ?_ | refine i_one ?_ | refine i_two ?_ | refine i_rng ?_ | refine i_len0 ?_ | refine i_int1 ?_ | refine i_intb ?_ | refine i_abs ?_ | refine i_add ?_ | refine i_sub ?_ | refine i_lt ?_ | refine i_le ?_ | refine i_gt ?_ | refine i_ge ?_ | refine i_eqi ?_ | refine i_is ?_ | refine i_isn ?_ | refine i_nes ?_ | refine i_rbl ?_ | refine i_eCallX ?_ | refine i_eCallKwX ?_ | refine i_sRaiseF ?_ | refine i_eIsX ?_ | refine i_eFld ?_ | refine i_eDit1 ?_ | refine i_sTry ?_ | refine i_runX ?_ | refine i_ltU ?_ | refine i_isU ?_ | refine i_isnU ?_ | refine i_isS ?_ | refine i_isnS ?_ | refine i_isB ?_ | refine i_isnB ?_ | refine i_neg ?_ | refine i_eDcT ?_ | refine i_sPar3 ?_ | refine i_three ?_ | refine i_eFldU ?_ | refine i_eIsU ?_ | refine i_eFrzO ?_ | refine i_eMake ?_ | refine i_sFldP ?_ | refine i_eMeth ?_ | refine i_sWhile ?_ | refine i_aStar ?_ | refine i_eFn ?_ | refine i_sAsgL ?_ | refine i_sCont ?_ | refine i_sBrk ?_ | refine i_eDnT ?_ | refine i_eDnK ?_ | refine i_eDit1M ?_ | refine i_sDPutU ?_ | refine i_eListR2 ?_ | refine i_bool1 ?_ | refine i_eCName ?_ | refine i_sFlds ?_ | refine i_bTruL ?_ | refine i_eCutU ?_ | refine i_sStr ?_ | refine i_eJoined ?_ | refine i_dJs ?_ | refine i_dJn ?_ | refine i_eMakeX ?_ | refine i_eMethX ?_ | refine i_eFmt ?_ | refine i_eLc2 ?_ | refine i_sRng ?_ | refine i_sTryS ?_) | ((with_reducible refine i_eVarX ?_); refine ⟨_, rfl, ?_⟩) | ((with_reducible refine i_len1 ?_ ?_); · exact Nat.le_of_ble_eq_true rfl) | ((with_reducible first | refine i_ix0 ?_ | refine i_ix1 ?_ | refine i_ix2 ?_ | refine i_ix3 ?_); refine ⟨_, _, rfl, rfl, ?_⟩) | ((with_reducible refine i_tp ?_); refine ⟨_, by unfold bindT; rfl, ?_⟩) | ((with_reducible first | refine i_len ?_ | refine i_list ?_ | refine i_listU ?_ | refine i_tuple ?_ | refine i_sqE ?_); refine ⟨_, rfl, ?_⟩) | ((with_reducible refine i_modL ?_ ?_); · decide) | (with_reducible refine i_eqs ?_) | (with_reducible first | refine cl_power (by assumption) ?_ | refine cl_height (by assumption) ?_ | refine cl_origins (by assumption) ?_ | refine cl_lasted (by assumption) ?_ | refine cl_square (by assumption) ?_ | refine cl_turn (by assumption) ?_ | refine is_cl (by assumption) ?_ | refine st_wide (by assumption) ?_ | refine st_power (by assumption) ?_ | refine st_far (by assumption) ?_) | ((with_reducible refine i_kw ?_); refine ⟨rfl, rfl, ?_⟩)))
def r_law_refused_right (cs : Cs) : RDs := fun xs S Q => ∃ (k : Nat) (o : SO) (T : Store), xs = [.ref 0] ∧ S = some o :: T ∧ Urn k o ∧ k < 600000 ∧ ∀ (o' : SO) (T' : Store), Urn (k + 100) o' → Q (.bl true) (some o' :: T')
def b_law_refused_right (K : PySem.W.Frag) (cs : Cs) : TSd := (sSeq (sAsg (.tp [(.nm 1), (.nm 2)]) (eTup (aCons (eLst (aCons (eLst (aCons (eTup (aCons (eC (.int 1)) (aCons (eC (.int 2)) aNil))) aNil)) (aCons (eLst (aCons (eTup (aCons (eC (.int 3)) (aCons (eC (.int 3)) aNil))) aNil)) (aCons (eTup (aCons (eTup (aCons (eC (.int 1)) (aCons (eC (.int 2)) aNil))) (aCons (eTup (aCons (eUn rNeg (eC (.int 4))) (aCons (eC (.int 0)) aNil))) aNil))) aNil)))) (aCons (eLst (aCons (eC .non) (aCons (eC (.int 5)) (aCons (eC (.str "1 2")) (aCons (eLst (aCons (eTup (aCons (eC (.int 1)) (aCons (eC (.int 2)) aNil))) (aCons (eLst (aCons (eC (.int 1)) (aCons (eC (.int 2)) aNil))) aNil))) (aCons (eLst (aCons (eTup (aCons (eC (.int 1)) (aCons (eC (.int 2)) (aCons (eC (.int 3)) aNil)))) aNil)) (aCons (eLst (aCons (eTup (aCons (eC (.int 1)) (aCons (eC (.bl true)) aNil))) aNil)) (aCons (eC (.dic [])) (aCons (eLst (aCons (eC .non) aNil)) (aCons (eLst (aCons (eLst (aCons (eC (.int 1)) aNil)) aNil)) (aCons (eLst (aCons (eC (.str "12")) aNil)) (aCons (eTup (aCons (eC (.int 1)) (aCons (eC (.int 2)) aNil))) aNil)))))))))))) aNil))))
    (sSeq (sAsg (.tp [(.nm 3), (.nm 4)]) (eTup (aCons (eCall r_law_pick (aCons (eVar 0) (aCons (eVar 2) aNil))) (aCons (eCall r_law_pick (aCons (eVar 0) (aCons (eVar 2) aNil))) aNil))))
    (sSeq (sAsg (.nm 5) (eLstM (aCons (eHear 5 (b_law_heard K cs) (fun ED => (eFrzO (eMakeX K (r_Board_init cs) cs.Board ED (aCons (eVar 3) (aCons (eVar 4) (aCons (eVar 3) aNil))))))) aNil)))
    (sSeq (sDrop (eM "list" rApp (eVar 5) (aCons (eHear 5 (b_law_heard K cs) (fun ED => (eFrzO (eMakeX K (r_Board_init cs) cs.Board ED (aCons (eLst (aCons (eTup (aCons (eUn rNeg (eC (.int 1))) (aCons (eC (.int 0)) aNil))) aNil)) (aCons (eVar 3) (aCons (eVar 4) aNil))))))) aNil)))
    (sSeq (sDrop (eM "list" rApp (eVar 5) (aCons (eHear 5 (b_law_heard K cs) (fun ED => (eFrzO (eMakeX K (r_Board_init cs) cs.Board ED (aCons (eLst (aCons (eTup (aCons (eC (.int 0)) (aCons (eUn rNeg (eC (.int 3))) aNil))) aNil)) (aCons (eOp rIxU (eVar 1) (eC (.int 1))) (aCons (eVar 3) aNil))))))) aNil)))
    (sSeq (sDrop (eM "list" rApp (eVar 5) (aCons (eHear 5 (b_law_heard K cs) (fun ED => (eFrzO (eMakeX K (r_Board_init cs) cs.Board ED (aCons (eLst (aCons (eTup (aCons (eC (.int 1)) (aCons (eC (.int 2)) aNil))) (aCons (eTup (aCons (eC (.int 0)) (aCons (eUn rNeg (eCall r_law_draw (aCons (eVar 0) (aCons (eC (.int 3)) aNil)))) aNil))) aNil))) (aCons (eOp rIxU (eVar 1) (eC (.int 1))) (aCons (eOp rIxU (eVar 1) (eC (.int 2))) aNil))))))) aNil)))
    (sSeq (sDrop (eM "list" rApp (eVar 5) (aCons (eHear 5 (b_law_heard K cs) (fun ED => (eFrzO (eMakeX K (r_Board_init cs) cs.Board ED (aCons (eLst (aCons (eTup (aCons (eC (.int 1)) (aCons (eC (.int 2)) aNil))) (aCons (eTup (aCons (eOp rSub (eUn rNeg (eC (.int 1))) (eCall r_law_draw (aCons (eVar 0) (aCons (eC (.int 4)) aNil)))) (aCons (eC (.int 5)) aNil))) aNil))) (aCons (eOp rIxU (eVar 1) (eC (.int 1))) (aCons (eOp rIxU (eVar 1) (eC (.int 2))) aNil))))))) aNil)))
    (sSeq (sDrop (eM "list" rApp (eVar 5) (aCons (eHear 5 (b_law_heard K cs) (fun ED => (eFrzO (eMakeX K (r_Board_init cs) cs.Board ED (aCons (eLst (aCons (eTup (aCons (eC (.int 1)) (aCons (eC (.int 2)) aNil))) (aCons (eTup (aCons (eC (.int 3)) (aCons (eC (.int 3)) aNil))) aNil))) (aCons (eOp rIxU (eVar 1) (eC (.int 1))) (aCons (eOp rIxU (eVar 1) (eC (.int 2))) aNil))))))) aNil)))
    (sSeq (sIf (bOf (eOp rNe3 (eVar 5) (eOp rAdd (eLst (aCons (eTup (aCons (eC (.str "squares")) (aCons (eC (.str "held")) aNil))) (aCons (eTup (aCons (eC (.str "squares")) (aCons (eC (.str "passed")) aNil))) (aCons (eTup (aCons (eC (.str "squares")) (aCons (eC (.str "burnt")) aNil))) aNil)))) (eOp rMulU (eLst (aCons (eTup (aCons (eC (.str "misfit")) (aCons (eC (.str "held")) aNil))) aNil)) (eC (.int 3))))))
    (sRet (eC (.bl false)))
    sNil)
    (sSeq (sAsg (.tp [(.nm 6), (.nm 7)]) (eTup (aCons (eFrzO (eMakeX K (r_Board_init cs) cs.Board NoX (aCons (eOp rIxU (eVar 1) (eC (.int 0))) (aCons (eOp rIxU (eVar 1) (eC (.int 1))) (aCons (eOp rIxU (eVar 1) (eC (.int 2))) aNil))))) (aCons (eCall r_law_pick (aCons (eVar 0) (aCons (eLst (aCons (eC .non) (aCons (eC (.int 5)) (aCons (eVar 1) (aCons (eTup (aCons (eTup aNil) (aCons (eTup aNil) (aCons (eTup aNil) aNil)))) (aCons (eC (.str "1")) (aCons (eC (.bl true)) (aCons (eC (.dic [])) aNil)))))))) aNil))) aNil))))
    (sSeq (sAsg (.nm 8) (eCall r_law_pick (aCons (eVar 0) (aCons (eLst (aCons (eC .non) (aCons (eC (.int 5)) (aCons (eC (.str "12")) (aCons (eTup (aCons (eC (.int 1)) (aCons (eC (.int 2)) (aCons (eC (.int 3)) aNil)))) (aCons (eLst (aCons (eC (.int 1)) aNil)) (aCons (eTup (aCons (eC (.int 1)) (aCons (eC (.bl true)) aNil))) (aCons (eLst (aCons (eC (.int 1)) (aCons (eC (.str "2")) aNil))) (aCons (eC (.dic [])) (aCons (eTup (aCons (eTup (aCons (eC (.int 1)) (aCons (eC (.int 2)) aNil))) aNil)) aNil)))))))))) aNil))))
    (sSeq (sAsg (.nm 5) (eLstM (aCons (eHear 5 (b_law_heard K cs) (fun ED => (eMethX (r_Board_is_passed cs) cs.Board "is_passed" ED (eVar 6) (aCons (eVar 8) aNil)))) aNil)))
    (sSeq (sDrop (eM "list" rApp (eVar 5) (aCons (eHear 5 (b_law_heard K cs) (fun ED => (eCallX (r_fits cs) ED (aCons (eVar 7) (aCons (eVar 3) aNil))))) aNil)))
    (sSeq (sDrop (eM "list" rApp (eVar 5) (aCons (eHear 5 (b_law_heard K cs) (fun ED => (eCallX (r_fits cs) ED (aCons (eVar 6) (aCons (eVar 3) aNil))))) aNil)))
    (sSeq (sDrop (eM "list" rExtU (eVar 5) (aCons (eLc (sSq (eTup (aCons (eFn cs.f_box_of) (aCons (eFn cs.f_best_for) (aCons (eFn cs.f_cheapest_cost) aNil))))) (.nm 9) bYes (eHear 5 (b_law_heard K cs) (fun ED => (eCallV 9 [(cs.f_box_of, r_box_of cs), (cs.f_best_for, r_best_for cs), (cs.f_cheapest_cost, r_cheapest_cost cs)] ED (aCons (eVar 7) aNil)))) [9]) aNil)))
    (sSeq (sDrop (eM "list" rApp (eVar 5) (aCons (eHear 5 (b_law_heard K cs) (fun ED => (eCallX (r_shows_best cs) ED (aCons (eVar 7) (aCons (eC .non) aNil))))) aNil)))
    (sRet (eOp rEq3 (eVar 5) (eOp rAdd (eLst (aCons (eTup (aCons (eC (.str "square")) (aCons (eC (.str "square")) aNil))) (aCons (eTup (aCons (eC (.str "board")) (aCons (eC (.str "board")) aNil))) (aCons (eTup (aCons (eC (.str "squares")) (aCons (eC (.str "wall")) aNil))) aNil)))) (eOp rMulU (eLst (aCons (eTup (aCons (eC (.str "board")) (aCons (eC (.str "board")) aNil))) aNil)) (eC (.int 4))))))))))))))))))))))
theorem len_law_refused_right (cs : Cs) (xs : List D) (S : Store) (Q : QD) (h : r_law_refused_right cs xs S Q) : xs.length = 1 := by obtain ⟨_, _, _, rfl, _⟩ := h; rfl
def lotGB (d : D) : Bool := (tyD d).isSome && (match d with | .lst ys => decide (ys.length < 60) && ys.all flB | .tup ys => decide (ys.length < 60) && ys.all flB | .ro _ => false | .kt _ => false | _ => true)
theorem lotGB_ok {d : D} (h : lotGB d = true) (S : Store) : LotG S d d := by
  unfold lotGB at h
  rw [Bool.and_eq_true] at h
  obtain ⟨h1, h2⟩ := h
  obtain ⟨t, ht⟩ := Option.isSome_iff_exists.mp h1
  have hd : drf S d = d := drf_ty ht
  have one : ∀ ys : List D, (decide (ys.length < 60) && ys.all flB) = true → ys.map (drf S) = ys ∧ ys.length < 60 ∧ ∀ y ∈ ys, Flat (drf S y) := fun ys h => by
    rw [Bool.and_eq_true, decide_eq_true_eq, List.all_eq_true] at h
    have e : ∀ y ∈ ys, drf S y = y := fun y hy => by
      have := h.2 y hy
      unfold flB at this
      rw [Bool.and_eq_true] at this
      exact drf_shw this.1
    exact ⟨(List.map_congr_left e).trans (List.map_id' ys), h.1, fun y hy => by rw [e y hy]; exact flB_ok (h.2 y hy)⟩
  refine ⟨⟨t, by rw [hd]; exact tyV_of ht⟩, ?_⟩
  rw [hd]
  cases d with
  | lst ys =>
    obtain ⟨a, b, c⟩ := one ys h2
    exact .inr ⟨ys, .inl rfl, by rw [a]; rfl, b, c⟩
  | tup ys =>
    obtain ⟨a, b, c⟩ := one ys h2
    exact .inr ⟨ys, .inr rfl, by rw [a]; rfl, b, c⟩
  | ro ys => cases h2
  | kt ys => cases h2
  | _ => exact .inl ⟨rfl, rfl, rfl⟩
section
variable {K : PySem.W.Frag} {cs : Cs}
theorem bd_out (kf : KF K cs) {x1 x2 x3 e1 e2 e3 out : D} {S1 : Store} {E : XD} {Qo Q' : QD} (hE : ∀ (w pt : Str) (C : Addr) (S1 : Store), (w, C) ∈ wordsX cs → (∀ so, Qo (told2 w pt) (S1 ++ [some so])) → E (C, [("part", .str pt)]) S1)
    (l1 : ∀ S, LotG S x1 e1) (l2 : ∀ S, LotG S x2 e2) (l3 : ∀ S, LotG S x3 e3)
    (ho : (areSq e1 = false ∧ out = told2 "squares" "held") ∨ (areSq e1 = true ∧ areSq e2 = false ∧ out = told2 "squares" "passed") ∨ (areSq e1 = true ∧ areSq e2 = true ∧ areSq e3 = false ∧ out = told2 "squares" "burnt") ∨
      (areSq e1 = true ∧ areSq e2 = true ∧ areSq e3 = true ∧ misB (sqsOf e1) (sqsOf e2) = true ∧ out = told2 "misfit" "held"))
    (q : ∀ S', Grow S1 S' → Qo out S') : KOk K cs.Board ∧ r_Board_init cs [.ref S1.length, x1, x2, x3] (S1 ++ [some (SO.ins cs.Board [])]) (fun d S2 => d = .non ∧ frzO Q' (.ref S1.length) S2) E := by
  have go : ∀ (w pt : Str) (C : Addr), (w, C) ∈ wordsX cs → out = told2 w pt → E (C, [("part", .str pt)]) (S1 ++ [some (SO.ins cs.Board [])]) := fun w pt C h e => hE w pt C _ h fun so => by
    rw [← e]
    exact q _ ((Grow.add _ _).trans (Grow.add _ _))
  have m1 : (("squares" : Str), cs.BadSquares) ∈ wordsX cs := by simp [wordsX]
  have m2 : (("misfit" : Str), cs.Misfit) ∈ wordsX cs := by simp [wordsX]
  refine ⟨kf.w_Board, S1.length, x1, x2, x3, e1, e2, e3, rfl, at_end, l1 _, l2 _, l3 _, fun z => ?_, fun z1 z => ?_, fun z1 z2 z => ?_, fun z1 z2 z3 => ⟨fun z => ?_, fun z => ?_⟩⟩
  · rcases ho with ⟨a, h⟩ | ⟨a, b, h⟩ | ⟨a, b, c, h⟩ | ⟨a, b, c, m, h⟩ <;> first | exact go _ _ _ m1 h | (rw [a] at z; cases z)
  · rcases ho with ⟨a, h⟩ | ⟨a, b, h⟩ | ⟨a, b, c, h⟩ | ⟨a, b, c, m, h⟩ <;> first | (rw [a] at z1; cases z1; done) | (rw [b] at z; cases z; done) | exact go _ _ _ m1 h
  · rcases ho with ⟨a, h⟩ | ⟨a, b, h⟩ | ⟨a, b, c, h⟩ | ⟨a, b, c, m, h⟩ <;> first | (rw [a] at z1; cases z1; done) | (rw [b] at z2; cases z2; done) | (rw [c] at z; cases z; done) | exact go _ _ _ m1 h
  · rcases ho with ⟨a, h⟩ | ⟨a, b, h⟩ | ⟨a, b, c, h⟩ | ⟨a, b, c, m, h⟩ <;> first | (rw [a] at z1; cases z1; done) | (rw [b] at z2; cases z2; done) | (rw [c] at z3; cases z3; done) | exact go _ _ _ m2 h
  · rcases ho with ⟨a, h⟩ | ⟨a, b, h⟩ | ⟨a, b, c, h⟩ | ⟨a, b, c, m, h⟩ <;> first | (rw [a] at z1; cases z1; done) | (rw [b] at z2; cases z2; done) | (rw [c] at z3; cases z3; done) | (rw [m] at z; cases z; done)
end
theorem hear_gen {K : PySem.W.Frag} {cs : Cs} {te : XD → TD} {ρ : Rho} {S : Store} {Q : QD} {out : D} {P : Store → Prop} (h : ∀ Q0 : QD, (∀ S', P S' → Q0 out S') → eHear 5 (b_law_heard K cs) te ρ S Q0) (k : ∀ S', P S' → Q out S') : eHear 5 (b_law_heard K cs) te ρ S Q := h Q k
def bads11 : List D := [.non, .int 5, .str "1 2", .lst [sqD (1, 2), sqL (1, 2)], .lst [.tup [.int 1, .int 2, .int 3]], .lst [.tup [.int 1, .bl true]], .dic [], .lst [.non], .lst [.lst [.int 1]], .lst [.str "12"], .tup [.int 1, .int 2]]
theorem bads11_no : (bads11.all fun d => lotGB d && !areSq d) = true := by decide +kernel
def good11 : D := .lst [.lst [sqD (1, 2)], .lst [sqD (3, 3)], .tup [sqD (1, 2), sqD (-4, 0)]]
def nones11 : List D := [.non, .int 5, good11, .tup [.tup [], .tup [], .tup []], .str "1", .bl true, .dic []]
def odds11 : List D := [.non, .int 5, .str "12", .tup [.int 1, .int 2, .int 3], .lst [.int 1], .tup [.int 1, .bl true], .lst [.int 1, .str "2"], .dic [], .tup [sqD (1, 2)]]
theorem odds11_no : (odds11.all fun d => flB d && !isSq d) = true := by decide +kernel
theorem nones11_no : (nones11.all fun d => (tyD d).isSome) = true := by decide +kernel
theorem run_law_refused_right {K : PySem.W.Frag} {cs : Cs} (kf : KF K cs) (xs : List D) (S : Store) (Q : QD) (h : r_law_refused_right cs xs S Q) : runD 10 (b_law_refused_right K cs) xs S Q := by
  obtain ⟨k, o, T, rfl, rfl, u, hk, q⟩ := h
  refine i_runD ?_
  unfold b_law_refused_right
  refine cut2 1 2 (fun d e S' => d = good11 ∧ e = .lst bads11 ∧ S' = some o :: T) (fun N' hrt hnx => ?_) (fun d e S' hP => ?_)
  · walk_at "nc hh"
    exact hnx _ _ _ ⟨rfl, rfl, rfl⟩
  obtain ⟨rfl, rfl, rfl⟩ := hP
  refine cut2 3 4 (fun d e S' => ∃ o, Urn (k + 2) o ∧ d ∈ bads11 ∧ e ∈ bads11 ∧ S' = some o :: T) (fun N' hrt hnx => ?_) (fun odd again S' hP => ?_)
  · walk_at "nc hh"
    refine ⟨_, o, T, _, bads11, rfl, rfl, u, by omega, fun _ => rfl, by decide, by decide, fun o1 e1 u1 he1 => ?_⟩
    walk_at "nc hh"
    refine ⟨_, o1, T, _, bads11, rfl, rfl, u1, by omega, fun _ => rfl, by decide, by decide, fun o2 e2 u2 he2 => ?_⟩
    walk_at "nc hh"
    exact hnx _ _ _ ⟨o2, u2, he1, he2, rfl⟩
  clear u
  obtain ⟨o, u, h1, h2, rfl⟩ := hP
  have y1 := List.all_eq_true.mp bads11_no odd h1
  have y2 := List.all_eq_true.mp bads11_no again h2
  rw [Bool.and_eq_true, Bool.not_eq_true'] at y1 y2
  obtain ⟨g1, n1⟩ := y1
  obtain ⟨g2, n2⟩ := y2
  have g1 := lotGB_ok g1
  have g2 := lotGB_ok g2
  clear h1 h2
  have c1 := lotGB_ok (d := .lst [sqD (-1, 0)]) (by decide +kernel)
  have c2 := lotGB_ok (d := .lst [sqD (0, -3)]) (by decide +kernel)
  have c3 := lotGB_ok (d := .lst [sqD (3, 3)]) (by decide +kernel)
  have c4 := lotGB_ok (d := .tup [sqD (1, 2), sqD (-4, 0)]) (by decide +kernel)
  have c5 := lotGB_ok (d := .lst [sqD (1, 2), sqD (3, 3)]) (by decide +kernel)
  refine cut1 5 (fun d S' => ∃ (o : SO) (T : Store) (n : Nat), Urn (k + 2) o ∧ S' = some o :: T ∧ d = .ref (n + 1) ∧ T[n]? = some (some (.lst [told2 "squares" "held"]))) (fun N' hrt hnx => ?_) (fun d S' hP => ?_)
  · walk_at "nc hh"
    refine hear_gen (out := told2 "squares" "held") (P := fun S' => ∃ (o' : SO) (T' : Store), Urn (k + 2) o' ∧ S' = some o' :: T' ∧ Grow T T') (fun Q0 q0 => ?_) fun S' ⟨o9, T', u9, e9, g9⟩ => ?_
    · refine heard_of kf fun so E' Q' hE hQ => ?_
      walk_at "nc hh"
      refine bd_out kf hE g1 g2 g1 (.inl ⟨n1, rfl⟩) fun S' g => ?_
      obtain ⟨T', rfl, g'⟩ := grow_head g
      exact q0 _ ⟨_, T', u, rfl, (Grow.add T _).trans g'⟩
    · subst e9
      walk_at "nc hh"
      exact hnx _ _ ⟨_, _, _, u9, rfl, rfl, at_end⟩
  clear u
  obtain ⟨o, T, n, u, rfl, rfl, hn⟩ := hP
  refine cut0 (fun S' => ∃ (o : SO) (T : Store), Urn (k + 2) o ∧ S' = some o :: T ∧ T[n]? = some (some (.lst [told2 "squares" "held", told2 "squares" "passed"]))) (fun N' hrt hnx => ?_) (fun S' hP => ?_)
  · walk_at "nc hh"
    refine ⟨by rw [drf_ref (n := n + 1) (ds := [told2 "squares" "held"]) (by rw [List.getElem?_cons_succ]; exact hn)]; trivial, ?_⟩
    walk_at "nc hh"
    refine hear_gen (out := told2 "squares" "passed") (P := fun S' => ∃ (o' : SO) (T' : Store), Urn (k + 2) o' ∧ S' = some o' :: T' ∧ Grow T T') (fun Q0 q0 => ?_) fun S' ⟨o9, T', u9, e9, g9⟩ => ?_
    · refine heard_of kf fun so E' Q' hE hQ => ?_
      walk_at "nc hh"
      refine bd_out kf hE c1 g1 g2 (.inr (.inl ⟨by decide +kernel, n1, rfl⟩)) fun S' g => ?_
      obtain ⟨T', rfl, g'⟩ := grow_head g
      exact q0 _ ⟨_, T', u, rfl, (Grow.add T _).trans g'⟩
    · subst e9
      have h9 := grow_get g9 hn
      walk_at "nc hh"
      refine ⟨n + 1, [told2 "squares" "held"], _, rfl, rfl, by rw [List.getElem?_cons_succ]; exact h9, by decide, ?_⟩
      exact hnx _ ⟨o9, _, u9, rfl, set_get h9⟩
  clear u
  obtain ⟨o, T, u, rfl, hn⟩ := hP
  refine cut0 (fun S' => ∃ (o : SO) (T : Store), Urn (k + 2) o ∧ S' = some o :: T ∧ T[n]? = some (some (.lst [told2 "squares" "held", told2 "squares" "passed", told2 "squares" "burnt"]))) (fun N' hrt hnx => ?_) (fun S' hP => ?_)
  · walk_at "nc hh"
    refine ⟨by rw [drf_ref (n := n + 1) (ds := [told2 "squares" "held", told2 "squares" "passed"]) (by rw [List.getElem?_cons_succ]; exact hn)]; trivial, ?_⟩
    walk_at "nc hh"
    refine hear_gen (out := told2 "squares" "burnt") (P := fun S' => ∃ (o' : SO) (T' : Store), Urn (k + 2) o' ∧ S' = some o' :: T' ∧ Grow T T') (fun Q0 q0 => ?_) fun S' ⟨o9, T', u9, e9, g9⟩ => ?_
    · refine heard_of kf fun so E' Q' hE hQ => ?_
      walk_at "nc hh"
      refine bd_out kf hE c2 c3 g1 (.inr (.inr (.inl ⟨by decide +kernel, by decide +kernel, n1, rfl⟩))) fun S' g => ?_
      obtain ⟨T', rfl, g'⟩ := grow_head g
      exact q0 _ ⟨_, T', u, rfl, (Grow.add T _).trans g'⟩
    · subst e9
      have h9 := grow_get g9 hn
      walk_at "nc hh"
      refine ⟨n + 1, [told2 "squares" "held", told2 "squares" "passed"], _, rfl, rfl, by rw [List.getElem?_cons_succ]; exact h9, by decide, ?_⟩
      exact hnx _ ⟨o9, _, u9, rfl, set_get h9⟩
  clear u
  obtain ⟨o, T, u, rfl, hn⟩ := hP
  refine cut0 (fun S' => ∃ (o : SO) (T : Store), Urn (k + 2 + 1) o ∧ S' = some o :: T ∧ T[n]? = some (some (.lst [told2 "squares" "held", told2 "squares" "passed", told2 "squares" "burnt", told2 "misfit" "held"]))) (fun N' hrt hnx => ?_) (fun S' hP => ?_)
  · walk_at "nc hh"
    refine ⟨by rw [drf_ref (n := n + 1) (ds := [told2 "squares" "held", told2 "squares" "passed", told2 "squares" "burnt"]) (by rw [List.getElem?_cons_succ]; exact hn)]; trivial, ?_⟩
    walk_at "nc hh"
    refine hear_gen (out := told2 "misfit" "held") (P := fun S' => ∃ (o' : SO) (T' : Store), Urn (k + 2 + 1) o' ∧ S' = some o' :: T' ∧ Grow T T') (fun Q0 q0 => ?_) fun S' ⟨o9, T', u9, e9, g9⟩ => ?_
    · refine heard_of kf fun so E' Q' hE hQ => ?_
      walk_at "nc hh"
      refine draw_of u (by omega) (by decide) (by decide) fun o8 c u8 cc0 cc1 => ?_
      walk_at "nc hh"
      have le : lotGB (.lst [sqD (1, 2), sqD (0, -c)]) = true := by
        have : c = 0 ∨ c = 1 ∨ c = 2 := by omega
        rcases this with rfl | rfl | rfl <;> decide +kernel
      have ae : areSq (.lst [sqD (1, 2), sqD (0, -c)]) = true ∧ misB (sqsOf (.lst [sqD (1, 2), sqD (0, -c)])) (sqsOf (.lst [sqD (3, 3)])) = true := by
        have : c = 0 ∨ c = 1 ∨ c = 2 := by omega
        rcases this with rfl | rfl | rfl <;> decide +kernel
      refine bd_out kf hE (lotGB_ok le) c3 c4 (.inr (.inr (.inr ⟨ae.1, by decide +kernel, by decide +kernel, ae.2, rfl⟩))) fun S' g => ?_
      obtain ⟨T', rfl, g'⟩ := grow_head g
      exact q0 _ ⟨_, T', u8, rfl, (Grow.add T _).trans g'⟩
    · subst e9
      have h9 := grow_get g9 hn
      walk_at "nc hh"
      refine ⟨n + 1, [told2 "squares" "held", told2 "squares" "passed", told2 "squares" "burnt"], _, rfl, rfl, by rw [List.getElem?_cons_succ]; exact h9, by decide, ?_⟩
      exact hnx _ ⟨o9, _, u9, rfl, set_get h9⟩
  clear u
  obtain ⟨o, T, u, rfl, hn⟩ := hP
  refine cut0 (fun S' => ∃ (o : SO) (T : Store), Urn (k + 2 + 1 + 1) o ∧ S' = some o :: T ∧ T[n]? = some (some (.lst [told2 "squares" "held", told2 "squares" "passed", told2 "squares" "burnt", told2 "misfit" "held", told2 "misfit" "held"]))) (fun N' hrt hnx => ?_) (fun S' hP => ?_)
  · walk_at "nc hh"
    refine ⟨by rw [drf_ref (n := n + 1) (ds := [told2 "squares" "held", told2 "squares" "passed", told2 "squares" "burnt", told2 "misfit" "held"]) (by rw [List.getElem?_cons_succ]; exact hn)]; trivial, ?_⟩
    walk_at "nc hh"
    refine hear_gen (out := told2 "misfit" "held") (P := fun S' => ∃ (o' : SO) (T' : Store), Urn (k + 2 + 1 + 1) o' ∧ S' = some o' :: T' ∧ Grow T T') (fun Q0 q0 => ?_) fun S' ⟨o9, T', u9, e9, g9⟩ => ?_
    · refine heard_of kf fun so E' Q' hE hQ => ?_
      walk_at "nc hh"
      refine draw_of u (by omega) (by decide) (by decide) fun o8 c u8 cc0 cc1 => ?_
      walk_at "nc hh"
      have le : lotGB (.lst [sqD (1, 2), sqD (-1 - c, 5)]) = true := by
        have : c = 0 ∨ c = 1 ∨ c = 2 ∨ c = 3 := by omega
        rcases this with rfl | rfl | rfl | rfl <;> decide +kernel
      have ae : areSq (.lst [sqD (1, 2), sqD (-1 - c, 5)]) = true ∧ misB (sqsOf (.lst [sqD (1, 2), sqD (-1 - c, 5)])) (sqsOf (.lst [sqD (3, 3)])) = true := by
        have : c = 0 ∨ c = 1 ∨ c = 2 ∨ c = 3 := by omega
        rcases this with rfl | rfl | rfl | rfl <;> decide +kernel
      refine bd_out kf hE (lotGB_ok le) c3 c4 (.inr (.inr (.inr ⟨ae.1, by decide +kernel, by decide +kernel, ae.2, rfl⟩))) fun S' g => ?_
      obtain ⟨T', rfl, g'⟩ := grow_head g
      exact q0 _ ⟨_, T', u8, rfl, (Grow.add T _).trans g'⟩
    · subst e9
      have h9 := grow_get g9 hn
      walk_at "nc hh"
      refine ⟨n + 1, [told2 "squares" "held", told2 "squares" "passed", told2 "squares" "burnt", told2 "misfit" "held"], _, rfl, rfl, by rw [List.getElem?_cons_succ]; exact h9, by decide, ?_⟩
      exact hnx _ ⟨o9, _, u9, rfl, set_get h9⟩
  clear u
  obtain ⟨o, T, u, rfl, hn⟩ := hP
  refine cut0 (fun S' => ∃ (o : SO) (T : Store), Urn (k + 2 + 1 + 1) o ∧ S' = some o :: T ∧ T[n]? = some (some (.lst [told2 "squares" "held", told2 "squares" "passed", told2 "squares" "burnt", told2 "misfit" "held", told2 "misfit" "held", told2 "misfit" "held"]))) (fun N' hrt hnx => ?_) (fun S' hP => ?_)
  · walk_at "nc hh"
    refine ⟨by rw [drf_ref (n := n + 1) (ds := [told2 "squares" "held", told2 "squares" "passed", told2 "squares" "burnt", told2 "misfit" "held", told2 "misfit" "held"]) (by rw [List.getElem?_cons_succ]; exact hn)]; trivial, ?_⟩
    walk_at "nc hh"
    refine hear_gen (out := told2 "misfit" "held") (P := fun S' => ∃ (o' : SO) (T' : Store), Urn (k + 2 + 1 + 1) o' ∧ S' = some o' :: T' ∧ Grow T T') (fun Q0 q0 => ?_) fun S' ⟨o9, T', u9, e9, g9⟩ => ?_
    · refine heard_of kf fun so E' Q' hE hQ => ?_
      walk_at "nc hh"
      refine bd_out kf hE c5 c3 c4 (.inr (.inr (.inr ⟨by decide +kernel, by decide +kernel, by decide +kernel, by decide +kernel, rfl⟩))) fun S' g => ?_
      obtain ⟨T', rfl, g'⟩ := grow_head g
      exact q0 _ ⟨_, T', u, rfl, (Grow.add T _).trans g'⟩
    · subst e9
      have h9 := grow_get g9 hn
      walk_at "nc hh"
      refine ⟨n + 1, [told2 "squares" "held", told2 "squares" "passed", told2 "squares" "burnt", told2 "misfit" "held", told2 "misfit" "held"], _, rfl, rfl, by rw [List.getElem?_cons_succ]; exact h9, by decide, ?_⟩
      exact hnx _ ⟨o9, _, u9, rfl, set_get h9⟩
  clear u
  obtain ⟨o, T, u, rfl, hn⟩ := hP
  refine cut0 (fun S' => S' = some o :: T) (fun N' hrt hnx => ?_) (fun S' hP => ?_)
  · walk_at "nc hh"
    refine .inr ⟨_, 3, rfl, rfl, by decide, by decide, by decide, ?_⟩
    walk_at "nc hh"
    refine add_lst rfl rfl (by decide) ?_
    walk_at "nc hh"
    refine ne_same (d := .lst [told2 "squares" "held", told2 "squares" "passed", told2 "squares" "burnt", told2 "misfit" "held", told2 "misfit" "held", told2 "misfit" "held"]) (drf_ref (by rw [List.getElem?_cons_succ]; exact hn)) rfl (by decide +kernel) ?_
    walk_at "nc hh"
    exact hnx _ rfl
  subst hP
  clear hn
  refine cut2 6 7 (fun d e S' => ∃ (o : SO) (T : Store) (b : Bd), Urn (k + 5) o ∧ S' = some o :: T ∧ BdOk b ∧ d = bdD cs b ∧ e ∈ nones11) (fun N' hrt hnx => ?_) (fun d none_ S' hP => ?_)
  · obtain ⟨b, hb⟩ := bd_ex [(1, 2)] [(3, 3)] [(1, 2), (-4, 0)]
    have LQ : ∀ (S : Store) (d : D) (ps : List Sq), (d = .lst (ps.map sqD) ∨ d = .tup (ps.map sqD)) → ps.length ≤ 50 → ps.Nodup → LotQ S d ps := fun S d ps e hl hn => lotQ_row e (.inl rfl) (by omega) hn
    walk_at "nc hh"
    refine make_ok kf b hb (fun S' g => LQ S' _ _ (.inl rfl) (by decide) (by decide)) (fun S' g => LQ S' _ _ (.inl rfl) (by decide) (by decide)) (fun S' g => LQ S' _ _ (.inr rfl) (by decide) (by decide)) (by decide) fun S1 g1 => ?_
    obtain ⟨T', rfl, _⟩ := grow_head g1
    walk_at "nc hh"
    refine ⟨_, o, T', _, nones11, rfl, rfl, u, by omega, fun _ => rfl, by decide, by decide, fun o1 e1 u1 he1 => ?_⟩
    walk_at "nc hh"
    exact hnx _ _ _ ⟨o1, T', b, u1, rfl, ⟨by rw [hb.h.length_eq]; decide, by rw [hb.p.length_eq]; decide, by rw [hb.f.length_eq]; decide, hb.p.nodup_iff.mpr (by decide)⟩, rfl, he1⟩
  clear u
  obtain ⟨o, T, b, u, rfl, ok, rfl, hnone⟩ := hP
  refine cut1 8 (fun d S' => ∃ (o : SO), Urn (k + 6) o ∧ S' = some o :: T ∧ d ∈ odds11) (fun N' hrt hnx => ?_) (fun sq S' hP => ?_)
  · walk_at "nc hh"
    refine ⟨_, o, T, _, odds11, rfl, rfl, u, by omega, fun _ => rfl, by decide, by decide, fun o1 e1 u1 he1 => ?_⟩
    walk_at "nc hh"
    exact hnx _ _ ⟨o1, u1, rfl, he1⟩
  clear u
  obtain ⟨o, u, rfl, hodd⟩ := hP
  have y3 := List.all_eq_true.mp odds11_no sq hodd
  rw [Bool.and_eq_true, Bool.not_eq_true'] at y3
  obtain ⟨g3, n3⟩ := y3
  obtain ⟨t4, y4⟩ := Option.isSome_iff_exists.mp (List.all_eq_true.mp nones11_no none_ hnone)
  clear hodd hnone
  have n0 : bdF b = bdF b := rfl
  refine cut1 5 (fun d S' => ∃ (T : Store) (n : Nat), S' = some o :: T ∧ d = .ref (n + 1) ∧ T[n]? = some (some (.lst [told2 "square" "square"]))) (fun N' hrt hnx => ?_) (fun d S' hP => ?_)
  · walk_at "nc hh"
    refine hear_gen (out := told2 "square" "square") (P := fun S' => ∃ (T' : Store), S' = some o :: T' ∧ Grow T T') (fun Q0 q0 => ?_) fun S' ⟨T', e9, g9⟩ => ?_
    · refine heard_of kf fun so E' Q' hE hQ => ?_
      have go : ∀ (w pt : Str) (C : Addr), (w, C) ∈ wordsX cs → told2 "square" "square" = told2 w pt → E' (C, [("part", .str pt)]) (some o :: T ++ [some so]) := fun w pt C h e => hE w pt C _ h fun so2 => by
        rw [← e]
        exact q0 _ ⟨_, rfl, (Grow.add T [some so]).trans (Grow.add _ [some so2])⟩
      walk_at "nc hh"
      refine ⟨bdF b, rfl, rfl, ?_⟩
      walk_at "nc hh"
      have fs : drf (some o :: T ++ [some so]) sq = sq := by
        unfold flB at g3
        rw [Bool.and_eq_true] at g3
        exact drf_shw g3.1
      refine ⟨b, sq, rfl, by rw [fs]; exact flB_ok g3, fun _ => go _ _ _ (by simp [wordsX]) rfl, fun h => ?_⟩
      rw [fs, n3] at h
      cases h
    · subst e9
      walk_at "nc hh"
      exact hnx _ _ ⟨_, _, rfl, rfl, at_end⟩
  obtain ⟨T, n, rfl, rfl, hn⟩ := hP
  refine cut0 (fun S' => ∃ (T : Store), S' = some o :: T ∧ T[n]? = some (some (.lst [told2 "square" "square", told2 "board" "board"]))) (fun N' hrt hnx => ?_) (fun S' hP => ?_)
  · walk_at "nc hh"
    refine ⟨by rw [drf_ref (n := n + 1) (ds := [told2 "square" "square"]) (by rw [List.getElem?_cons_succ]; exact hn)]; trivial, ?_⟩
    walk_at "nc hh"
    refine hear_gen (out := told2 "board" "board") (P := fun S' => ∃ (T' : Store), S' = some o :: T' ∧ Grow T T') (fun Q0 q0 => ?_) fun S' ⟨T', e9, g9⟩ => ?_
    · refine heard_of kf fun so E' Q' hE hQ => ?_
      have go : ∀ (w pt : Str) (C : Addr), (w, C) ∈ wordsX cs → told2 "board" "board" = told2 w pt → E' (C, [("part", .str pt)]) (some o :: T ++ [some so]) := fun w pt C h e => hE w pt C _ h fun so2 => by
        rw [← e]
        exact q0 _ ⟨_, rfl, (Grow.add T [some so]).trans (Grow.add _ [some so2])⟩
      walk_at "nc hh"
      exact ⟨none_, odd, rfl, .inl ⟨⟨t4, y4⟩, go _ _ _ (by simp [wordsX]) rfl⟩⟩
    · subst e9
      have h9 := grow_get g9 hn
      walk_at "nc hh"
      refine ⟨n + 1, [told2 "square" "square"], _, rfl, rfl, by rw [List.getElem?_cons_succ]; exact h9, by decide, ?_⟩
      exact hnx _ ⟨_, rfl, set_get h9⟩
  obtain ⟨T, rfl, hn⟩ := hP
  refine cut0 (fun S' => ∃ (T : Store), S' = some o :: T ∧ T[n]? = some (some (.lst [told2 "square" "square", told2 "board" "board", told2 "squares" "wall"]))) (fun N' hrt hnx => ?_) (fun S' hP => ?_)
  · walk_at "nc hh"
    refine ⟨by rw [drf_ref (n := n + 1) (ds := [told2 "square" "square", told2 "board" "board"]) (by rw [List.getElem?_cons_succ]; exact hn)]; trivial, ?_⟩
    walk_at "nc hh"
    refine hear_gen (out := told2 "squares" "wall") (P := fun S' => ∃ (T' : Store), S' = some o :: T' ∧ Grow T T') (fun Q0 q0 => ?_) fun S' ⟨T', e9, g9⟩ => ?_
    · refine heard_of kf fun so E' Q' hE hQ => ?_
      have go : ∀ (w pt : Str) (C : Addr), (w, C) ∈ wordsX cs → told2 "squares" "wall" = told2 w pt → E' (C, [("part", .str pt)]) (some o :: T ++ [some so]) := fun w pt C h e => hE w pt C _ h fun so2 => by
        rw [← e]
        exact q0 _ ⟨_, rfl, (Grow.add T [some so]).trans (Grow.add _ [some so2])⟩
      walk_at "nc hh"
      refine ⟨bdD cs b, odd, rfl, .inr ⟨b, rfl, ok, odd, g1 _, fun _ => go _ _ _ (by simp [wordsX]) rfl, fun h => ?_, fun h => ?_⟩⟩
      · rw [n1] at h; cases h
      · rw [n1] at h; cases h
    · subst e9
      have h9 := grow_get g9 hn
      walk_at "nc hh"
      refine ⟨n + 1, [told2 "square" "square", told2 "board" "board"], _, rfl, rfl, by rw [List.getElem?_cons_succ]; exact h9, by decide, ?_⟩
      exact hnx _ ⟨_, rfl, set_get h9⟩
  obtain ⟨T, rfl, hn⟩ := hP
  refine cut0 (fun S' => ∃ (T : Store), S' = some o :: T ∧ T[n]? = some (some (.lst [told2 "square" "square", told2 "board" "board", told2 "squares" "wall", told2 "board" "board", told2 "board" "board", told2 "board" "board"]))) (fun N' hrt hnx => ?_) (fun S' hP => ?_)
  · walk_at "nc hh"
    refine ⟨by rw [drf_ref (n := n + 1) (ds := [told2 "square" "square", told2 "board" "board", told2 "squares" "wall"]) (by rw [List.getElem?_cons_succ]; exact hn)]; trivial, ?_⟩
    walk_at "nc hh"
    refine ⟨fun j acc S' => ∃ T', S' = some o :: T' ∧ T'[n]? = some (some (.lst [told2 "square" "square", told2 "board" "board", told2 "squares" "wall"])) ∧ acc = List.replicate j (told2 "board" "board"), ⟨T, rfl, hn, rfl⟩, fun _ _ _ _ => rfl, (show 3 ≤ sizeLine by decide), ?_, ?_⟩
    · rintro j d acc S' hd ⟨T1, rfl, hn1, rfl⟩
      have hd : [D.fnc cs.f_box_of, .fnc cs.f_best_for, .fnc cs.f_cheapest_cost][j]? = some d := hd
      have hm := List.mem_of_getElem? hd
      refine ⟨_, by unfold bindT; rfl, i_bYes ?_⟩
      rw [if_pos rfl]
      refine hear_gen (out := told2 "board" "board") (P := fun S' => ∃ (T' : Store), S' = some o :: T' ∧ Grow T1 T') (fun Q0 q0 => ?_) fun S' ⟨T', e9, g9⟩ => ?_
      · refine heard_of kf fun so E' Q' hE hQ => ?_
        have go : ∀ (w pt : Str) (C : Addr), (w, C) ∈ wordsX cs → told2 "board" "board" = told2 w pt → E' (C, [("part", .str pt)]) (some o :: T1 ++ [some so]) := fun w pt C h e => hE w pt C _ h fun so2 => by
          rw [← e]
          exact q0 _ ⟨_, rfl, (Grow.add T1 [some so]).trans (Grow.add _ [some so2])⟩
        have z := go "board" "board" cs.BadBoard (by simp [wordsX]) rfl
        simp only [List.mem_cons, List.not_mem_nil, or_false] at hm
        rcases hm with rfl | rfl | rfl
        · refine i_eCallV (f := cs.f_box_of) (r := r_box_of cs) (by simp) rfl ?_
          walk_at "nc hh"
          exact ⟨_, rfl, .inl ⟨⟨t4, y4⟩, z⟩⟩
        · refine i_eCallV (f := cs.f_best_for) (r := r_best_for cs) (by simp) rfl ?_
          walk_at "nc hh"
          exact ⟨_, t4, rfl, y4, z⟩
        · refine i_eCallV (f := cs.f_cheapest_cost) (r := r_cheapest_cost cs) (by simp) rfl ?_
          walk_at "nc hh"
          exact ⟨_, t4, rfl, y4, z⟩
      · subst e9
        exact ⟨T', rfl, grow_get g9 hn1, by rw [List.replicate_succ']⟩
    · rintro acc S' ⟨T1, rfl, hn1, rfl⟩
      walk_at "nc hh"
      refine i_mext ⟨n + 1, [told2 "square" "square", told2 "board" "board", told2 "squares" "wall"], _, rfl, by rw [List.getElem?_cons_succ]; exact hn1, rfl, (show 6 ≤ 1000 by decide), ?_⟩
      exact hnx _ ⟨_, rfl, set_get hn1⟩
  obtain ⟨T, rfl, hn⟩ := hP
  refine cut0 (fun S' => ∃ (T : Store), S' = some o :: T ∧ T[n]? = some (some (.lst [told2 "square" "square", told2 "board" "board", told2 "squares" "wall", told2 "board" "board", told2 "board" "board", told2 "board" "board", told2 "board" "board"]))) (fun N' hrt hnx => ?_) (fun S' hP => ?_)
  · walk_at "nc hh"
    refine ⟨by rw [drf_ref (n := n + 1) (ds := [told2 "square" "square", told2 "board" "board", told2 "squares" "wall", told2 "board" "board", told2 "board" "board", told2 "board" "board"]) (by rw [List.getElem?_cons_succ]; exact hn)]; trivial, ?_⟩
    walk_at "nc hh"
    refine hear_gen (out := told2 "board" "board") (P := fun S' => ∃ (T' : Store), S' = some o :: T' ∧ Grow T T') (fun Q0 q0 => ?_) fun S' ⟨T', e9, g9⟩ => ?_
    · refine heard_of kf fun so E' Q' hE hQ => ?_
      have go : ∀ (w pt : Str) (C : Addr), (w, C) ∈ wordsX cs → told2 "board" "board" = told2 w pt → E' (C, [("part", .str pt)]) (some o :: T ++ [some so]) := fun w pt C h e => hE w pt C _ h fun so2 => by
        rw [← e]
        exact q0 _ ⟨_, rfl, (Grow.add T [some so]).trans (Grow.add _ [some so2])⟩
      walk_at "nc hh"
      exact ⟨none_, .non, t4, rfl, y4, go _ _ _ (by simp [wordsX]) rfl⟩
    · subst e9
      have h9 := grow_get g9 hn
      walk_at "nc hh"
      refine ⟨n + 1, [told2 "square" "square", told2 "board" "board", told2 "squares" "wall", told2 "board" "board", told2 "board" "board", told2 "board" "board"], _, rfl, rfl, by rw [List.getElem?_cons_succ]; exact h9, by decide, ?_⟩
      exact hnx _ ⟨_, rfl, set_get h9⟩
  obtain ⟨T, rfl, hn⟩ := hP
  walk_at "nc hh"
  refine .inr ⟨_, 4, rfl, rfl, by decide, by decide, by decide, ?_⟩
  walk_at "nc hh"
  refine add_lst rfl rfl (by decide) ?_
  walk_at "nc hh"
  refine eq_same (d := .lst [told2 "square" "square", told2 "board" "board", told2 "squares" "wall", told2 "board" "board", told2 "board" "board", told2 "board" "board", told2 "board" "board"]) (drf_ref (by rw [List.getElem?_cons_succ]; exact hn)) rfl (by decide +kernel) ?_
  walk_at "nc hh"
  exact q o T (u.mono (by omega))
end NC
set_option Elab.async false
set_option linter.all false
set_option maxRecDepth 100000
set_option maxHeartbeats 4000000
namespace NC
open PySem PySem.Spec PyProof.Rows L2
local macro_rules | `(tactic| walk_at "nc hh") => `(tactic| repeat (first | (with_reducible first | refine nes_same ?_ | refine eqs_same ?_ | refine iteT ?_ | refine iteF ?_ | refine iteNT ?_ | refine iteNF ?_) | (with_reducible first | refine i_sIf ?_ | refine i_sNil ?_ | refine i_sRet ?_ | refine i_sAsg ?_ | refine i_sDrop ?_ | refine i_sPut ?_ | refine i_sPar ?_ | refine i_eC ?_ | refine i_eOp ?_ | refine i_eChain ?_ | refine i_eB ?_ | refine i_eUn ?_ | refine i_eTup ?_ | refine i_eLst ?_ | refine i_eLstM ?_ | refine i_eAnd ?_ | refine i_eOr ?_ | refine i_eNot ?_ | refine i_eIf ?_ | refine i_bOf ?_ | refine i_bAnd ?_ | refine i_bOr ?_ | refine i_bNot ?_ | refine i_bYes ?_ | refine i_aNil ?_ | refine i_aCons ?_ | refine i_eCall ?_ | refine i_eCallKw ?_ | refine i_eCut ?_ | refine i_oNone ?_ | refine i_oSome ?_ | refine i_eM ?_ | refine i_sSq ?_ | refine i_sRange1 ?_ | refine i_sRange2 ?_ | refine i_sEnum ?_ | refine i_eIsi ?_ | refine i_eIsi2 ?_ | refine i_eLc ?_ | refine i_eLcM ?_ | refine i_sFor ?_ | refine i_eDisp1 ?_ | refine i_bl ?_ | refine i_int ?_ | refine i_nm ?_ | refine i_one ?_ | refine i_two ?_ | refine i_rng ?_ | refine i_len0 ?_ | refine i_int1 ?_ | refine i_intb ?_ | refine i_abs ?_ | refine i_add ?_ | refine i_sub ?_ | refine i_lt ?_ | refine i_le ?_ | refine i_gt ?_ | refine i_ge ?_ | refine i_eqi ?_ | refine i_is ?_ | refine i_isn ?_ | refine i_nes ?_ | refine i_rbl ?_ | refine i_eCallX ?_ | refine i_eCallKwX ?_ | refine i_sRaiseF ?_ | refine i_eIsX ?_ | refine i_eFld ?_ | refine i_eDit1 ?_ | refine i_sTry ?_ | refine i_runX ?_ | refine i_ltU ?_ | refine i_isU ?_ | refine i_isnU ?_ | refine i_isS ?_ | refine i_isnS ?_ | refine i_isB ?_ | refine i_isnB ?_ | refine i_neg ?_ | refine i_eDcT ?_ | refine i_sPar3 ?_ | refine i_three ?_ | refine i_eFldU ?_ | refine i_eIsU ?_ | refine i_eFrzO ?_ | refine i_eMake ?_ | refine i_sFldP ?_ | refine i_eMeth ?_ | refine i_sWhile ?_ | refine i_aStar ?_ | refine i_eFn ?_ | refine i_sAsgL ?_ | refine i_sCont ?_ | refine i_sBrk ?_ | refine i_eDnT ?_ | refine i_eDnK ?_ | refine i_eDit1M ?_ | refine i_sDPutU ?_ | refine i_eListR2 ?_ | refine i_bool1 ?_ | refine i_eCName ?_ | refine i_sFlds ?_ | refine i_bTruL ?_ | refine i_eCutU ?_ | refine i_sStr ?_ | refine i_eJoined ?_ | refine i_dJs ?_ | refine i_dJn ?_ | refine i_eMakeX ?_ | refine i_eMethX ?_ | refine i_eFmt ?_ | refine i_eLc2 ?_ | refine i_sRng ?_ | refine i_sTryS ?_) | ((with_reducible refine i_eVarX ?_); refine ⟨_, rfl, ?_⟩) | ((with_reducible refine i_len1 ?_ ?_); · exact Nat.le_of_ble_eq_true rfl) | ((with_reducible first | refine i_ix0 ?_ | refine i_ix1 ?_ | refine i_ix2 ?_ | refine i_ix3 ?_); refine ⟨_, _, rfl, rfl, ?_⟩) | ((with_reducible refine i_tp ?_); refine ⟨_, by unfold bindT; rfl, ?_⟩) | ((with_reducible first | refine i_len ?_ | refine i_list ?_ | refine i_listU ?_ | refine i_tuple ?_ | refine i_sqE ?_); refine ⟨_, rfl, ?_⟩) | ((with_reducible refine i_modL ?_ ?_); · decide) | (with_reducible refine i_eqs ?_) | (with_reducible first | refine cl_power (by assumption) ?_ | refine cl_height (by assumption) ?_ | refine cl_origins (by assumption) ?_ | refine cl_lasted (by assumption) ?_ | refine cl_square (by assumption) ?_ | refine cl_turn (by assumption) ?_ | refine is_cl (by assumption) ?_ | refine st_wide (by assumption) ?_ | refine st_power (by assumption) ?_ | refine st_far (by assumption) ?_) | ((with_reducible refine i_kw ?_); refine ⟨rfl, rfl, ?_⟩)))
def r_law : RDs := fun xs S Q => ∃ ns : List Int, xs = [.ro (ns.map .int)] ∧ S = [] ∧ ns.length ≤ 63 ∧ ∀ S', Q (.bl true) S'
def b_law (K : PySem.W.Frag) (cs : Cs) : TSd := (sSeq (sAsg (.nm 1) (eCall r_law_pen (aCons (eVar 0) aNil)))
    (sSeq (sFor (sRange1 (aCons (eC (.int 2)) aNil)) (.nm 2)
    (sIf (bOr (bNot (bOf (eCall (r_law_kept_right cs) (aCons (eVar 1) aNil)))) (bOr (bNot (bOf (eCall (r_law_fits_right cs) (aCons (eVar 1) aNil)))) (bNot (bOf (eCall (r_law_refused_right cs) (aCons (eVar 1) aNil))))))
    (sRet (eC (.bl false)))
    sNil))
    (sRet (eC (.bl true)))))
theorem len_law (xs : List D) (S : Store) (Q : QD) (h : r_law xs S Q) : xs.length = 1 := by obtain ⟨_, rfl, _⟩ := h; rfl
theorem run_law {K : PySem.W.Frag} {cs : Cs} (kf : KF K cs) (xs : List D) (S : Store) (Q : QD) (h : r_law xs S Q) : runD 3 (b_law K cs) xs S Q := by
  obtain ⟨ns, rfl, rfl, hn, q⟩ := h
  refine i_runD ?_
  unfold b_law
  refine cut1 1 (fun d S' => ∃ o, Urn 0 o ∧ d = .ref 0 ∧ S' = [some o]) (fun N' hrt hnx => ?_) (fun d S' hP => ?_)
  · walk_at "nc hh"
    refine ⟨ns, rfl, rfl, hn, fun o u => ?_⟩
    walk_at "nc hh"
    exact hnx _ _ ⟨o, u, rfl, rfl⟩
  obtain ⟨o, u, rfl, rfl⟩ := hP
  refine cut (fun ρ' S' => True) (fun N0 hrt0 hnx0 => ?_) (fun ρ' S' hP => ?_)
  · walk_at "nc hh"
    refine ⟨by decide, by decide, fun i ρ' S' => ∃ (o : SO) (T : Store) (x2 : Option D), Urn (300 * i) o ∧ S' = some o :: T ∧ ρ' = [some (.ro (ns.map .int)), some (.ref 0), x2], ⟨o, [], _, u, rfl, rfl⟩, fun _ _ _ _ => trivial, ?_, ?_⟩
    · clear u o
      rintro i d ρ' S' hd ⟨o, T, x2, u, rfl, rfl⟩
      obtain ⟨rfl, hi⟩ := range_at hd
      have hi : i < 2 := hi
      refine ⟨_, by unfold bindT; rfl, ?_⟩
      walk_at "nc hh"
      refine ⟨_, o, T, rfl, rfl, u, by omega, fun o1 T1 u1 => ?_⟩
      walk_at "nc hh"
      refine ⟨_, o1, T1, rfl, rfl, u1, by omega, fun o2 T2 u2 => ?_⟩
      walk_at "nc hh"
      refine ⟨_, o2, T2, rfl, rfl, u2, by omega, fun o3 T3 u3 => ?_⟩
      walk_at "nc hh"
      exact ⟨o3, T3, _, u3.mono (by omega), rfl, rfl⟩
    · rintro ρ' S' ⟨o, T, x2, u, rfl, rfl⟩
      exact hnx0 _ _ trivial
  walk_at "nc hh"
  exact q _
end NC
set_option Elab.async false
set_option linter.all false
set_option maxRecDepth 100000
set_option maxHeartbeats 4000000
namespace NC
open PySem PySem.Spec PyProof.Rows L2
theorem law_true : TrueAt r_law 63 := fun ns h => ⟨ns, rfl, rfl, h, fun _ => rfl⟩
section
variable {P : Program} {w : World} {K : PySem.W.Frag} {mg : Str → Option Value} {base : Heap} {T : List (Addr × Str)}
def top (i : Nat) : Stmt := PySem.Challenge.pw_nevercaught_k11_boards_kept_and_refused.main.body.getD i (.Pass ⟨0, 0, 0, 0⟩)
abbrev s_law_pen : Stmt := top 60
abbrev n_law_pen : List Str := ["script", "cell"]
theorem sc_law_pen : FnScope n_law_pen ["script"] (defScope s_law_pen) := ⟨rfl, rfl, rfl, by decide +kernel, rfl, by decide +kernel, by decide +kernel⟩
theorem ok_law_pen {f : Addr} {fd : FuncData} (F : Fun K "_law_pen" "_law_pen" s_law_pen f fd) (z_int : mg "int" = none) : FnG P w K mg base CX0 1 f fd ["script"] (lsp K T r_law_pen) := by
  refine def_ok (tb := b_law_pen) F sc_law_pen len_law_pen (fun cdv A outer s H E room hgd => ?_) run_law_pen
  have nd := sc_law_pen.nd
  have hu := Room.units room
  have hu5 := Room.u65 room
  exact (ds_one (ds_ret (de_lstM (da_cons (de_lcOf (pe_lc (own := [("cell", 1)]) (wi := tI _ (Gh.mk [] T) (sSq (eCut (eVar 0) oNone (oSome (eC (.int 60)))))) (g := toG _ (.nm 1)) (tt := tT _ (Gh.mk [] T) bYes) (te := tE _ (Gh.mk [] T) (eB rInt1 (aCons (eVar 1) aNil))) rfl nd (di_seq (de_cut (de_var 0 (pv 0)) do_none (do_some de_int))) (blkOk_by (N := n_law_pen) (sc := defScope s_law_pen) (by decide +kernel)) (fun _ _ _ _ _ => (dg_nm (i := 1) nd rfl (by first | exact .inl rfl | exact .inr rfl) (by first | exact .inl rfl | exact .inr rfl))) (fun _ _ _ _ _ => dts_nil) (fun _ _ _ _ _ => (de_Ty c_int z_int bt_int (da_cons (de_var 1 (pv 1)) da_nil)))) (by decide)) (da_cons de_int (da_cons de_int da_nil))))))
abbrev s_law_draw : Stmt := top 61
abbrev n_law_draw : List Str := ["pen", "many", "at", "cell", "mixed", "rest"]
theorem sc_law_draw : FnScope n_law_draw ["pen", "many"] (defScope s_law_draw) := ⟨rfl, rfl, rfl, by decide +kernel, rfl, by decide +kernel, by decide +kernel⟩
theorem ok_law_draw {f : Addr} {fd : FuncData} (F : Fun K "_law_draw" "_law_draw" s_law_draw f fd) (z_int : mg "int" = none) (z_len : mg "len" = none) (z_abs : mg "abs" = none) : FnG P w K mg base CX0 1 f fd ["pen", "many"] (lsp K T r_law_draw) := by
  refine def_ok (tb := b_law_draw) F sc_law_draw len_law_draw (fun cdv A outer s H E room hgd => ?_) run_law_draw
  have nd := sc_law_draw.nd
  have hu := Room.units room
  have hu5 := Room.u65 room
  exact (ds_cons (ds_if (dt_cmp o_gt (de_ix o_ix (de_var 0 (pv 0)) de_int (fun _ _ => rfl)) de_int (nomark _))
    (ds_cons (ds_set (i := 5) nd rfl (by first | exact .inl rfl | exact .inr rfl) (de_Ty c_int z_int bt_int (da_cons (de_ix o_ix (de_var 0 (pv 0)) de_int (fun _ _ => rfl)) da_nil)))
    (ds_cons (ds_put (ps_asg (de_op o_div (de_var 5 (pv 5)) (de_var 1 (pv 1))) (pg_sub (de_var 0 (pv 0)) de_int set_list)))
    (ds_one (ds_ret (de_op o_mod (de_Ty c_int z_int bt_int (da_cons (de_var 5 (pv 5)) da_nil)) (de_var 1 (pv 1)))))))
    ds_nil)
    (ds_cons (ds_set (i := 2) nd rfl (by first | exact .inl rfl | exact .inr rfl) (de_ix o_ix (de_var 0 (pv 0)) de_int (fun _ _ => rfl)))
    (ds_cons (ds_put (ps_asg (de_op o_add (de_var 2 (pv 2)) de_int) (pg_sub (de_var 0 (pv 0)) de_int set_list)))
    (ds_cons (ds_set (i := 3) nd rfl (by first | exact .inl rfl | exact .inr rfl) (de_op o_add (de_op o_mul de_int (de_var 2 (pv 2))) de_int))
    (ds_cons (ds_if (dt_cmp (op_ne3 hu) (de_ix o_ix (de_var 0 (pv 0)) de_int (fun _ _ => rfl)) (de_lst da_nil) (nomark _))
    (ds_one (ds_set (i := 3) nd rfl (by first | exact .inl rfl | exact .inr rfl) (de_ix o_ix (de_ix o_ix (de_var 0 (pv 0)) de_int (fun _ _ => rfl)) (de_op o_mod (de_Ty c_int z_int bt_int (da_cons (de_var 2 (pv 2)) da_nil)) (de_B c_len z_len PySem.boot_len (da_cons (de_ix o_ix (de_var 0 (pv 0)) de_int (fun _ _ => rfl)) da_nil))) (fun _ _ => rfl))))
    ds_nil)
    (ds_cons (ds_if (dt_w (dw_and (dt_cmp o_lt (de_var 2 (pv 2)) (de_B c_len z_len PySem.boot_len (da_cons (de_ix o_ix (de_var 0 (pv 0)) de_int (fun _ _ => rfl)) da_nil)) (nomark _)) (dw_and1 (dt_cmp o_ge (de_B c_abs z_abs bt_abs (da_cons (de_var 3 (pv 3)) da_nil)) (de_op o_pow de_int de_int) (nomark _)))))
    (ds_cons (ds_set (i := 5) nd rfl (by first | exact .inl rfl | exact .inr rfl) (de_op o_add (de_op o_mul de_int (de_op o_sub (de_B c_abs z_abs bt_abs (da_cons (de_var 3 (pv 3)) da_nil)) (de_op o_pow de_int de_int))) (de_Ty c_int z_int bt_int (da_cons (de_cmp o_lt (de_var 3 (pv 3)) de_int (nomark _)) da_nil))))
    (ds_cons (ds_put (ps_asg (de_op o_div (de_Ty c_int z_int bt_int (da_cons (de_var 5 (pv 5)) da_nil)) (de_var 1 (pv 1))) (pg_sub (de_var 0 (pv 0)) de_int set_list)))
    (ds_one (ds_ret (de_op o_mod (de_Ty c_int z_int bt_int (da_cons (de_var 5 (pv 5)) da_nil)) (de_var 1 (pv 1)))))))
    ds_nil)
    (ds_cons (ds_set (i := 4) nd rfl (by first | exact .inl rfl | exact .inr rfl) (de_op o_mod (de_Ty c_int z_int bt_int (da_cons (de_op o_pow (de_op o_add (de_op o_add (de_op o_mod (de_Ty c_int z_int bt_int (da_cons (de_var 3 (pv 3)) da_nil)) de_int) (de_op o_mul de_int (de_var 2 (pv 2)))) de_int) de_int) da_nil)) de_int))
    (ds_cons (ds_set (i := 4) nd rfl (by first | exact .inl rfl | exact .inr rfl) (de_op o_mod (de_Ty c_int z_int bt_int (da_cons (de_op o_pow (de_op o_add (de_op o_add (de_op o_mul (de_var 4 (pv 4)) (de_op o_add (de_op o_mul de_int (de_var 2 (pv 2))) de_int)) (de_op o_mul (de_op o_mul de_int (de_var 2 (pv 2))) (de_var 2 (pv 2)))) de_int) de_int) da_nil)) de_int))
    (ds_one (ds_ret (de_op o_mod (de_Ty c_int z_int bt_int (da_cons (de_op o_div (de_var 4 (pv 4)) de_int) da_nil)) (de_var 1 (pv 1)))))))))))))
abbrev s_law_pick : Stmt := top 62
abbrev n_law_pick : List Str := ["pen", "some"]
theorem sc_law_pick : FnScope n_law_pick ["pen", "some"] (defScope s_law_pick) := ⟨rfl, rfl, rfl, by decide +kernel, rfl, by decide +kernel, by decide +kernel⟩
theorem ok_law_pick {f : Addr} {fd : FuncData} (F : Fun K "_law_pick" "_law_pick" s_law_pick f fd)
    {f_law_draw : Addr} {d_law_draw : FuncData} (F_law_draw : FnG P w K mg base CX0 1 f_law_draw d_law_draw ["pen", "many"] (lsp K T r_law_draw)) (m_law_draw : mg "_law_draw" = some (.ref f_law_draw)) (k_law_draw : PySem.W.keepIn K (.ref f_law_draw) = true) (q_law_draw : Binds K d_law_draw ["pen", "many"] []) (z_len : mg "len" = none) : FnG P w K mg base CX0 2 f fd ["pen", "some"] (lsp K T r_law_pick) := by
  refine def_ok (tb := b_law_pick) F sc_law_pick len_law_pick (fun cdv A outer s H E room hgd => ?_) run_law_pick
  have nd := sc_law_pick.nd
  have hu := Room.units room
  have hu5 := Room.u65 room
  exact (ds_one (ds_ret (de_ix (o_ixU hu5) (de_var 1 (pv 1)) (de_call F_law_draw (room.mono (by decide)) hgd (by rfl) m_law_draw k_law_draw q_law_draw (da_cons (de_var 0 (pv 0)) (da_cons (de_B c_len z_len PySem.boot_len (da_cons (de_var 1 (pv 1)) da_nil)) da_nil))) (fun _ _ => rfl))))
abbrev s_law_barred : Stmt := top 64
abbrev n_law_barred : List Str := ["passed", "square"]
theorem sc_law_barred : FnScope n_law_barred ["passed", "square"] (defScope s_law_barred) := ⟨rfl, rfl, rfl, by decide +kernel, rfl, by decide +kernel, by decide +kernel⟩
theorem ok_law_barred {f : Addr} {fd : FuncData} (F : Fun K "_law_barred" "_law_barred" s_law_barred f fd) : FnG P w K mg base CX0 1 f fd ["passed", "square"] (lsp K T r_law_barred) := by
  refine def_ok (tb := b_law_barred) F sc_law_barred len_law_barred (fun cdv A outer s H E room hgd => ?_) run_law_barred
  have nd := sc_law_barred.nd
  have hu := Room.units room
  have hu5 := Room.u65 room
  exact (ds_one (ds_ret (de_or (de_cmp (o_inU hu5) (de_var 1 (pv 1)) (de_var 0 (pv 0)) (by with_unfolding_all rfl)) (de_one (de_and (de_cmp (op_eq3 hu) (de_ix (o_ixU hu5) (de_var 1 (pv 1)) de_int (fun _ _ => rfl)) de_int (nomark _)) (de_one (de_cmp o_le (de_ix (o_ixU hu5) (de_var 1 (pv 1)) de_int (fun _ _ => rfl)) de_int (nomark _))))))))
abbrev s_law_board : Stmt := top 67
abbrev n_law_board : List Str := ["pen", "wide", "tall", "many", "low", "held", "passed", "burnt", "turn", "square"]
theorem sc_law_board : FnScope n_law_board ["pen", "wide", "tall", "many"] (defScope s_law_board) := ⟨rfl, rfl, rfl, by decide +kernel, rfl, by decide +kernel, by decide +kernel⟩
theorem ok_law_board {f : Addr} {fd : FuncData} (F : Fun K "_law_board" "_law_board" s_law_board f fd)
    {f_law_pick : Addr} {d_law_pick : FuncData} (F_law_pick : FnG P w K mg base CX0 2 f_law_pick d_law_pick ["pen", "some"] (lsp K T r_law_pick)) (m_law_pick : mg "_law_pick" = some (.ref f_law_pick)) (k_law_pick : PySem.W.keepIn K (.ref f_law_pick) = true) (q_law_pick : Binds K d_law_pick ["pen", "some"] [])
    {f_law_draw : Addr} {d_law_draw : FuncData} (F_law_draw : FnG P w K mg base CX0 1 f_law_draw d_law_draw ["pen", "many"] (lsp K T r_law_draw)) (m_law_draw : mg "_law_draw" = some (.ref f_law_draw)) (k_law_draw : PySem.W.keepIn K (.ref f_law_draw) = true) (q_law_draw : Binds K d_law_draw ["pen", "many"] [])
    {f_law_barred : Addr} {d_law_barred : FuncData} (F_law_barred : FnG P w K mg base CX0 1 f_law_barred d_law_barred ["passed", "square"] (lsp K T r_law_barred)) (m_law_barred : mg "_law_barred" = some (.ref f_law_barred)) (k_law_barred : PySem.W.keepIn K (.ref f_law_barred) = true) (q_law_barred : Binds K d_law_barred ["passed", "square"] []) (z_range : mg "range" = none) : FnG P w K mg base CX0 3 f fd ["pen", "wide", "tall", "many"] (lsp K T r_law_board) := by
  refine def_ok (tb := b_law_board) F sc_law_board len_law_board (fun cdv A outer s H E room hgd => ?_) run_law_board
  have nd := sc_law_board.nd
  have hu := Room.units room
  have hu5 := Room.u65 room
  exact (ds_cons (ds_asg (ps_asg (de_tup (da_cons (de_call F_law_pick (room.mono (by decide)) hgd (by rfl) m_law_pick k_law_pick q_law_pick (da_cons (de_var 0 (pv 0)) (da_cons (de_lst (da_cons de_int (da_cons de_int (da_cons de_int (da_cons (de_un o_neg de_int) (da_cons de_int (da_cons de_int da_nil))))))) da_nil))) (da_cons (de_lstM da_nil) (da_cons (de_lstM da_nil) (da_cons (de_lstM da_nil) da_nil))))) (dg_tp rfl (dgs_cons (dg_nm (i := 4) nd rfl (by first | exact .inl rfl | exact .inr rfl) (by first | exact .inl rfl | exact .inr rfl)) (dgs_cons (dg_nm (i := 5) nd rfl (by first | exact .inl rfl | exact .inr rfl) (by first | exact .inl rfl | exact .inr rfl)) (dgs_cons (dg_nm (i := 6) nd rfl (by first | exact .inl rfl | exact .inr rfl) (by first | exact .inl rfl | exact .inr rfl)) (dgs_cons (dg_nm (i := 7) nd rfl (by first | exact .inl rfl | exact .inr rfl) (by first | exact .inl rfl | exact .inr rfl)) dgs_nil)))))))
    (ds_cons (ds_for PassesOwn.never rfl (di_range1 (by rfl) z_range (da_cons (de_op o_add de_int (de_call F_law_draw (room.mono (by decide)) hgd (by rfl) m_law_draw k_law_draw q_law_draw (da_cons (de_var 0 (pv 0)) (da_cons (de_var 3 (pv 3)) da_nil)))) da_nil)) (dg_nm (i := 8) nd rfl (by first | exact .inl rfl | exact .inr rfl) (by first | exact .inl rfl | exact .inr rfl))
    (ds_cons (ds_set (i := 9) nd rfl (by first | exact .inl rfl | exact .inr rfl) (de_tup (da_cons (de_call F_law_draw (room.mono (by decide)) hgd (by rfl) m_law_draw k_law_draw q_law_draw (da_cons (de_var 0 (pv 0)) (da_cons (de_var 1 (pv 1)) da_nil))) (da_cons (de_op o_add (de_var 4 (pv 4)) (de_call F_law_draw (room.mono (by decide)) hgd (by rfl) m_law_draw k_law_draw q_law_draw (da_cons (de_var 0 (pv 0)) (da_cons (de_var 2 (pv 2)) da_nil)))) da_nil))))
    (ds_one (ds_expr (de_mOf (pe_bm PySem.F.plainAttrs_list PySem.F.slot_list_extend PySem.F.type_list_extend m_ext (de_var 7 (pv 7)) (da_cons (de_if (dt_cmp (o_niU hu5) (de_var 9 (pv 9)) (de_var 7 (pv 7)) (by with_unfolding_all rfl)) (de_lst (da_cons (de_var 9 (pv 9)) da_nil)) (de_lst da_nil)) da_nil)))))))
    (ds_cons (ds_for PassesOwn.never rfl (di_range1 (by rfl) z_range (da_cons (de_call F_law_pick (room.mono (by decide)) hgd (by rfl) m_law_pick k_law_pick q_law_pick (da_cons (de_var 0 (pv 0)) (da_cons (de_lst (da_cons de_int (da_cons de_int (da_cons de_int (da_cons de_int da_nil))))) da_nil))) da_nil)) (dg_nm (i := 8) nd rfl (by first | exact .inl rfl | exact .inr rfl) (by first | exact .inl rfl | exact .inr rfl))
    (ds_cons (ds_set (i := 9) nd rfl (by first | exact .inl rfl | exact .inr rfl) (de_tup (da_cons (de_call F_law_draw (room.mono (by decide)) hgd (by rfl) m_law_draw k_law_draw q_law_draw (da_cons (de_var 0 (pv 0)) (da_cons (de_op o_add (de_var 1 (pv 1)) de_int) da_nil))) (da_cons (de_op o_add (de_var 4 (pv 4)) (de_call F_law_draw (room.mono (by decide)) hgd (by rfl) m_law_draw k_law_draw q_law_draw (da_cons (de_var 0 (pv 0)) (da_cons (de_var 2 (pv 2)) da_nil)))) da_nil))))
    (ds_one (ds_expr (de_mOf (pe_bm PySem.F.plainAttrs_list PySem.F.slot_list_extend PySem.F.type_list_extend m_ext (de_var 6 (pv 6)) (da_cons (de_if (dt_cmp (o_niU hu5) (de_var 9 (pv 9)) (de_var 6 (pv 6)) (by with_unfolding_all rfl)) (de_lst (da_cons (de_var 9 (pv 9)) da_nil)) (de_lst da_nil)) da_nil)))))))
    (ds_cons (ds_for PassesOwn.never rfl (di_range1 (by rfl) z_range (da_cons (de_call F_law_pick (room.mono (by decide)) hgd (by rfl) m_law_pick k_law_pick q_law_pick (da_cons (de_var 0 (pv 0)) (da_cons (de_lst (da_cons de_int (da_cons de_int (da_cons de_int (da_cons de_int da_nil))))) da_nil))) da_nil)) (dg_nm (i := 8) nd rfl (by first | exact .inl rfl | exact .inr rfl) (by first | exact .inl rfl | exact .inr rfl))
    (ds_cons (ds_set (i := 9) nd rfl (by first | exact .inl rfl | exact .inr rfl) (de_tup (da_cons (de_call F_law_draw (room.mono (by decide)) hgd (by rfl) m_law_draw k_law_draw q_law_draw (da_cons (de_var 0 (pv 0)) (da_cons (de_var 1 (pv 1)) da_nil))) (da_cons (de_op o_add (de_var 4 (pv 4)) (de_call F_law_draw (room.mono (by decide)) hgd (by rfl) m_law_draw k_law_draw q_law_draw (da_cons (de_var 0 (pv 0)) (da_cons (de_var 2 (pv 2)) da_nil)))) da_nil))))
    (ds_one (ds_expr (de_mOf (pe_bm PySem.F.plainAttrs_list PySem.F.slot_list_extend PySem.F.type_list_extend m_ext (de_var 5 (pv 5)) (da_cons (de_if (dt_w (dw_and (dt_cmp (o_niU hu5) (de_var 9 (pv 9)) (de_var 5 (pv 5)) (by with_unfolding_all rfl)) (dw_and1 (dt_not (dt_val (de_call F_law_barred (room.mono (by decide)) hgd (by rfl) m_law_barred k_law_barred q_law_barred (da_cons (de_var 6 (pv 6)) (da_cons (de_var 9 (pv 9)) da_nil)))))))) (de_lst (da_cons (de_var 9 (pv 9)) da_nil)) (de_lst da_nil)) da_nil)))))))
    (ds_cons (ds_expr (de_mOf (pe_bm PySem.F.plainAttrs_list PySem.F.slot_list_extend PySem.F.type_list_extend m_ext (de_var 7 (pv 7)) (da_cons (de_if (dt_cmp (op_eq3 hu) (de_call F_law_draw (room.mono (by decide)) hgd (by rfl) m_law_draw k_law_draw q_law_draw (da_cons (de_var 0 (pv 0)) (da_cons de_int da_nil))) de_int (nomark _)) (de_lst (da_cons (de_tup (da_cons (de_op o_sub (de_un o_neg de_int) (de_call F_law_draw (room.mono (by decide)) hgd (by rfl) m_law_draw k_law_draw q_law_draw (da_cons (de_var 0 (pv 0)) (da_cons de_int da_nil)))) (da_cons (de_var 4 (pv 4)) da_nil))) da_nil)) (de_lst da_nil)) da_nil))))
    (ds_one (ds_ret (de_tup (da_cons (de_frz (de_var 5 (pv 5))) (da_cons (de_frz (de_var 6 (pv 6))) (da_cons (de_frz (de_var 7 (pv 7))) da_nil)))))))))))
abbrev s_need_board : Stmt := top 20
abbrev n_need_board : List Str := ["value", "part"]
theorem sc_need_board : FnScope n_need_board ["value", "part"] (defScope s_need_board) := ⟨rfl, rfl, rfl, by decide +kernel, rfl, by decide +kernel, by decide +kernel⟩
theorem ok_need_board {f : Addr} {fd : FuncData} (F : Fun K "need_board" "need_board" s_need_board f fd) {cs : Cs} (kf : KF K cs) (m_Board : mg "Board" = some (.ref cs.Board)) (E_BadBoard : ErrOk P w K mg base "BadBoard" cs.BadBoard true ["part"]) (z_isinstance : mg "isinstance" = none) : FnG P w K mg base (L2.CX P w) 3 f fd ["value", "part"] (lspx K T (r_need_board cs)) := by
  refine def_okx (tb := b_need_board K cs) F sc_need_board (len_need_board cs) (fun cdv A outer s H E w0 ED room hgd tk => ?_) (run_need_board kf)
  have nd := sc_need_board.nd
  have hu := Room.units room
  have hu5 := Room.u65 room
  exact (ds_one (ds_if (dt_not (dt_val (de_isu (pe_callB call_isu (by rfl) z_isinstance bt_isinstance (pa_cons (de_var 0 (pv 0)) (pa_cons (pe_C m_Board) pa_nil))))))
    (ds_one (ds_raiseF rfl tk E_BadBoard (by decide) (room.mono (by decide)) (by rfl) (da_cons (de_var 1 (pv 1)) da_nil)))
    ds_nil))
abbrev s_is_barred : Stmt := top 21
abbrev n_is_barred : List Str := ["passed", "square"]
theorem sc_is_barred : FnScope n_is_barred ["passed", "square"] (defScope s_is_barred) := ⟨rfl, rfl, rfl, by decide +kernel, rfl, by decide +kernel, by decide +kernel⟩
theorem ok_is_barred {f : Addr} {fd : FuncData} (F : Fun K "is_barred" "is_barred" s_is_barred f fd) : FnG P w K mg base CX0 1 f fd ["passed", "square"] (lsp K T r_is_barred) := by
  refine def_ok (tb := b_is_barred) F sc_is_barred len_is_barred (fun cdv A outer s H E room hgd => ?_) run_is_barred
  have nd := sc_is_barred.nd
  have hu := Room.units room
  have hu5 := Room.u65 room
  exact (ds_one (ds_ret (de_or (de_cmp (o_inU hu5) (de_var 1 (pv 1)) (de_var 0 (pv 0)) (by with_unfolding_all rfl)) (de_one (de_and (de_cmp (op_eq3 hu) (de_ix (o_ixU hu5) (de_var 1 (pv 1)) de_int (fun _ _ => rfl)) de_int (nomark _)) (de_one (de_cmp o_le (de_ix (o_ixU hu5) (de_var 1 (pv 1)) de_int (fun _ _ => rfl)) de_int (nomark _))))))))
abbrev s_box_around : Stmt := top 22
abbrev n_box_around : List Str := ["held", "passed", "burnt", "known", "within", "rows", "square", "_", "y", "x"]
theorem sc_box_around : FnScope n_box_around ["held", "passed", "burnt"] (defScope s_box_around) := ⟨rfl, rfl, rfl, by decide +kernel, rfl, by decide +kernel, by decide +kernel⟩
theorem ok_box_around {f : Addr} {fd : FuncData} (F : Fun K "box_around" "box_around" s_box_around f fd)
    {f_is_barred : Addr} {d_is_barred : FuncData} (F_is_barred : FnG P w K mg base CX0 1 f_is_barred d_is_barred ["passed", "square"] (lsp K T r_is_barred)) (m_is_barred : mg "is_barred" = some (.ref f_is_barred)) (k_is_barred : PySem.W.keepIn K (.ref f_is_barred) = true) (q_is_barred : Binds K d_is_barred ["passed", "square"] []) (z_max : mg "max" = none) (z_min : mg "min" = none) : FnG P w K mg base CX0 2 f fd ["held", "passed", "burnt"] (lsp K T r_box_around) := by
  refine def_ok (tb := b_box_around) F sc_box_around len_box_around (fun cdv A outer s H E room hgd => ?_) run_box_around
  have nd := sc_box_around.nd
  have hu := Room.units room
  have hu5 := Room.u65 room
  exact (ds_cons (ds_set (i := 3) nd rfl (by first | exact .inl rfl | exact .inr rfl) (de_dcT (pe_dcT (own := [("square", 6)]) (wi := tI _ (Gh.mk [] T) (sSq (eVar 1))) (g := toG _ (.nm 6)) (tt := tT _ (Gh.mk [] T) bYes) (tk := tE _ (Gh.mk [] T) (eVar 6)) (tv := tE _ (Gh.mk [] T) (eC (.bl true))) (Nat.lt_of_le_of_lt (Nat.le_add_right _ _) hu) rfl nd (di_seq (de_var 1 (pv 1))) (blkOk_by (N := n_box_around) (sc := defScope s_box_around) (by decide +kernel)) (fun _ _ _ _ _ => (dg_nm (i := 6) nd rfl (by first | exact .inl rfl | exact .inr rfl) (by first | exact .inl rfl | exact .inr rfl))) (fun _ _ _ _ _ => dts_nil) (fun _ _ _ _ _ => (de_var 6 (pv 6))) (fun _ _ _ _ _ => de_bl)) (by decide)))
    (ds_cons (ds_set (i := 4) nd rfl (by first | exact .inl rfl | exact .inr rfl) (de_lst (da_star (de_var 0 (pv 0)) (da_star (de_lcOf (pe_lc (own := [("square", 6)]) (wi := tI _ (Gh.mk [] T) (sSq (eVar 2))) (g := toG _ (.nm 6)) (tt := tT _ (Gh.mk [] T) (bAnd (bOf (eOp rGe (eOp rIxU (eVar 6) (eC (.int 0))) (eC (.int 0)))) (bNot (bOf (eCall r_is_barred (aCons (eVar 3) (aCons (eVar 6) aNil))))))) (te := tE _ (Gh.mk [] T) (eVar 6)) rfl nd (di_seq (de_var 2 (pv 2))) (blkOk_by (N := n_box_around) (sc := defScope s_box_around) (by decide +kernel)) (fun _ _ _ _ _ => (dg_nm (i := 6) nd rfl (by first | exact .inl rfl | exact .inr rfl) (by first | exact .inl rfl | exact .inr rfl))) (fun _ _ _ _ _ => (dts_one (dt_w (dw_and (dt_cmp o_ge (de_ix (o_ixU hu5) (de_var 6 (pv 6)) de_int (fun _ _ => rfl)) de_int (nomark _)) (dw_and1 (dt_not (dt_val (de_call F_is_barred (room.mono (by decide)) hgd (by rfl) m_is_barred k_is_barred q_is_barred (da_cons (de_var 3 (pv 3)) (da_cons (de_var 6 (pv 6)) da_nil)))))))))) (fun _ _ _ _ _ => (de_var 6 (pv 6)))) (by decide)) da_nil))))
    (ds_cons (ds_if (dt_cmp (op_eq3 hu) (de_var 4 (pv 4)) (de_lst da_nil) (nomark _))
    (ds_one (ds_ret de_non))
    ds_nil)
    (ds_cons (lcS (ps_setLc (i := 5) (own := [("_", 7), ("y", 8)]) (wi := tI _ (Gh.mk [] T) (sSq (eVar 4))) (g := toG _ (.tp [(.nm 7), (.nm 8)])) (tt := tT _ (Gh.mk [] T) bYes) (te := tE _ (Gh.mk [] T) (eVar 8)) rfl nd rfl rfl (sw_true rfl rfl rfl (by decide +kernel)) (di_seq (de_var 4 (pv 4))) (blkOk_by (N := n_box_around) (sc := defScope s_box_around) (by decide +kernel)) (fun _ _ _ _ _ => (dg_tp rfl (dgs_cons (dg_nm (i := 7) nd rfl (by first | exact .inl rfl | exact .inr rfl) (by first | exact .inl rfl | exact .inr rfl)) (dgs_cons (dg_nm (i := 8) nd rfl (by first | exact .inl rfl | exact .inr rfl) (by first | exact .inl rfl | exact .inr rfl)) dgs_nil)))) (fun _ _ _ _ _ => dts_nil) (fun _ _ _ _ _ => (de_var 8 (pv 8)))) (fun _ _ _ => lc_lift (by decide)))
    (ds_one (ds_ret (de_tup (da_cons (de_B (c_maxU3 rfl hu5) z_max PyProof.Rows.boot_max (da_cons (de_lcOf (pe_lc (own := [("x", 9), ("_", 7)]) (wi := tI _ (Gh.mk [] T) (sSq (eVar 4))) (g := toG _ (.tp [(.nm 9), (.nm 7)])) (tt := tT _ (Gh.mk [] T) bYes) (te := tE _ (Gh.mk [] T) (eVar 9)) rfl nd (di_seq (de_var 4 (pv 4))) (blkOk_by (N := n_box_around) (sc := defScope s_box_around) (by decide +kernel)) (fun _ _ _ _ _ => (dg_tp rfl (dgs_cons (dg_nm (i := 9) nd rfl (by first | exact .inl rfl | exact .inr rfl) (by first | exact .inl rfl | exact .inr rfl)) (dgs_cons (dg_nm (i := 7) nd rfl (by first | exact .inl rfl | exact .inr rfl) (by first | exact .inl rfl | exact .inr rfl)) dgs_nil)))) (fun _ _ _ _ _ => dts_nil) (fun _ _ _ _ _ => (de_var 9 (pv 9)))) (by decide)) da_nil)) (da_cons (de_B (c_minU rfl) z_min PyProof.Rows.boot_min (da_cons (de_var 5 (pv 5)) da_nil)) (da_cons (de_B (c_maxU3 rfl hu5) z_max PyProof.Rows.boot_max (da_cons (de_var 5 (pv 5)) da_nil)) da_nil))))))))))
abbrev s_box_of : Stmt := top 26
abbrev n_box_of : List Str := ["board"]
theorem sc_box_of : FnScope n_box_of ["board"] (defScope s_box_of) := ⟨rfl, rfl, rfl, by decide +kernel, rfl, by decide +kernel, by decide +kernel⟩
theorem ok_box_of {f : Addr} {fd : FuncData} (F : Fun K "box_of" "box_of" s_box_of f fd) {cs : Cs} (kf : KF K cs)
    {f_need_board : Addr} {d_need_board : FuncData} (F_need_board : FnG P w K mg base (L2.CX P w) 3 f_need_board d_need_board ["value", "part"] (lspx K T (r_need_board cs))) (m_need_board : mg "need_board" = some (.ref f_need_board)) (k_need_board : PySem.W.keepIn K (.ref f_need_board) = true) (q_need_board : Binds K d_need_board ["value", "part"] [])
    {f_box_around : Addr} {d_box_around : FuncData} (F_box_around : FnG P w K mg base CX0 2 f_box_around d_box_around ["held", "passed", "burnt"] (lsp K T r_box_around)) (m_box_around : mg "box_around" = some (.ref f_box_around)) (k_box_around : PySem.W.keepIn K (.ref f_box_around) = true) (q_box_around : Binds K d_box_around ["held", "passed", "burnt"] []) : FnG P w K mg base (L2.CX P w) 4 f fd ["board"] (lspx K T (r_box_of cs)) := by
  refine def_okx (tb := b_box_of K cs) F sc_box_of (len_box_of cs) (fun cdv A outer s H E w0 ED room hgd tk => ?_) (run_box_of kf)
  have nd := sc_box_of.nd
  have hu := Room.units room
  have hu5 := Room.u65 room
  exact (ds_cons (ds_expr (de_callX tk F_need_board (room.mono (by decide)) hgd m_need_board k_need_board q_need_board (da_cons (de_var 0 (pv 0)) (da_cons de_str da_nil))))
    (ds_one (ds_ret (de_call F_box_around (room.mono (by decide)) hgd (by rfl) m_box_around k_box_around q_box_around (da_cons (de_fldU (de_var 0 (pv 0))) (da_cons (de_fldU (de_var 0 (pv 0))) (da_cons (de_fldU (de_var 0 (pv 0))) da_nil)))))))
abbrev s_law_box : Stmt := top 66
abbrev n_law_box : List Str := ["held", "passed", "burnt", "some", "square"]
theorem sc_law_box : FnScope n_law_box ["held", "passed", "burnt"] (defScope s_law_box) := ⟨rfl, rfl, rfl, by decide +kernel, rfl, by decide +kernel, by decide +kernel⟩
theorem ok_law_box {f : Addr} {fd : FuncData} (F : Fun K "_law_box" "_law_box" s_law_box f fd)
    {f_law_barred : Addr} {d_law_barred : FuncData} (F_law_barred : FnG P w K mg base CX0 1 f_law_barred d_law_barred ["passed", "square"] (lsp K T r_law_barred)) (m_law_barred : mg "_law_barred" = some (.ref f_law_barred)) (k_law_barred : PySem.W.keepIn K (.ref f_law_barred) = true) (q_law_barred : Binds K d_law_barred ["passed", "square"] []) (z_list : mg "list" = none) (z_max : mg "max" = none) (z_min : mg "min" = none) : FnG P w K mg base CX0 2 f fd ["held", "passed", "burnt"] (lsp K T r_law_box) := by
  refine def_ok (tb := b_law_box) F sc_law_box len_law_box (fun cdv A outer s H E room hgd => ?_) run_law_box
  have nd := sc_law_box.nd
  have hu := Room.units room
  have hu5 := Room.u65 room
  exact (ds_cons (ds_set (i := 3) nd rfl (by first | exact .inl rfl | exact .inr rfl) (de_op o_add (de_Ty (call_orD c_list (c_listDi rfl)) z_list bt_list (da_cons (de_var 0 (pv 0)) da_nil)) (de_lcOf (pe_lc (own := [("square", 4)]) (wi := tI _ (Gh.mk [] T) (sSq (eVar 2))) (g := toG _ (.nm 4)) (tt := tT _ (Gh.mk [] T) (bAnd (bOf (eOp rGe (eOp rIxU (eVar 4) (eC (.int 0))) (eC (.int 0)))) (bNot (bOf (eCall r_law_barred (aCons (eVar 1) (aCons (eVar 4) aNil))))))) (te := tE _ (Gh.mk [] T) (eVar 4)) rfl nd (di_seq (de_var 2 (pv 2))) (blkOk_by (N := n_law_box) (sc := defScope s_law_box) (by decide +kernel)) (fun _ _ _ _ _ => (dg_nm (i := 4) nd rfl (by first | exact .inl rfl | exact .inr rfl) (by first | exact .inl rfl | exact .inr rfl))) (fun _ _ _ _ _ => (dts_one (dt_w (dw_and (dt_cmp o_ge (de_ix (o_ixU hu5) (de_var 4 (pv 4)) de_int (fun _ _ => rfl)) de_int (nomark _)) (dw_and1 (dt_not (dt_val (de_call F_law_barred (room.mono (by decide)) hgd (by rfl) m_law_barred k_law_barred q_law_barred (da_cons (de_var 1 (pv 1)) (da_cons (de_var 4 (pv 4)) da_nil)))))))))) (fun _ _ _ _ _ => (de_var 4 (pv 4)))) (by decide))))
    (ds_cons (ds_if (dt_cmp (op_eq3 hu) (de_var 3 (pv 3)) (de_lst da_nil) (nomark _))
    (ds_one (ds_ret de_non))
    ds_nil)
    (ds_one (ds_ret (de_tup (da_cons (de_B (c_maxU3 rfl hu5) z_max PyProof.Rows.boot_max (da_cons (de_lcOf (pe_lc (own := [("square", 4)]) (wi := tI _ (Gh.mk [] T) (sSq (eVar 3))) (g := toG _ (.nm 4)) (tt := tT _ (Gh.mk [] T) bYes) (te := tE _ (Gh.mk [] T) (eOp rIxU (eVar 4) (eC (.int 0)))) rfl nd (di_seq (de_var 3 (pv 3))) (blkOk_by (N := n_law_box) (sc := defScope s_law_box) (by decide +kernel)) (fun _ _ _ _ _ => (dg_nm (i := 4) nd rfl (by first | exact .inl rfl | exact .inr rfl) (by first | exact .inl rfl | exact .inr rfl))) (fun _ _ _ _ _ => dts_nil) (fun _ _ _ _ _ => (de_ix (o_ixU hu5) (de_var 4 (pv 4)) de_int (fun _ _ => rfl)))) (by decide)) da_nil)) (da_cons (de_B (c_minU rfl) z_min PyProof.Rows.boot_min (da_cons (de_lcOf (pe_lc (own := [("square", 4)]) (wi := tI _ (Gh.mk [] T) (sSq (eVar 3))) (g := toG _ (.nm 4)) (tt := tT _ (Gh.mk [] T) bYes) (te := tE _ (Gh.mk [] T) (eOp rIxU (eVar 4) (eC (.int 1)))) rfl nd (di_seq (de_var 3 (pv 3))) (blkOk_by (N := n_law_box) (sc := defScope s_law_box) (by decide +kernel)) (fun _ _ _ _ _ => (dg_nm (i := 4) nd rfl (by first | exact .inl rfl | exact .inr rfl) (by first | exact .inl rfl | exact .inr rfl))) (fun _ _ _ _ _ => dts_nil) (fun _ _ _ _ _ => (de_ix (o_ixU hu5) (de_var 4 (pv 4)) de_int (fun _ _ => rfl)))) (by decide)) da_nil)) (da_cons (de_B (c_maxU3 rfl hu5) z_max PyProof.Rows.boot_max (da_cons (de_lcOf (pe_lc (own := [("square", 4)]) (wi := tI _ (Gh.mk [] T) (sSq (eVar 3))) (g := toG _ (.nm 4)) (tt := tT _ (Gh.mk [] T) bYes) (te := tE _ (Gh.mk [] T) (eOp rIxU (eVar 4) (eC (.int 1)))) rfl nd (di_seq (de_var 3 (pv 3))) (blkOk_by (N := n_law_box) (sc := defScope s_law_box) (by decide +kernel)) (fun _ _ _ _ _ => (dg_nm (i := 4) nd rfl (by first | exact .inl rfl | exact .inr rfl) (by first | exact .inl rfl | exact .inr rfl))) (fun _ _ _ _ _ => dts_nil) (fun _ _ _ _ _ => (de_ix (o_ixU hu5) (de_var 4 (pv 4)) de_int (fun _ _ => rfl)))) (by decide)) da_nil)) da_nil))))))))
abbrev s_is_integer : Stmt := top 7
abbrev n_is_integer : List Str := ["value"]
theorem sc_is_integer : FnScope n_is_integer ["value"] (defScope s_is_integer) := ⟨rfl, rfl, rfl, by decide +kernel, rfl, by decide +kernel, by decide +kernel⟩
theorem ok_is_integer {f : Addr} {fd : FuncData} (F : Fun K "is_integer" "is_integer" s_is_integer f fd) (z_isinstance : mg "isinstance" = none) (z_bool : mg "bool" = none) (z_int : mg "int" = none) : FnG P w K mg base CX0 1 f fd ["value"] (lsp K T r_is_integer) := by
  refine def_ok (tb := b_is_integer) F sc_is_integer len_is_integer (fun cdv A outer s H E room hgd => ?_) run_is_integer
  have nd := sc_is_integer.nd
  have hu := Room.units room
  have hu5 := Room.u65 room
  exact (ds_one (ds_ret (de_and (de_isi (T := "int") (pe_callB call_isi (by rfl) z_isinstance bt_isinstance (pa_cons (de_var 0 (pv 0)) (pa_cons (pe_T z_int bt_int) pa_nil)))) (de_one (de_not (de_isi (T := "bool") (pe_callB call_isi (by rfl) z_isinstance bt_isinstance (pa_cons (de_var 0 (pv 0)) (pa_cons (pe_T z_bool bt_bool) pa_nil)))))))))
abbrev s_is_squareG : Stmt := top 9
abbrev n_is_squareG : List Str := ["value", "number"]
theorem sc_is_squareG : FnScope n_is_squareG ["value"] (defScope s_is_squareG) := ⟨rfl, rfl, rfl, by decide +kernel, rfl, by decide +kernel, by decide +kernel⟩
theorem ok_is_squareG {f : Addr} {fd : FuncData} (F : Fun K "is_square" "is_square" s_is_squareG f fd)
    {f_is_integer : Addr} {d_is_integer : FuncData} (F_is_integer : FnG P w K mg base CX0 1 f_is_integer d_is_integer ["value"] (lsp K T r_is_integer)) (m_is_integer : mg "is_integer" = some (.ref f_is_integer)) (k_is_integer : PySem.W.keepIn K (.ref f_is_integer) = true) (q_is_integer : Binds K d_is_integer ["value"] []) (z_all : mg "all" = none) (z_len : mg "len" = none) (z_isinstance : mg "isinstance" = none) (z_list : mg "list" = none) (z_tuple : mg "tuple" = none) : FnG P w K mg base CX0 2 f fd ["value"] (lsp K T r_is_squareG) := by
  refine def_ok (tb := b_is_squareG) F sc_is_squareG len_is_squareG (fun cdv A outer s H E room hgd => ?_) run_is_squareG
  have nd := sc_is_squareG.nd
  have hu := Room.units room
  have hu5 := Room.u65 room
  exact (ds_one (ds_ret (de_and (de_isi2 (T1 := "list") (T2 := "tuple") (pe_callB call_isiT (by rfl) z_isinstance bt_isinstance (pa_cons (de_var 0 (pv 0)) (pa_cons (pe_tup (pa_cons (pe_T z_list bt_list) (pa_cons (pe_T z_tuple bt_tuple) pa_nil))) pa_nil)))) (de_and (de_cmp (op_eq3 hu) (de_B c_len z_len PySem.boot_len (da_cons (de_var 0 (pv 0)) da_nil)) de_int (nomark _)) (de_one (de_B (c_all rfl) z_all bt_all (da_cons (de_lcOf (pe_lc (own := [("number", 1)]) (wi := tI _ (Gh.mk [] T) (sSq (eVar 0))) (g := toG _ (.nm 1)) (tt := tT _ (Gh.mk [] T) bYes) (te := tE _ (Gh.mk [] T) (eCall r_is_integer (aCons (eVar 1) aNil))) rfl nd (di_seq (de_var 0 (pv 0))) (blkOk_by (N := n_is_squareG) (sc := defScope s_is_squareG) (by decide +kernel)) (fun _ _ _ _ _ => (dg_nm (i := 1) nd rfl (by first | exact .inl rfl | exact .inr rfl) (by first | exact .inl rfl | exact .inr rfl))) (fun _ _ _ _ _ => dts_nil) (fun _ _ _ _ _ => (de_call F_is_integer (room.mono (by decide)) hgd (by rfl) m_is_integer k_is_integer q_is_integer (da_cons (de_var 1 (pv 1)) da_nil)))) (by decide)) da_nil)))))))
abbrev s_are_squaresG : Stmt := top 10
abbrev n_are_squaresG : List Str := ["value", "each"]
theorem sc_are_squaresG : FnScope n_are_squaresG ["value"] (defScope s_are_squaresG) := ⟨rfl, rfl, rfl, by decide +kernel, rfl, by decide +kernel, by decide +kernel⟩
theorem ok_are_squaresG {f : Addr} {fd : FuncData} (F : Fun K "are_squares" "are_squares" s_are_squaresG f fd)
    {f_is_squareG : Addr} {d_is_squareG : FuncData} (F_is_squareG : FnG P w K mg base CX0 2 f_is_squareG d_is_squareG ["value"] (lsp K T r_is_squareG)) (m_is_squareG : mg "is_square" = some (.ref f_is_squareG)) (k_is_squareG : PySem.W.keepIn K (.ref f_is_squareG) = true) (q_is_squareG : Binds K d_is_squareG ["value"] []) (z_all : mg "all" = none) (z_isinstance : mg "isinstance" = none) (z_list : mg "list" = none) (z_tuple : mg "tuple" = none) (z_len : mg "len" = none) (z_set : mg "set" = none) : FnG P w K mg base CX0 3 f fd ["value"] (lsp K T r_are_squaresG) := by
  refine def_ok (tb := b_are_squaresG) F sc_are_squaresG len_are_squaresG (fun cdv A outer s H E room hgd => ?_) run_are_squaresG
  have nd := sc_are_squaresG.nd
  have hu := Room.units room
  have hu5 := Room.u65 room
  exact (ds_cons (ds_if (dt_w (dw_or (dt_not (dt_val (de_isi2 (T1 := "list") (T2 := "tuple") (pe_callB call_isiT (by rfl) z_isinstance bt_isinstance (pa_cons (de_var 0 (pv 0)) (pa_cons (pe_tup (pa_cons (pe_T z_list bt_list) (pa_cons (pe_T z_tuple bt_tuple) pa_nil))) pa_nil)))))) (dw_or1 (dt_not (dt_val (de_B (c_all rfl) z_all bt_all (da_cons (de_lcOf (pe_lc (own := [("each", 1)]) (wi := tI _ (Gh.mk [] T) (sSq (eVar 0))) (g := toG _ (.nm 1)) (tt := tT _ (Gh.mk [] T) bYes) (te := tE _ (Gh.mk [] T) (eCall r_is_squareG (aCons (eVar 1) aNil))) rfl nd (di_seq (de_var 0 (pv 0))) (blkOk_by (N := n_are_squaresG) (sc := defScope s_are_squaresG) (by decide +kernel)) (fun _ _ _ _ _ => (dg_nm (i := 1) nd rfl (by first | exact .inl rfl | exact .inr rfl) (by first | exact .inl rfl | exact .inr rfl))) (fun _ _ _ _ _ => dts_nil) (fun _ _ _ _ _ => (de_call F_is_squareG (room.mono (by decide)) hgd (by rfl) m_is_squareG k_is_squareG q_is_squareG (da_cons (de_var 1 (pv 1)) da_nil)))) (by decide)) da_nil)))))))
    (ds_one (ds_ret de_bl))
    ds_nil)
    (ds_one (ds_ret (de_cmp (op_eq3 hu) (de_lenSet (pe_callB c_lenSet (by rfl) z_len PySem.boot_len (pa_cons (pe_callTy (cr_setOfT rfl hu) (by rfl) z_set bt_set (pa_cons (de_lcOf (pe_lc (own := [("each", 1)]) (wi := tI _ (Gh.mk [] T) (sSq (eVar 0))) (g := toG _ (.nm 1)) (tt := tT _ (Gh.mk [] T) bYes) (te := tE _ (Gh.mk [] T) (eB rTuple (aCons (eVar 1) aNil))) rfl nd (di_seq (de_var 0 (pv 0))) (blkOk_by (N := n_are_squaresG) (sc := defScope s_are_squaresG) (by decide +kernel)) (fun _ _ _ _ _ => (dg_nm (i := 1) nd rfl (by first | exact .inl rfl | exact .inr rfl) (by first | exact .inl rfl | exact .inr rfl))) (fun _ _ _ _ _ => dts_nil) (fun _ _ _ _ _ => (de_Ty c_tuple z_tuple bt_tuple (da_cons (de_var 1 (pv 1)) da_nil)))) (by decide)) pa_nil)) pa_nil))) (de_B c_len z_len PySem.boot_len (da_cons (de_var 0 (pv 0)) da_nil)) (nomark _)))))
abbrev s_need_squaresG : Stmt := top 12
abbrev n_need_squaresG : List Str := ["value", "part", "each"]
theorem sc_need_squaresG : FnScope n_need_squaresG ["value", "part"] (defScope s_need_squaresG) := ⟨rfl, rfl, rfl, by decide +kernel, rfl, by decide +kernel, by decide +kernel⟩
theorem ok_need_squaresG {f : Addr} {fd : FuncData} (F : Fun K "need_squares" "need_squares" s_need_squaresG f fd) {cs : Cs} (kf : KF K cs) (E_BadSquares : ErrOk P w K mg base "BadSquares" cs.BadSquares true ["part"])
    {f_are_squaresG : Addr} {d_are_squaresG : FuncData} (F_are_squaresG : FnG P w K mg base CX0 3 f_are_squaresG d_are_squaresG ["value"] (lsp K T r_are_squaresG)) (m_are_squaresG : mg "are_squares" = some (.ref f_are_squaresG)) (k_are_squaresG : PySem.W.keepIn K (.ref f_are_squaresG) = true) (q_are_squaresG : Binds K d_are_squaresG ["value"] []) (z_tuple : mg "tuple" = none) (z_sorted : mg "sorted" = none) : FnG P w K mg base (L2.CX P w) 4 f fd ["value", "part"] (lspx K T (r_need_squaresG cs)) := by
  refine def_okx (tb := b_need_squaresG K cs) F sc_need_squaresG (len_need_squaresG cs) (fun cdv A outer s H E w0 ED room hgd tk => ?_) run_need_squaresG
  have nd := sc_need_squaresG.nd
  have hu := Room.units room
  have hu5 := Room.u65 room
  exact (ds_cons (ds_if (dt_not (dt_val (de_call F_are_squaresG (room.mono (by decide)) hgd (by rfl) m_are_squaresG k_are_squaresG q_are_squaresG (da_cons (de_var 0 (pv 0)) da_nil))))
    (ds_one (ds_raiseF rfl tk E_BadSquares (by decide) (room.mono (by decide)) (by rfl) (da_cons (de_var 1 (pv 1)) da_nil)))
    ds_nil)
    (ds_one (ds_ret (de_Ty c_tuple z_tuple bt_tuple (da_cons (de_B c_sortP z_sorted bt_sorted (da_cons (de_lcOf (pe_lc (own := [("each", 2)]) (wi := tI _ (Gh.mk [w0] T) (sSq (eVar 0))) (g := toG _ (.nm 2)) (tt := tT _ (Gh.mk [w0] T) bYes) (te := tE _ (Gh.mk [w0] T) (eB rTuple (aCons (eVar 2) aNil))) rfl nd (di_seq (de_var 0 (pv 0))) (blkOk_by (N := n_need_squaresG) (sc := defScope s_need_squaresG) (by decide +kernel)) (fun _ _ _ _ _ => (dg_nm (i := 2) nd rfl (by first | exact .inl rfl | exact .inr rfl) (by first | exact .inl rfl | exact .inr rfl))) (fun _ _ _ _ _ => dts_nil) (fun _ _ _ _ _ => (de_Ty c_tuple z_tuple bt_tuple (da_cons (de_var 2 (pv 2)) da_nil)))) (by decide)) da_nil)) da_nil)))))
abbrev s_Board_init : Stmt := clsItem (top 24) 0
abbrev n_Board_init : List Str := ["self", "held", "passed", "burnt", "kept", "gone", "fire", "known", "square"]
theorem sc_Board_init : FnScope n_Board_init ["self", "held", "passed", "burnt"] (defScope s_Board_init) := ⟨rfl, rfl, rfl, by decide +kernel, rfl, by decide +kernel, by decide +kernel⟩
theorem ok_Board_init {f : Addr} {fd : FuncData} (F : Fun K "__init__" "Board.__init__" s_Board_init f fd) {cs : Cs} (kf : KF K cs) (E_Misfit : ErrOk P w K mg base "Misfit" cs.Misfit true ["part"])
    {f_need_squaresG : Addr} {d_need_squaresG : FuncData} (F_need_squaresG : FnG P w K mg base (L2.CX P w) 4 f_need_squaresG d_need_squaresG ["value", "part"] (lspx K T (r_need_squaresG cs))) (m_need_squaresG : mg "need_squares" = some (.ref f_need_squaresG)) (k_need_squaresG : PySem.W.keepIn K (.ref f_need_squaresG) = true) (q_need_squaresG : Binds K d_need_squaresG ["value", "part"] [])
    {f_is_barred : Addr} {d_is_barred : FuncData} (F_is_barred : FnG P w K mg base CX0 1 f_is_barred d_is_barred ["passed", "square"] (lsp K T r_is_barred)) (m_is_barred : mg "is_barred" = some (.ref f_is_barred)) (k_is_barred : PySem.W.keepIn K (.ref f_is_barred) = true) (q_is_barred : Binds K d_is_barred ["passed", "square"] []) (z_any : mg "any" = none) : FnG P w K mg base (L2.CX P w) 5 f fd ["self", "held", "passed", "burnt"] (lspx K T (r_Board_init cs)) := by
  refine def_okx (tb := b_Board_init K cs) F sc_Board_init (len_Board_init cs) (fun cdv A outer s H E w0 ED room hgd tk => ?_) (run_Board_init kf)
  have nd := sc_Board_init.nd
  have hu := Room.units room
  have hu5 := Room.u65 room
  exact (ds_cons (ds_par3 (ps_par3 (i := 4) (j := 5) (l := 6) rfl nd rfl rfl rfl (by decide) (by decide) (by decide) rfl rfl rfl (da_cons (de_callX tk F_need_squaresG (room.mono (by decide)) hgd m_need_squaresG k_need_squaresG q_need_squaresG (da_cons (de_var 1 (pv 1)) (da_cons de_str da_nil))) (da_cons (de_callX tk F_need_squaresG (room.mono (by decide)) hgd m_need_squaresG k_need_squaresG q_need_squaresG (da_cons (de_var 2 (pv 2)) (da_cons de_str da_nil))) (da_cons (de_callX tk F_need_squaresG (room.mono (by decide)) hgd m_need_squaresG k_need_squaresG q_need_squaresG (da_cons (de_var 3 (pv 3)) (da_cons de_str da_nil))) da_nil))) rfl))
    (ds_cons (ds_set (i := 7) nd rfl (by first | exact .inl rfl | exact .inr rfl) (de_dcT (pe_dcT (own := [("square", 8)]) (wi := tI _ (Gh.mk [w0] T) (sSq (eVar 5))) (g := toG _ (.nm 8)) (tt := tT _ (Gh.mk [w0] T) bYes) (tk := tE _ (Gh.mk [w0] T) (eVar 8)) (tv := tE _ (Gh.mk [w0] T) (eC (.bl true))) (Nat.lt_of_le_of_lt (Nat.le_add_right _ _) hu) rfl nd (di_seq (de_var 5 (pv 5))) (blkOk_by (N := n_Board_init) (sc := defScope s_Board_init) (by decide +kernel)) (fun _ _ _ _ _ => (dg_nm (i := 8) nd rfl (by first | exact .inl rfl | exact .inr rfl) (by first | exact .inl rfl | exact .inr rfl))) (fun _ _ _ _ _ => dts_nil) (fun _ _ _ _ _ => (de_var 8 (pv 8))) (fun _ _ _ _ _ => de_bl)) (by decide)))
    (ds_cons (ds_if (dt_val (de_B (c_any rfl) z_any bt_any (da_cons (de_lcOf (pe_lc (own := [("square", 8)]) (wi := tI _ (Gh.mk [w0] T) (sSq (eVar 4))) (g := toG _ (.nm 8)) (tt := tT _ (Gh.mk [w0] T) bYes) (te := tE _ (Gh.mk [w0] T) (eOr (eOp rLtU (eOp rIxU (eVar 8) (eC (.int 0))) (eC (.int 0))) (eCall r_is_barred (aCons (eVar 7) (aCons (eVar 8) aNil))))) rfl nd (di_seq (de_var 4 (pv 4))) (blkOk_by (N := n_Board_init) (sc := defScope s_Board_init) (by decide +kernel)) (fun _ _ _ _ _ => (dg_nm (i := 8) nd rfl (by first | exact .inl rfl | exact .inr rfl) (by first | exact .inl rfl | exact .inr rfl))) (fun _ _ _ _ _ => dts_nil) (fun _ _ _ _ _ => (de_or (de_cmp (o_ltV hu) (de_ix (o_ixU hu5) (de_var 8 (pv 8)) de_int (fun _ _ => rfl)) de_int (nomark _)) (de_one (de_call F_is_barred (room.mono (by decide)) hgd (by rfl) m_is_barred k_is_barred q_is_barred (da_cons (de_var 7 (pv 7)) (da_cons (de_var 8 (pv 8)) da_nil))))))) (by decide)) da_nil)))
    (ds_one (ds_raiseF rfl tk E_Misfit (by decide) (room.mono (by decide)) (by rfl) (da_cons de_str da_nil)))
    ds_nil)
    (ds_cons (ds_fldP (de_var 0 (pv 0)) (de_var 4 (pv 4)))
    (ds_cons (ds_fldP (de_var 0 (pv 0)) (de_var 5 (pv 5)))
    (ds_one (ds_fldP (de_var 0 (pv 0)) (de_var 6 (pv 6)))))))))
abbrev s_need_squareG : Stmt := top 11
abbrev n_need_squareG : List Str := ["value", "part"]
theorem sc_need_squareG : FnScope n_need_squareG ["value", "part"] (defScope s_need_squareG) := ⟨rfl, rfl, rfl, by decide +kernel, rfl, by decide +kernel, by decide +kernel⟩
theorem ok_need_squareG {f : Addr} {fd : FuncData} (F : Fun K "need_square" "need_square" s_need_squareG f fd) {cs : Cs} (kf : KF K cs) (E_BadSquare : ErrOk P w K mg base "BadSquare" cs.BadSquare true ["part"])
    {f_is_squareG : Addr} {d_is_squareG : FuncData} (F_is_squareG : FnG P w K mg base CX0 2 f_is_squareG d_is_squareG ["value"] (lsp K T r_is_squareG)) (m_is_squareG : mg "is_square" = some (.ref f_is_squareG)) (k_is_squareG : PySem.W.keepIn K (.ref f_is_squareG) = true) (q_is_squareG : Binds K d_is_squareG ["value"] []) (z_tuple : mg "tuple" = none) : FnG P w K mg base (L2.CX P w) 3 f fd ["value", "part"] (lspx K T (r_need_squareG cs)) := by
  refine def_okx (tb := b_need_squareG K cs) F sc_need_squareG (len_need_squareG cs) (fun cdv A outer s H E w0 ED room hgd tk => ?_) run_need_squareG
  have nd := sc_need_squareG.nd
  have hu := Room.units room
  have hu5 := Room.u65 room
  exact (ds_cons (ds_if (dt_not (dt_val (de_call F_is_squareG (room.mono (by decide)) hgd (by rfl) m_is_squareG k_is_squareG q_is_squareG (da_cons (de_var 0 (pv 0)) da_nil))))
    (ds_one (ds_raiseF rfl tk E_BadSquare (by decide) (room.mono (by decide)) (by rfl) (da_cons (de_var 1 (pv 1)) da_nil)))
    ds_nil)
    (ds_one (ds_ret (de_Ty c_tuple z_tuple bt_tuple (da_cons (de_var 0 (pv 0)) da_nil)))))
abbrev s_Board_is_passed : Stmt := clsItem (top 24) 1
abbrev n_Board_is_passed : List Str := ["self", "square"]
theorem sc_Board_is_passed : FnScope n_Board_is_passed ["self", "square"] (defScope s_Board_is_passed) := ⟨rfl, rfl, rfl, by decide +kernel, rfl, by decide +kernel, by decide +kernel⟩
theorem ok_Board_is_passed {f : Addr} {fd : FuncData} (F : Fun K "is_passed" "Board.is_passed" s_Board_is_passed f fd) {cs : Cs} (kf : KF K cs)
    {f_is_barred : Addr} {d_is_barred : FuncData} (F_is_barred : FnG P w K mg base CX0 1 f_is_barred d_is_barred ["passed", "square"] (lsp K T r_is_barred)) (m_is_barred : mg "is_barred" = some (.ref f_is_barred)) (k_is_barred : PySem.W.keepIn K (.ref f_is_barred) = true) (q_is_barred : Binds K d_is_barred ["passed", "square"] [])
    {f_need_squareG : Addr} {d_need_squareG : FuncData} (F_need_squareG : FnG P w K mg base (L2.CX P w) 3 f_need_squareG d_need_squareG ["value", "part"] (lspx K T (r_need_squareG cs))) (m_need_squareG : mg "need_square" = some (.ref f_need_squareG)) (k_need_squareG : PySem.W.keepIn K (.ref f_need_squareG) = true) (q_need_squareG : Binds K d_need_squareG ["value", "part"] []) : FnG P w K mg base (L2.CX P w) 4 f fd ["self", "square"] (lspx K T (r_Board_is_passed cs)) := by
  refine def_okx (tb := b_Board_is_passed K cs) F sc_Board_is_passed (len_Board_is_passed cs) (fun cdv A outer s H E w0 ED room hgd tk => ?_) (run_Board_is_passed kf)
  have nd := sc_Board_is_passed.nd
  have hu := Room.units room
  have hu5 := Room.u65 room
  exact (ds_one (ds_ret (de_call F_is_barred (room.mono (by decide)) hgd (by rfl) m_is_barred k_is_barred q_is_barred (da_cons (de_fldU (de_var 0 (pv 0))) (da_cons (de_callX tk F_need_squareG (room.mono (by decide)) hgd m_need_squareG k_need_squareG q_need_squareG (da_cons (de_var 1 (pv 1)) (da_cons de_str da_nil))) da_nil)))))
abbrev s_Board_eq : Stmt := clsItem (top 24) 2
abbrev n_Board_eq : List Str := ["self", "other"]
theorem sc_Board_eq : FnScope n_Board_eq ["self", "other"] (defScope s_Board_eq) := ⟨rfl, rfl, rfl, by decide +kernel, rfl, by decide +kernel, by decide +kernel⟩
theorem ok_Board_eq {f : Addr} {fd : FuncData} (F : Fun K "__eq__" "Board.__eq__" s_Board_eq f fd) {cs : Cs} (kf : KF K cs) (m_Board : mg "Board" = some (.ref cs.Board)) (z_isinstance : mg "isinstance" = none) : FnG P w K mg base CX0 1 f fd ["self", "other"] (lsp K T (r_Board_eq cs)) := by
  refine def_ok (tb := b_Board_eq K cs) F sc_Board_eq (len_Board_eq cs) (fun cdv A outer s H E room hgd => ?_) (run_Board_eq kf)
  have nd := sc_Board_eq.nd
  have hu := Room.units room
  have hu5 := Room.u65 room
  exact (ds_cons (ds_if (dt_not (dt_val (de_isu (pe_callB call_isu (by rfl) z_isinstance bt_isinstance (pa_cons (de_var 1 (pv 1)) (pa_cons (pe_C m_Board) pa_nil))))))
    (ds_one (ds_ret de_bl))
    ds_nil)
    (ds_one (ds_ret (de_cmp (op_eq3 hu) (de_tup (da_cons (de_fldU (de_var 0 (pv 0))) (da_cons (de_fldU (de_var 0 (pv 0))) (da_cons (de_fldU (de_var 0 (pv 0))) da_nil)))) (de_tup (da_cons (de_fldU (de_var 1 (pv 1))) (da_cons (de_fldU (de_var 1 (pv 1))) (da_cons (de_fldU (de_var 1 (pv 1))) da_nil)))) (nomark _)))))
abbrev s_law_kept_right : Stmt := top 69
abbrev n_law_kept_right : List Str := ["pen", "held", "passed", "burnt", "handed", "board", "due", "again", "other", "spots", "square", "spot", "some", "turn"]
theorem sc_law_kept_right : FnScope n_law_kept_right ["pen"] (defScope s_law_kept_right) := ⟨rfl, rfl, rfl, by decide +kernel, rfl, by decide +kernel, by decide +kernel⟩
theorem ok_law_kept_right {f : Addr} {fd : FuncData} (F : Fun K "_law_kept_right" "_law_kept_right" s_law_kept_right f fd) {cs : Cs} (kf : KF K cs) (m_Board : mg "Board" = some (.ref cs.Board))
    {f_law_board : Addr} {d_law_board : FuncData} (F_law_board : FnG P w K mg base CX0 3 f_law_board d_law_board ["pen", "wide", "tall", "many"] (lsp K T r_law_board)) (m_law_board : mg "_law_board" = some (.ref f_law_board)) (k_law_board : PySem.W.keepIn K (.ref f_law_board) = true) (q_law_board : Binds K d_law_board ["pen", "wide", "tall", "many"] [])
    {f_Board_init : Addr} {d_Board_init : FuncData} (F_Board_init : FnG P w K mg base (L2.CX P w) 5 f_Board_init d_Board_init ["self", "held", "passed", "burnt"] (lspx K T (r_Board_init cs))) (q_Board_init : Binds K d_Board_init ["self", "held", "passed", "burnt"] [])
    {f_Board_eq : Addr} {d_Board_eq : FuncData} (F_Board_eq : FnG P w K mg base CX0 1 f_Board_eq d_Board_eq ["self", "other"] (lsp K T (r_Board_eq cs))) (q_Board_eq : Binds K d_Board_eq ["self", "other"] [])
    {f_box_of : Addr} {d_box_of : FuncData} (F_box_of : FnG P w K mg base (L2.CX P w) 4 f_box_of d_box_of ["board"] (lspx K T (r_box_of cs))) (m_box_of : mg "box_of" = some (.ref f_box_of)) (k_box_of : PySem.W.keepIn K (.ref f_box_of) = true) (q_box_of : Binds K d_box_of ["board"] [])
    {f_law_box : Addr} {d_law_box : FuncData} (F_law_box : FnG P w K mg base CX0 2 f_law_box d_law_box ["held", "passed", "burnt"] (lsp K T r_law_box)) (m_law_box : mg "_law_box" = some (.ref f_law_box)) (k_law_box : PySem.W.keepIn K (.ref f_law_box) = true) (q_law_box : Binds K d_law_box ["held", "passed", "burnt"] [])
    {f_law_draw : Addr} {d_law_draw : FuncData} (F_law_draw : FnG P w K mg base CX0 1 f_law_draw d_law_draw ["pen", "many"] (lsp K T r_law_draw)) (m_law_draw : mg "_law_draw" = some (.ref f_law_draw)) (k_law_draw : PySem.W.keepIn K (.ref f_law_draw) = true) (q_law_draw : Binds K d_law_draw ["pen", "many"] [])
    {f_Board_is_passed : Addr} {d_Board_is_passed : FuncData} (F_Board_is_passed : FnG P w K mg base (L2.CX P w) 4 f_Board_is_passed d_Board_is_passed ["self", "square"] (lspx K T (r_Board_is_passed cs))) (q_Board_is_passed : Binds K d_Board_is_passed ["self", "square"] [])
    {f_law_barred : Addr} {d_law_barred : FuncData} (F_law_barred : FnG P w K mg base CX0 1 f_law_barred d_law_barred ["passed", "square"] (lsp K T r_law_barred)) (m_law_barred : mg "_law_barred" = some (.ref f_law_barred)) (k_law_barred : PySem.W.keepIn K (.ref f_law_barred) = true) (q_law_barred : Binds K d_law_barred ["passed", "square"] [])
    (kw_Board_init_0_burnt_held_passed : KwM K d_Board_init ["self", "held", "passed", "burnt"] 0 ["burnt", "held", "passed"] [1, 2, 0])
    (kw_Board_is_passed_0_square : KwM K d_Board_is_passed ["self", "square"] 0 ["square"] [0]) (mt_Board_is_passed : Meth K cs.Board "is_passed" f_Board_is_passed) (M_Board : Mk K cs.Board f_Board_init) (e_Board : PySem.W.findIn K (.ref cs.Board) "__eq__" = some (some (.ref f_Board_eq))) (i_Board : PySem.W.isFn K (.ref f_Board_eq) = true) (ne_Board : PySem.W.findIn K (.ref cs.Board) "__ne__" = some (some (.builtin "object.__ne__"))) (z_list : mg "list" = none) (z_repr : mg "repr" = none) (z_tuple : mg "tuple" = none) (z_sorted : mg "sorted" = none) (z_range : mg "range" = none) : FnG P w K mg base CX0 7 f fd ["pen"] (lsp K T (r_law_kept_right cs)) := by
  refine def_ok (tb := b_law_kept_right K cs) F sc_law_kept_right (len_law_kept_right cs) (fun cdv A outer s H E room hgd => ?_) (run_law_kept_right kf)
  have nd := sc_law_kept_right.nd
  have hu := Room.units room
  have hu5 := Room.u65 room
  exact (ds_cons (ds_asg (ps_asg (de_call F_law_board (room.mono (by decide)) hgd (by rfl) m_law_board k_law_board q_law_board (da_cons (de_var 0 (pv 0)) (da_cons de_int (da_cons de_int (da_cons de_int da_nil))))) (dg_tp rfl (dgs_cons (dg_nm (i := 1) nd rfl (by first | exact .inl rfl | exact .inr rfl) (by first | exact .inl rfl | exact .inr rfl)) (dgs_cons (dg_nm (i := 2) nd rfl (by first | exact .inl rfl | exact .inr rfl) (by first | exact .inl rfl | exact .inr rfl)) (dgs_cons (dg_nm (i := 3) nd rfl (by first | exact .inl rfl | exact .inr rfl) (by first | exact .inl rfl | exact .inr rfl)) dgs_nil))))))
    (ds_cons (ds_set (i := 4) nd rfl (by first | exact .inl rfl | exact .inr rfl) (de_lstM (da_cons (de_lcMOf (pe_lc (own := [("square", 10)]) (wi := tI _ (Gh.mk [] T) (sSq (eVar 1))) (g := toG _ (.nm 10)) (tt := tT _ (Gh.mk [] T) bYes) (te := tE _ (Gh.mk [] T) (eB rListM (aCons (eVar 10) aNil))) rfl nd (di_seq (de_var 1 (pv 1))) (blkOk_by (N := n_law_kept_right) (sc := defScope s_law_kept_right) (by decide +kernel)) (fun _ _ _ _ _ => (dg_nm (i := 10) nd rfl (by first | exact .inl rfl | exact .inr rfl) (by first | exact .inl rfl | exact .inr rfl))) (fun _ _ _ _ _ => dts_nil) (fun _ _ _ _ _ => (de_Ty c_listM z_list bt_list (da_cons (de_var 10 (pv 10)) da_nil)))) (by decide)) (da_cons (de_lcMOf (pe_lc (own := [("square", 10)]) (wi := tI _ (Gh.mk [] T) (sSq (eVar 2))) (g := toG _ (.nm 10)) (tt := tT _ (Gh.mk [] T) bYes) (te := tE _ (Gh.mk [] T) (eB rListM (aCons (eVar 10) aNil))) rfl nd (di_seq (de_var 2 (pv 2))) (blkOk_by (N := n_law_kept_right) (sc := defScope s_law_kept_right) (by decide +kernel)) (fun _ _ _ _ _ => (dg_nm (i := 10) nd rfl (by first | exact .inl rfl | exact .inr rfl) (by first | exact .inl rfl | exact .inr rfl))) (fun _ _ _ _ _ => dts_nil) (fun _ _ _ _ _ => (de_Ty c_listM z_list bt_list (da_cons (de_var 10 (pv 10)) da_nil)))) (by decide)) (da_cons (de_lcMOf (pe_lc (own := [("square", 10)]) (wi := tI _ (Gh.mk [] T) (sSq (eVar 3))) (g := toG _ (.nm 10)) (tt := tT _ (Gh.mk [] T) bYes) (te := tE _ (Gh.mk [] T) (eB rListM (aCons (eVar 10) aNil))) rfl nd (di_seq (de_var 3 (pv 3))) (blkOk_by (N := n_law_kept_right) (sc := defScope s_law_kept_right) (by decide +kernel)) (fun _ _ _ _ _ => (dg_nm (i := 10) nd rfl (by first | exact .inl rfl | exact .inr rfl) (by first | exact .inl rfl | exact .inr rfl))) (fun _ _ _ _ _ => dts_nil) (fun _ _ _ _ _ => (de_Ty c_listM z_list bt_list (da_cons (de_var 10 (pv 10)) da_nil)))) (by decide)) da_nil)))))
    (ds_cons (ds_set (i := 5) nd rfl (by first | exact .inl rfl | exact .inr rfl) (de_frzO (de_makeKN M_Board F_Board_init (room.mono (by decide)) hgd m_Board kw_Board_init_0_burnt_held_passed (dk_cons (de_ix (o_ixU hu5) (de_var 4 (pv 4)) de_int (fun _ _ => rfl)) (dk_cons (de_ix (o_ixU hu5) (de_var 4 (pv 4)) de_int (fun _ _ => rfl)) (dk_cons (de_ix (o_ixU hu5) (de_var 4 (pv 4)) de_int (fun _ _ => rfl)) dk_nil))) rfl)))
    (ds_cons (ds_set (i := 6) nd rfl (by first | exact .inl rfl | exact .inr rfl) (de_B (c_repr hgd hu) z_repr bt_repr (da_cons (de_tup (da_cons (de_Ty c_tuple z_tuple bt_tuple (da_cons (de_B c_sortP z_sorted bt_sorted (da_cons (de_var 1 (pv 1)) da_nil)) da_nil)) (da_cons (de_Ty c_tuple z_tuple bt_tuple (da_cons (de_B c_sortP z_sorted bt_sorted (da_cons (de_var 2 (pv 2)) da_nil)) da_nil)) (da_cons (de_Ty c_tuple z_tuple bt_tuple (da_cons (de_B c_sortP z_sorted bt_sorted (da_cons (de_var 3 (pv 3)) da_nil)) da_nil)) da_nil)))) da_nil)))
    (ds_cons (ds_if (dt_w (dw_or (dt_cmp (op_ne3 hu) (de_B (c_repr hgd hu) z_repr bt_repr (da_cons (de_tup (da_cons (de_fldU (de_var 5 (pv 5))) (da_cons (de_fldU (de_var 5 (pv 5))) (da_cons (de_fldU (de_var 5 (pv 5))) da_nil)))) da_nil)) (de_var 6 (pv 6)) (nomark _)) (dw_or1 (dt_cmp (op_neH hu) (de_var 4 (pv 4)) (de_lcOf (pe_lc (own := [("some", 12)]) (wi := tI _ (Gh.mk [] T) (sSq (eTup (aCons (eVar 1) (aCons (eVar 2) (aCons (eVar 3) aNil)))))) (g := toG _ (.nm 12)) (tt := tT _ (Gh.mk [] T) bYes) (te := tE _ (Gh.mk [] T) (eLc (sSq (eVar 12)) (.nm 10) bYes (eB rListU (aCons (eVar 10) aNil)) [10])) rfl nd (di_seq (de_tup (da_cons (de_var 1 (pv 1)) (da_cons (de_var 2 (pv 2)) (da_cons (de_var 3 (pv 3)) da_nil))))) (blkOk_by (N := n_law_kept_right) (sc := defScope s_law_kept_right) (by decide +kernel)) (fun _ _ _ _ _ => (dg_nm (i := 12) nd rfl (by first | exact .inl rfl | exact .inr rfl) (by first | exact .inl rfl | exact .inr rfl))) (fun _ _ _ _ _ => dts_nil) (fun _ _ _ _ _ => (de_lcOf (pe_lc (own := [("square", 10)]) (wi := tI _ (Gh.mk [] T) (sSq (eVar 12))) (g := toG _ (.nm 10)) (tt := tT _ (Gh.mk [] T) bYes) (te := tE _ (Gh.mk [] T) (eB rListU (aCons (eVar 10) aNil))) rfl nd (di_seq (de_var 12 (pv 12))) (blkOk_by (by kernel_rfl)) (fun _ _ _ _ _ => (dg_nm (i := 10) nd rfl (by first | exact .inl rfl | exact .inr rfl) (by first | exact .inl rfl | exact .inr rfl))) (fun _ _ _ _ _ => dts_nil) (fun _ _ _ _ _ => (de_Ty (call_orD c_list (c_listDi rfl)) z_list bt_list (da_cons (de_var 10 (pv 10)) da_nil)))) (by decide)))) (by decide)) (nomark _)))))
    (ds_one (ds_ret de_bl))
    ds_nil)
    (ds_cons (ds_par (ps_par (i := 7) (j := 8) rfl nd rfl rfl (by decide) rfl rfl (da_cons (de_frzO (de_makeN M_Board F_Board_init (room.mono (by decide)) hgd m_Board q_Board_init (da_cons (de_Ty c_tuple z_tuple bt_tuple (da_cons (de_rev (de_var 1 (pv 1))) da_nil)) (da_cons (de_Ty c_tuple z_tuple bt_tuple (da_cons (de_rev (de_var 2 (pv 2))) da_nil)) (da_cons (de_rev (de_var 3 (pv 3))) da_nil))))) (da_cons (de_frzO (de_makeN M_Board F_Board_init (room.mono (by decide)) hgd m_Board q_Board_init (da_cons (de_var 1 (pv 1)) (da_cons (de_var 2 (pv 2)) (da_cons (de_op o_add (de_var 3 (pv 3)) (de_lst (da_cons (de_tup (da_cons (de_un o_neg de_int) (da_cons de_int da_nil))) da_nil))) da_nil))))) da_nil)) rfl))
    (ds_cons (ds_if (dt_w (dw_or (dt_cmp (op_neO kf.c_Board ne_Board e_Board i_Board F_Board_eq q_Board_eq (room.mono (by decide)) hgd hu) (de_var 5 (pv 5)) (de_var 7 (pv 7)) (nomark _)) (dw_or (dt_cmp (op_eqO e_Board i_Board F_Board_eq q_Board_eq (room.mono (by decide)) hgd (Nat.lt_of_le_of_lt (Nat.le_add_right _ _) hu)) (de_var 5 (pv 5)) (de_var 8 (pv 8)) (nomark _)) (dw_or (dt_cmp (op_eqO e_Board i_Board F_Board_eq q_Board_eq (room.mono (by decide)) hgd (Nat.lt_of_le_of_lt (Nat.le_add_right _ _) hu)) (de_var 5 (pv 5)) (de_var 6 (pv 6)) (nomark _)) (dw_or1 (dt_cmp (op_eqO e_Board i_Board F_Board_eq q_Board_eq (room.mono (by decide)) hgd (Nat.lt_of_le_of_lt (Nat.le_add_right _ _) hu)) (de_var 5 (pv 5)) (de_tup (da_cons (de_fldU (de_var 5 (pv 5))) (da_cons (de_fldU (de_var 5 (pv 5))) (da_cons (de_fldU (de_var 5 (pv 5))) da_nil)))) (nomark _)))))))
    (ds_one (ds_ret de_bl))
    ds_nil)
    (ds_cons (ds_if (dt_w (dw_or (dt_cmp (op_eqO e_Board i_Board F_Board_eq q_Board_eq (room.mono (by decide)) hgd (Nat.lt_of_le_of_lt (Nat.le_add_right _ _) hu)) (de_frzO (de_makeN M_Board F_Board_init (room.mono (by decide)) hgd m_Board q_Board_init (da_cons (de_var 1 (pv 1)) (da_cons (de_op o_add (de_var 2 (pv 2)) (de_lst (da_cons (de_tup (da_cons (de_un o_neg de_int) (da_cons de_int da_nil))) da_nil))) (da_cons (de_var 3 (pv 3)) da_nil))))) (de_var 5 (pv 5)) (nomark _)) (dw_or1 (dt_cmp (op_eqO e_Board i_Board F_Board_eq q_Board_eq (room.mono (by decide)) hgd (Nat.lt_of_le_of_lt (Nat.le_add_right _ _) hu)) (de_frzO (de_makeN M_Board F_Board_init (room.mono (by decide)) hgd m_Board q_Board_init (da_cons (de_op o_add (de_var 1 (pv 1)) (de_lst (da_cons (de_tup (da_cons de_int (da_cons de_int da_nil))) da_nil))) (da_cons (de_var 2 (pv 2)) (da_cons (de_var 3 (pv 3)) da_nil))))) (de_var 5 (pv 5)) (nomark _)))))
    (ds_one (ds_ret de_bl))
    ds_nil)
    (ds_cons (ds_expr (de_mOf (pe_bm PySem.F.plainAttrs_list PySem.F.slot_list_append PySem.F.type_list_append m_app (de_ix (o_ixU hu5) (de_var 4 (pv 4)) de_int (fun _ _ => rfl)) (da_cons (de_lst (da_cons de_int (da_cons de_int da_nil))) da_nil))))
    (ds_cons (ds_expr (de_mOf (pe_bm PySem.F.plainAttrs_list PySem.F.slot_list_append PySem.F.type_list_append m_app (de_ix (o_ixU hu5) (de_var 4 (pv 4)) de_int (fun _ _ => rfl)) (da_cons (de_lst (da_cons de_int (da_cons de_int da_nil))) da_nil))))
    (ds_cons (ds_put (ps_asg de_int (pg_sub (de_ix (o_ixU hu5) (de_ix (o_ixU hu5) (de_var 4 (pv 4)) de_int (fun _ _ => rfl)) de_int (fun _ _ => rfl)) de_int set_list)))
    (ds_cons (ds_if (dt_w (dw_or (dt_cmp (op_ne3 hu) (de_B (c_repr hgd hu) z_repr bt_repr (da_cons (de_tup (da_cons (de_fldU (de_var 5 (pv 5))) (da_cons (de_fldU (de_var 5 (pv 5))) (da_cons (de_fldU (de_var 5 (pv 5))) da_nil)))) da_nil)) (de_var 6 (pv 6)) (nomark _)) (dw_or1 (dt_cmp (op_ne3 hu) (de_callN F_box_of (room.mono (by decide)) hgd m_box_of k_box_of q_box_of (da_cons (de_var 5 (pv 5)) da_nil)) (de_call F_law_box (room.mono (by decide)) hgd (by rfl) m_law_box k_law_box q_law_box (da_cons (de_var 1 (pv 1)) (da_cons (de_var 2 (pv 2)) (da_cons (de_var 3 (pv 3)) da_nil)))) (nomark _)))))
    (ds_one (ds_ret de_bl))
    ds_nil)
    (ds_cons (ds_set (i := 9) nd rfl (by first | exact .inl rfl | exact .inr rfl) (de_op o_add (de_op o_add (de_lcOf (pe_lc (own := [("turn", 13)]) (wi := tI _ (Gh.mk [] T) (sRange1 (aCons (eC (.int 4)) aNil))) (g := toG _ (.nm 13)) (tt := tT _ (Gh.mk [] T) bYes) (te := tE _ (Gh.mk [] T) (eTup (aCons (eOp rSub (eCall r_law_draw (aCons (eVar 0) (aCons (eC (.int 6)) aNil))) (eC (.int 1))) (aCons (eOp rSub (eCall r_law_draw (aCons (eVar 0) (aCons (eC (.int 14)) aNil))) (eC (.int 4))) aNil)))) rfl nd (di_range1 (by rfl) z_range (da_cons de_int da_nil)) (blkOk_by (N := n_law_kept_right) (sc := defScope s_law_kept_right) (by decide +kernel)) (fun _ _ _ _ _ => (dg_nm (i := 13) nd rfl (by first | exact .inl rfl | exact .inr rfl) (by first | exact .inl rfl | exact .inr rfl))) (fun _ _ _ _ _ => dts_nil) (fun _ _ _ _ _ => (de_tup (da_cons (de_op o_sub (de_call F_law_draw (room.mono (by decide)) hgd (by rfl) m_law_draw k_law_draw q_law_draw (da_cons (de_var 0 (pv 0)) (da_cons de_int da_nil))) de_int) (da_cons (de_op o_sub (de_call F_law_draw (room.mono (by decide)) hgd (by rfl) m_law_draw k_law_draw q_law_draw (da_cons (de_var 0 (pv 0)) (da_cons de_int da_nil))) de_int) da_nil))))) (by decide)) (de_var 2 (pv 2))) (de_var 1 (pv 1))))
    (ds_one (ds_ret (de_cmp (op_eq3 hu) (de_lcOf (pe_lc (own := [("spot", 11)]) (wi := tI _ (Gh.mk [] T) (sSq (eVar 9))) (g := toG _ (.nm 11)) (tt := tT _ (Gh.mk [] T) (bOf (eOp rNe3 (eB rRepr (aCons (eMethKX (r_Board_is_passed cs) cs.Board "is_passed" NoX 1 [0] (eVar 5) (aCons (eB rListU (aCons (eVar 11) aNil)) aNil)) aNil)) (eB rRepr (aCons (eCall r_law_barred (aCons (eVar 2) (aCons (eVar 11) aNil))) aNil))))) (te := tE _ (Gh.mk [] T) (eVar 11)) rfl nd (di_seq (de_var 9 (pv 9))) (blkOk_by (N := n_law_kept_right) (sc := defScope s_law_kept_right) (by decide +kernel)) (fun _ _ _ _ _ => (dg_nm (i := 11) nd rfl (by first | exact .inl rfl | exact .inr rfl) (by first | exact .inl rfl | exact .inr rfl))) (fun _ _ _ _ _ => (dts_one (dt_cmp (op_ne3 hu) (de_B (c_repr hgd hu) z_repr bt_repr (da_cons (de_methKN (de_var 5 (pv 5)) kf.c_Board.cl mt_Board_is_passed F_Board_is_passed (room.mono (by decide)) hgd kw_Board_is_passed_0_square (dk_cons (de_Ty (call_orD c_list (c_listDi rfl)) z_list bt_list (da_cons (de_var 11 (pv 11)) da_nil)) dk_nil) rfl) da_nil)) (de_B (c_repr hgd hu) z_repr bt_repr (da_cons (de_call F_law_barred (room.mono (by decide)) hgd (by rfl) m_law_barred k_law_barred q_law_barred (da_cons (de_var 2 (pv 2)) (da_cons (de_var 11 (pv 11)) da_nil))) da_nil)) (nomark _)))) (fun _ _ _ _ _ => (de_var 11 (pv 11)))) (by decide)) (de_lst da_nil) (nomark _)))))))))))))))))
abbrev s_best_for : Stmt := top 46
abbrev n_best_for : List Str := ["board", "flow", "wall", "right", "up", "y", "x"]
theorem sc_best_for : FnScope n_best_for ["board"] (defScope s_best_for) := ⟨rfl, rfl, rfl, by decide +kernel, rfl, by decide +kernel, by decide +kernel⟩
theorem ok_best_for {f : Addr} {fd : FuncData} (F : Fun K "best_for" "best_for" s_best_for f fd) {cs : Cs} (kf : KF K cs)
    {f_need_board : Addr} {d_need_board : FuncData} (F_need_board : FnG P w K mg base (L2.CX P w) 3 f_need_board d_need_board ["value", "part"] (lspx K T (r_need_board cs))) (m_need_board : mg "need_board" = some (.ref f_need_board)) (k_need_board : PySem.W.keepIn K (.ref f_need_board) = true) (q_need_board : Binds K d_need_board ["value", "part"] []) : FnG P w K mg base (L2.CX P w) 4 f fd ["board"] (lspx K T (r_best_for cs)) := by
  refine def_okx (tb := b_best_for K cs) F sc_best_for (len_best_for cs) (fun cdv A outer s H E w0 ED room hgd tk => ?_) (run_best_for kf)
  have nd := sc_best_for.nd
  have hu := Room.units room
  have hu5 := Room.u65 room
  exact (ds_cons (ds_expr (de_callX tk F_need_board (room.mono (by decide)) hgd m_need_board k_need_board q_need_board (da_cons (de_var 0 (pv 0)) (da_cons de_str da_nil))))
    dss_off)
abbrev s_cheapest_cost : Stmt := top 47
abbrev n_cheapest_cost : List Str := ["board", "wall"]
theorem sc_cheapest_cost : FnScope n_cheapest_cost ["board"] (defScope s_cheapest_cost) := ⟨rfl, rfl, rfl, by decide +kernel, rfl, by decide +kernel, by decide +kernel⟩
theorem ok_cheapest_cost {f : Addr} {fd : FuncData} (F : Fun K "cheapest_cost" "cheapest_cost" s_cheapest_cost f fd) {cs : Cs} (kf : KF K cs)
    {f_need_board : Addr} {d_need_board : FuncData} (F_need_board : FnG P w K mg base (L2.CX P w) 3 f_need_board d_need_board ["value", "part"] (lspx K T (r_need_board cs))) (m_need_board : mg "need_board" = some (.ref f_need_board)) (k_need_board : PySem.W.keepIn K (.ref f_need_board) = true) (q_need_board : Binds K d_need_board ["value", "part"] []) : FnG P w K mg base (L2.CX P w) 4 f fd ["board"] (lspx K T (r_cheapest_cost cs)) := by
  refine def_okx (tb := b_cheapest_cost K cs) F sc_cheapest_cost (len_cheapest_cost cs) (fun cdv A outer s H E w0 ED room hgd tk => ?_) (run_cheapest_cost kf)
  have nd := sc_cheapest_cost.nd
  have hu := Room.units room
  have hu5 := Room.u65 room
  exact (ds_cons (ds_expr (de_callX tk F_need_board (room.mono (by decide)) hgd m_need_board k_need_board q_need_board (da_cons (de_var 0 (pv 0)) (da_cons de_str da_nil))))
    dss_off)
abbrev s_law_heard : Stmt := top 68
abbrev n_law_heard : List Str := ["ask", "caught", "word", "is_so", "error"]
theorem sc_law_heard : FnScope n_law_heard ["ask"] (defScope s_law_heard) := ⟨rfl, rfl, rfl, by decide +kernel, rfl, by decide +kernel, by decide +kernel⟩
theorem ok_law_heard {f : Addr} {cs : Cs} (kf : KF K cs) (m_FlightError : mg "FlightError" = some (.ref cs.FlightError)) (m_Misfit : mg "Misfit" = some (.ref cs.Misfit)) (m_BadBoard : mg "BadBoard" = some (.ref cs.BadBoard)) (m_BadSquare : mg "BadSquare" = some (.ref cs.BadSquare)) (m_BadSquares : mg "BadSquares" = some (.ref cs.BadSquares)) (z_isinstance : mg "isinstance" = none) (k : Nat) : HearOk P w K mg base T k f "_law_heard" n_law_heard s_law_heard "ask" (b_law_heard K cs) := by
  intro cdv A outer s H L κ tl room hgd ask
  have nd := sc_law_heard.nd
  have hu := Room.units room
  have hu5 := Room.u65 room
  exact (ds_cons (ds_set (i := 1) nd rfl (by first | exact .inl rfl | exact .inr rfl) de_non)
    (ds_cons (ds_try (G := (Gh.mk L T)) (EDo := NoX) rfl rfl rfl nd (takes_of rfl rfl rfl rfl) out_no (fun w0 ED pn xe tk po => (ds_one (ds_expr (ask w0 ED pn xe _ _ tk))))
    (.consAs (names_C m_FlightError) (i := 4) rfl rfl (fun a pn => (ds_one (ds_set (i := 1) nd rfl (by first | exact .inl rfl | exact .inr rfl) (de_var 4 (pv 4))))) .nil))
    (ds_cons (ds_for (passes_of rfl) rfl (di_seq (de_tup (da_cons (de_tup (da_cons de_str (da_cons (de_isx (pe_callB call_isx (by rfl) z_isinstance bt_isinstance (pa_cons (de_var 1 (pv 1)) (pa_cons (pe_C m_BadSquares) pa_nil)))) da_nil))) (da_cons (de_tup (da_cons de_str (da_cons (de_isx (pe_callB call_isx (by rfl) z_isinstance bt_isinstance (pa_cons (de_var 1 (pv 1)) (pa_cons (pe_C m_BadSquare) pa_nil)))) da_nil))) (da_cons (de_tup (da_cons de_str (da_cons (de_isx (pe_callB call_isx (by rfl) z_isinstance bt_isinstance (pa_cons (de_var 1 (pv 1)) (pa_cons (pe_C m_BadBoard) pa_nil)))) da_nil))) (da_cons (de_tup (da_cons de_str (da_cons (de_isx (pe_callB call_isx (by rfl) z_isinstance bt_isinstance (pa_cons (de_var 1 (pv 1)) (pa_cons (pe_C m_Misfit) pa_nil)))) da_nil))) da_nil)))))) (dg_tp rfl (dgs_cons (dg_nm (i := 2) nd rfl (by first | exact .inl rfl | exact .inr rfl) (by first | exact .inl rfl | exact .inr rfl)) (dgs_cons (dg_nm (i := 3) nd rfl (by first | exact .inl rfl | exact .inr rfl) (by first | exact .inl rfl | exact .inr rfl)) dgs_nil)))
    (ds_one (ds_if (dt_val (de_var 3 (pv 3)))
    (ds_one (ds_ret (de_tup (da_cons (de_var 2 (pv 2)) (da_cons (de_fld (de_var 1 (pv 1))) da_nil)))))
    ds_nil)))
    (ds_one (ds_ret (de_if (dt_cmp o_isU (de_var 1 (pv 1)) de_non (nomark _)) de_non (de_tup (da_cons de_str (da_cons de_non da_nil)))))))))
abbrev s_is_fit : Stmt := top 23
abbrev n_is_fit : List Str := ["held", "passed", "wall", "mine", "known", "square"]
theorem sc_is_fit : FnScope n_is_fit ["held", "passed", "wall"] (defScope s_is_fit) := ⟨rfl, rfl, rfl, by decide +kernel, rfl, by decide +kernel, by decide +kernel⟩
theorem ok_is_fit {f : Addr} {fd : FuncData} (F : Fun K "is_fit" "is_fit" s_is_fit f fd)
    {f_is_barred : Addr} {d_is_barred : FuncData} (F_is_barred : FnG P w K mg base CX0 1 f_is_barred d_is_barred ["passed", "square"] (lsp K T r_is_barred)) (m_is_barred : mg "is_barred" = some (.ref f_is_barred)) (k_is_barred : PySem.W.keepIn K (.ref f_is_barred) = true) (q_is_barred : Binds K d_is_barred ["passed", "square"] []) (z_any : mg "any" = none) (z_all : mg "all" = none) : FnG P w K mg base CX0 2 f fd ["held", "passed", "wall"] (lsp K T r_is_fit) := by
  refine def_ok (tb := b_is_fit) F sc_is_fit len_is_fit (fun cdv A outer s H E room hgd => ?_) run_is_fit
  have nd := sc_is_fit.nd
  have hu := Room.units room
  have hu5 := Room.u65 room
  exact (ds_cons (ds_asg (ps_asg (de_tup (da_cons (de_dcT (pe_dcT (own := [("square", 5)]) (wi := tI _ (Gh.mk [] T) (sSq (eVar 2))) (g := toG _ (.nm 5)) (tt := tT _ (Gh.mk [] T) bYes) (tk := tE _ (Gh.mk [] T) (eVar 5)) (tv := tE _ (Gh.mk [] T) (eC (.bl true))) (Nat.lt_of_le_of_lt (Nat.le_add_right _ _) hu) rfl nd (di_seq (de_var 2 (pv 2))) (blkOk_by (N := n_is_fit) (sc := defScope s_is_fit) (by decide +kernel)) (fun _ _ _ _ _ => (dg_nm (i := 5) nd rfl (by first | exact .inl rfl | exact .inr rfl) (by first | exact .inl rfl | exact .inr rfl))) (fun _ _ _ _ _ => dts_nil) (fun _ _ _ _ _ => (de_var 5 (pv 5))) (fun _ _ _ _ _ => de_bl)) (by decide)) (da_cons (de_dcT (pe_dcT (own := [("square", 5)]) (wi := tI _ (Gh.mk [] T) (sSq (eVar 1))) (g := toG _ (.nm 5)) (tt := tT _ (Gh.mk [] T) bYes) (tk := tE _ (Gh.mk [] T) (eVar 5)) (tv := tE _ (Gh.mk [] T) (eC (.bl true))) (Nat.lt_of_le_of_lt (Nat.le_add_right _ _) hu) rfl nd (di_seq (de_var 1 (pv 1))) (blkOk_by (N := n_is_fit) (sc := defScope s_is_fit) (by decide +kernel)) (fun _ _ _ _ _ => (dg_nm (i := 5) nd rfl (by first | exact .inl rfl | exact .inr rfl) (by first | exact .inl rfl | exact .inr rfl))) (fun _ _ _ _ _ => dts_nil) (fun _ _ _ _ _ => (de_var 5 (pv 5))) (fun _ _ _ _ _ => de_bl)) (by decide)) da_nil))) (dg_tp rfl (dgs_cons (dg_nm (i := 3) nd rfl (by first | exact .inl rfl | exact .inr rfl) (by first | exact .inl rfl | exact .inr rfl)) (dgs_cons (dg_nm (i := 4) nd rfl (by first | exact .inl rfl | exact .inr rfl) (by first | exact .inl rfl | exact .inr rfl)) dgs_nil)))))
    (ds_one (ds_ret (de_and (de_B (c_all rfl) z_all bt_all (da_cons (de_lcOf (pe_lc (own := [("square", 5)]) (wi := tI _ (Gh.mk [] T) (sSq (eVar 0))) (g := toG _ (.nm 5)) (tt := tT _ (Gh.mk [] T) bYes) (te := tE _ (Gh.mk [] T) (eOp rInU (eVar 5) (eVar 3))) rfl nd (di_seq (de_var 0 (pv 0))) (blkOk_by (N := n_is_fit) (sc := defScope s_is_fit) (by decide +kernel)) (fun _ _ _ _ _ => (dg_nm (i := 5) nd rfl (by first | exact .inl rfl | exact .inr rfl) (by first | exact .inl rfl | exact .inr rfl))) (fun _ _ _ _ _ => dts_nil) (fun _ _ _ _ _ => (de_cmp (o_inU hu5) (de_var 5 (pv 5)) (de_var 3 (pv 3)) (by with_unfolding_all rfl)))) (by decide)) da_nil)) (de_one (de_not (de_B (c_any rfl) z_any bt_any (da_cons (de_lcOf (pe_lc (own := [("square", 5)]) (wi := tI _ (Gh.mk [] T) (sSq (eVar 2))) (g := toG _ (.nm 5)) (tt := tT _ (Gh.mk [] T) bYes) (te := tE _ (Gh.mk [] T) (eCall r_is_barred (aCons (eVar 4) (aCons (eVar 5) aNil)))) rfl nd (di_seq (de_var 2 (pv 2))) (blkOk_by (N := n_is_fit) (sc := defScope s_is_fit) (by decide +kernel)) (fun _ _ _ _ _ => (dg_nm (i := 5) nd rfl (by first | exact .inl rfl | exact .inr rfl) (by first | exact .inl rfl | exact .inr rfl))) (fun _ _ _ _ _ => dts_nil) (fun _ _ _ _ _ => (de_call F_is_barred (room.mono (by decide)) hgd (by rfl) m_is_barred k_is_barred q_is_barred (da_cons (de_var 4 (pv 4)) (da_cons (de_var 5 (pv 5)) da_nil))))) (by decide)) da_nil))))))))
abbrev s_need_right : Stmt := top 15
abbrev n_need_right : List Str := ["squares", "part", "x", "y"]
theorem sc_need_right : FnScope n_need_right ["squares", "part"] (defScope s_need_right) := ⟨rfl, rfl, rfl, by decide +kernel, rfl, by decide +kernel, by decide +kernel⟩
theorem ok_need_right {f : Addr} {fd : FuncData} (F : Fun K "need_right" "need_right" s_need_right f fd) {cs : Cs} (kf : KF K cs) (E_Misfit : ErrOk P w K mg base "Misfit" cs.Misfit true ["part"]) : FnG P w K mg base (L2.CX P w) 3 f fd ["squares", "part"] (lspx K T (r_need_right cs)) := by
  refine def_okx (tb := b_need_right K cs) F sc_need_right (len_need_right cs) (fun cdv A outer s H E w0 ED room hgd tk => ?_) run_need_right
  have nd := sc_need_right.nd
  have hu := Room.units room
  have hu5 := Room.u65 room
  exact (ds_one (ds_if (dt_cmp (op_ne3 hu) (de_lcOf (pe_lc (own := [("x", 2), ("y", 3)]) (wi := tI _ (Gh.mk [w0] T) (sSq (eVar 0))) (g := toG _ (.tp [(.nm 2), (.nm 3)])) (tt := tT _ (Gh.mk [w0] T) (bOf (eOp rLtU (eVar 2) (eC (.int 0))))) (te := tE _ (Gh.mk [w0] T) (eVar 2)) rfl nd (di_seq (de_var 0 (pv 0))) (blkOk_by (N := n_need_right) (sc := defScope s_need_right) (by decide +kernel)) (fun _ _ _ _ _ => (dg_tp rfl (dgs_cons (dg_nm (i := 2) nd rfl (by first | exact .inl rfl | exact .inr rfl) (by first | exact .inl rfl | exact .inr rfl)) (dgs_cons (dg_nm (i := 3) nd rfl (by first | exact .inl rfl | exact .inr rfl) (by first | exact .inl rfl | exact .inr rfl)) dgs_nil)))) (fun _ _ _ _ _ => (dts_one (dt_cmp (o_ltV hu) (de_var 2 (pv 2)) de_int (nomark _)))) (fun _ _ _ _ _ => (de_var 2 (pv 2)))) (by decide)) (de_lst da_nil) (nomark _))
    (ds_one (ds_raiseF rfl tk E_Misfit (by decide) (room.mono (by decide)) (by rfl) (da_cons (de_var 1 (pv 1)) da_nil)))
    ds_nil))
abbrev s_need_wall : Stmt := top 16
abbrev n_need_wall : List Str := ["value", "part", "wall"]
theorem sc_need_wall : FnScope n_need_wall ["value", "part"] (defScope s_need_wall) := ⟨rfl, rfl, rfl, by decide +kernel, rfl, by decide +kernel, by decide +kernel⟩
theorem ok_need_wall {f : Addr} {fd : FuncData} (F : Fun K "need_wall" "need_wall" s_need_wall f fd) {cs : Cs} (kf : KF K cs)
    {f_need_squaresG : Addr} {d_need_squaresG : FuncData} (F_need_squaresG : FnG P w K mg base (L2.CX P w) 4 f_need_squaresG d_need_squaresG ["value", "part"] (lspx K T (r_need_squaresG cs))) (m_need_squaresG : mg "need_squares" = some (.ref f_need_squaresG)) (k_need_squaresG : PySem.W.keepIn K (.ref f_need_squaresG) = true) (q_need_squaresG : Binds K d_need_squaresG ["value", "part"] [])
    {f_need_right : Addr} {d_need_right : FuncData} (F_need_right : FnG P w K mg base (L2.CX P w) 3 f_need_right d_need_right ["squares", "part"] (lspx K T (r_need_right cs))) (m_need_right : mg "need_right" = some (.ref f_need_right)) (k_need_right : PySem.W.keepIn K (.ref f_need_right) = true) (q_need_right : Binds K d_need_right ["squares", "part"] []) : FnG P w K mg base (L2.CX P w) 5 f fd ["value", "part"] (lspx K T (r_need_wall cs)) := by
  refine def_okx (tb := b_need_wall K cs) F sc_need_wall (len_need_wall cs) (fun cdv A outer s H E w0 ED room hgd tk => ?_) (run_need_wall kf)
  have nd := sc_need_wall.nd
  have hu := Room.units room
  have hu5 := Room.u65 room
  exact (ds_cons (ds_set (i := 2) nd rfl (by first | exact .inl rfl | exact .inr rfl) (de_callX tk F_need_squaresG (room.mono (by decide)) hgd m_need_squaresG k_need_squaresG q_need_squaresG (da_cons (de_var 0 (pv 0)) (da_cons (de_var 1 (pv 1)) da_nil))))
    (ds_cons (ds_expr (de_callX tk F_need_right (room.mono (by decide)) hgd m_need_right k_need_right q_need_right (da_cons (de_var 2 (pv 2)) (da_cons (de_var 1 (pv 1)) da_nil))))
    (ds_one (ds_ret (de_var 2 (pv 2))))))
abbrev s_fits : Stmt := top 25
abbrev n_fits : List Str := ["board", "wall"]
theorem sc_fits : FnScope n_fits ["board", "wall"] (defScope s_fits) := ⟨rfl, rfl, rfl, by decide +kernel, rfl, by decide +kernel, by decide +kernel⟩
theorem ok_fits {f : Addr} {fd : FuncData} (F : Fun K "fits" "fits" s_fits f fd) {cs : Cs} (kf : KF K cs)
    {f_need_board : Addr} {d_need_board : FuncData} (F_need_board : FnG P w K mg base (L2.CX P w) 3 f_need_board d_need_board ["value", "part"] (lspx K T (r_need_board cs))) (m_need_board : mg "need_board" = some (.ref f_need_board)) (k_need_board : PySem.W.keepIn K (.ref f_need_board) = true) (q_need_board : Binds K d_need_board ["value", "part"] [])
    {f_is_fit : Addr} {d_is_fit : FuncData} (F_is_fit : FnG P w K mg base CX0 2 f_is_fit d_is_fit ["held", "passed", "wall"] (lsp K T r_is_fit)) (m_is_fit : mg "is_fit" = some (.ref f_is_fit)) (k_is_fit : PySem.W.keepIn K (.ref f_is_fit) = true) (q_is_fit : Binds K d_is_fit ["held", "passed", "wall"] [])
    {f_need_wall : Addr} {d_need_wall : FuncData} (F_need_wall : FnG P w K mg base (L2.CX P w) 5 f_need_wall d_need_wall ["value", "part"] (lspx K T (r_need_wall cs))) (m_need_wall : mg "need_wall" = some (.ref f_need_wall)) (k_need_wall : PySem.W.keepIn K (.ref f_need_wall) = true) (q_need_wall : Binds K d_need_wall ["value", "part"] []) : FnG P w K mg base (L2.CX P w) 6 f fd ["board", "wall"] (lspx K T (r_fits cs)) := by
  refine def_okx (tb := b_fits K cs) F sc_fits (len_fits cs) (fun cdv A outer s H E w0 ED room hgd tk => ?_) (run_fits kf)
  have nd := sc_fits.nd
  have hu := Room.units room
  have hu5 := Room.u65 room
  exact (ds_cons (ds_expr (de_callX tk F_need_board (room.mono (by decide)) hgd m_need_board k_need_board q_need_board (da_cons (de_var 0 (pv 0)) (da_cons de_str da_nil))))
    (ds_one (ds_ret (de_call F_is_fit (room.mono (by decide)) hgd (by rfl) m_is_fit k_is_fit q_is_fit (da_cons (de_fldU (de_var 0 (pv 0))) (da_cons (de_fldU (de_var 0 (pv 0))) (da_cons (de_callX tk F_need_wall (room.mono (by decide)) hgd m_need_wall k_need_wall q_need_wall (da_cons (de_var 1 (pv 1)) (da_cons de_str da_nil))) da_nil)))))))
abbrev s_law_fits_right : Stmt := top 70
abbrev n_law_fits_right : List Str := ["pen", "held", "passed", "burnt", "board", "wall", "asked", "some", "due", "square", "each"]
theorem sc_law_fits_right : FnScope n_law_fits_right ["pen"] (defScope s_law_fits_right) := ⟨rfl, rfl, rfl, by decide +kernel, rfl, by decide +kernel, by decide +kernel⟩
theorem ok_law_fits_right {f : Addr} {fd : FuncData} (F : Fun K "_law_fits_right" "_law_fits_right" s_law_fits_right f fd) {cs : Cs} (kf : KF K cs) (m_Board : mg "Board" = some (.ref cs.Board))
    {f_law_board : Addr} {d_law_board : FuncData} (F_law_board : FnG P w K mg base CX0 3 f_law_board d_law_board ["pen", "wide", "tall", "many"] (lsp K T r_law_board)) (m_law_board : mg "_law_board" = some (.ref f_law_board)) (k_law_board : PySem.W.keepIn K (.ref f_law_board) = true) (q_law_board : Binds K d_law_board ["pen", "wide", "tall", "many"] [])
    {f_Board_init : Addr} {d_Board_init : FuncData} (F_Board_init : FnG P w K mg base (L2.CX P w) 5 f_Board_init d_Board_init ["self", "held", "passed", "burnt"] (lspx K T (r_Board_init cs))) (q_Board_init : Binds K d_Board_init ["self", "held", "passed", "burnt"] [])
    {f_law_barred : Addr} {d_law_barred : FuncData} (F_law_barred : FnG P w K mg base CX0 1 f_law_barred d_law_barred ["passed", "square"] (lsp K T r_law_barred)) (m_law_barred : mg "_law_barred" = some (.ref f_law_barred)) (k_law_barred : PySem.W.keepIn K (.ref f_law_barred) = true) (q_law_barred : Binds K d_law_barred ["passed", "square"] [])
    {f_law_draw : Addr} {d_law_draw : FuncData} (F_law_draw : FnG P w K mg base CX0 1 f_law_draw d_law_draw ["pen", "many"] (lsp K T r_law_draw)) (m_law_draw : mg "_law_draw" = some (.ref f_law_draw)) (k_law_draw : PySem.W.keepIn K (.ref f_law_draw) = true) (q_law_draw : Binds K d_law_draw ["pen", "many"] [])
    {f_fits : Addr} {d_fits : FuncData} (F_fits : FnG P w K mg base (L2.CX P w) 6 f_fits d_fits ["board", "wall"] (lspx K T (r_fits cs))) (m_fits : mg "fits" = some (.ref f_fits)) (k_fits : PySem.W.keepIn K (.ref f_fits) = true) (q_fits : Binds K d_fits ["board", "wall"] [])
    {f_law_heard : Addr} {d_law_heard : FuncData} (T_law_heard : Fun K "_law_heard" "_law_heard" s_law_heard f_law_heard d_law_heard) (h_law_heard : ∀ k, HearOk P w K mg base T k f_law_heard "_law_heard" n_law_heard s_law_heard "ask" (b_law_heard K cs)) (m_law_heard : mg "_law_heard" = some (.ref f_law_heard)) (k_law_heard : PySem.W.keepIn K (.ref f_law_heard) = true) (q_law_heard : Binds K d_law_heard ["ask"] [])
    {c_law_fits_right P_law_fits_right : Addr} (B_law_fits_right : LamX.TabB base mg c_law_fits_right P_law_fits_right) (inT_law_fits_right : (P_law_fits_right, ((("_law_fits_right" : Str) ++ ".<locals>.") ++ "<lambda>")) ∈ T) (one_law_fits_right : ∀ p ∈ T, p.1 = P_law_fits_right → p.2 = ((("_law_fits_right" : Str) ++ ".<locals>.") ++ "<lambda>")) (hc_law_fits_right : fd.code = .ref c_law_fits_right) (M_Board : Mk K cs.Board f_Board_init) (z_repr : mg "repr" = none) : FnG P w K mg base CX0 9 f fd ["pen"] (lsp K T (r_law_fits_right cs)) := by
  refine def_okm (tb := b_law_fits_right K cs) F hc_law_fits_right sc_law_fits_right (len_law_fits_right cs) (fun A outer s H E room hgd => ?_) (run_law_fits_right kf)
  have nd := sc_law_fits_right.nd
  have hu := Room.units room
  have hu5 := Room.u65 room
  exact (ds_cons (ds_asg (ps_asg (de_call F_law_board (room.mono (by decide)) hgd (by rfl) m_law_board k_law_board q_law_board (da_cons (de_var 0 (pv 0)) (da_cons de_int (da_cons de_int (da_cons de_int da_nil))))) (dg_tp rfl (dgs_cons (dg_nm (i := 1) nd rfl (by first | exact .inl rfl | exact .inr rfl) (by first | exact .inl rfl | exact .inr rfl)) (dgs_cons (dg_nm (i := 2) nd rfl (by first | exact .inl rfl | exact .inr rfl) (by first | exact .inl rfl | exact .inr rfl)) (dgs_cons (dg_nm (i := 3) nd rfl (by first | exact .inl rfl | exact .inr rfl) (by first | exact .inl rfl | exact .inr rfl)) dgs_nil))))))
    (ds_cons (ds_set (i := 4) nd rfl (by first | exact .inl rfl | exact .inr rfl) (de_frzO (de_makeN M_Board F_Board_init (room.mono (by decide)) hgd m_Board q_Board_init (da_cons (de_var 1 (pv 1)) (da_cons (de_var 2 (pv 2)) (da_cons (de_var 3 (pv 3)) da_nil))))))
    (ds_cons (ds_set (i := 5) nd rfl (by first | exact .inl rfl | exact .inr rfl) (de_op o_add (de_var 1 (pv 1)) (de_lcOf (pe_lc (own := [("square", 9)]) (wi := tI _ (Gh.mk [] T) (sSq (eVar 3))) (g := toG _ (.nm 9)) (tt := tT _ (Gh.mk [] T) (bAnd (bOf (eOp rGe (eOp rIxU (eVar 9) (eC (.int 0))) (eC (.int 0)))) (bAnd (bNot (bOf (eCall r_law_barred (aCons (eVar 2) (aCons (eVar 9) aNil))))) (bOf (eOp rNiU (eVar 9) (eVar 1)))))) (te := tE _ (Gh.mk [] T) (eVar 9)) rfl nd (di_seq (de_var 3 (pv 3))) (blkOk_by (N := n_law_fits_right) (sc := defScope s_law_fits_right) (by decide +kernel)) (fun _ _ _ _ _ => (dg_nm (i := 9) nd rfl (by first | exact .inl rfl | exact .inr rfl) (by first | exact .inl rfl | exact .inr rfl))) (fun _ _ _ _ _ => (dts_one (dt_w (dw_and (dt_cmp o_ge (de_ix (o_ixU hu5) (de_var 9 (pv 9)) de_int (fun _ _ => rfl)) de_int (nomark _)) (dw_and (dt_not (dt_val (de_call F_law_barred (room.mono (by decide)) hgd (by rfl) m_law_barred k_law_barred q_law_barred (da_cons (de_var 2 (pv 2)) (da_cons (de_var 9 (pv 9)) da_nil))))) (dw_and1 (dt_cmp (o_niU hu5) (de_var 9 (pv 9)) (de_var 1 (pv 1)) (by with_unfolding_all rfl)))))))) (fun _ _ _ _ _ => (de_var 9 (pv 9)))) (by decide))))
    (ds_cons (ds_set (i := 6) nd rfl (by first | exact .inl rfl | exact .inr rfl) (de_lstM (da_cons (de_tup (da_cons (de_var 5 (pv 5)) (da_cons de_bl da_nil))) (da_cons (de_tup (da_cons (de_op o_add (de_rev (de_var 5 (pv 5))) (de_lst (da_cons (de_tup (da_cons de_int (da_cons (de_un o_neg de_int) da_nil))) da_nil))) (da_cons de_bl da_nil))) (da_cons (de_tup (da_cons (de_op o_add (de_var 5 (pv 5)) (de_lst (da_cons (de_tup (da_cons de_int (da_cons de_int da_nil))) da_nil))) (da_cons de_bl da_nil))) (da_cons (de_tup (da_cons (de_op o_add (de_var 5 (pv 5)) (de_lst (da_cons (de_tup (da_cons de_int (da_cons (de_un o_neg (de_call F_law_draw (room.mono (by decide)) hgd (by rfl) m_law_draw k_law_draw q_law_draw (da_cons (de_var 0 (pv 0)) (da_cons de_int da_nil)))) da_nil))) da_nil))) (da_cons de_bl da_nil))) (da_cons (de_tup (da_cons (de_var 1 (pv 1)) (da_cons de_bl da_nil))) da_nil)))))))
    (ds_cons (ds_expr (de_mOf (pe_bm PySem.F.plainAttrs_list PySem.F.slot_list_extend PySem.F.type_list_extend m_ext (de_var 6 (pv 6)) (da_cons (de_lcOf (pe_lc (own := [("square", 9)]) (wi := tI _ (Gh.mk [] T) (sSq (eVar 2))) (g := toG _ (.nm 9)) (tt := tT _ (Gh.mk [] T) (bAnd (bOf (eOp rGe (eOp rIxU (eVar 9) (eC (.int 0))) (eC (.int 0)))) (bOf (eOp rNiU (eVar 9) (eVar 5))))) (te := tE _ (Gh.mk [] T) (eTup (aCons (eOp rAdd (eVar 5) (eLst (aCons (eVar 9) aNil))) (aCons (eC (.bl false)) aNil)))) rfl nd (di_seq (de_var 2 (pv 2))) (blkOk_by (N := n_law_fits_right) (sc := defScope s_law_fits_right) (by decide +kernel)) (fun _ _ _ _ _ => (dg_nm (i := 9) nd rfl (by first | exact .inl rfl | exact .inr rfl) (by first | exact .inl rfl | exact .inr rfl))) (fun _ _ _ _ _ => (dts_one (dt_w (dw_and (dt_cmp o_ge (de_ix (o_ixU hu5) (de_var 9 (pv 9)) de_int (fun _ _ => rfl)) de_int (nomark _)) (dw_and1 (dt_cmp (o_niU hu5) (de_var 9 (pv 9)) (de_var 5 (pv 5)) (by with_unfolding_all rfl))))))) (fun _ _ _ _ _ => (de_tup (da_cons (de_op o_add (de_var 5 (pv 5)) (de_lst (da_cons (de_var 9 (pv 9)) da_nil))) (da_cons de_bl da_nil))))) (by decide)) da_nil))))
    (ds_cons (ds_expr (de_mOf (pe_bm PySem.F.plainAttrs_list PySem.F.slot_list_extend PySem.F.type_list_extend m_ext (de_var 6 (pv 6)) (da_cons (de_lcOf (pe_lc (own := [("square", 9)]) (wi := tI _ (Gh.mk [] T) (sSq (eVar 1))) (g := toG _ (.nm 9)) (tt := tT _ (Gh.mk [] T) bYes) (te := tE _ (Gh.mk [] T) (eTup (aCons (eLc (sSq (eVar 5)) (.nm 10) (bOf (eOp rNe3 (eVar 10) (eVar 9))) (eVar 10) [10]) (aCons (eC (.bl false)) aNil)))) rfl nd (di_seq (de_var 1 (pv 1))) (blkOk_by (N := n_law_fits_right) (sc := defScope s_law_fits_right) (by decide +kernel)) (fun _ _ _ _ _ => (dg_nm (i := 9) nd rfl (by first | exact .inl rfl | exact .inr rfl) (by first | exact .inl rfl | exact .inr rfl))) (fun _ _ _ _ _ => dts_nil) (fun _ _ _ _ _ => (de_tup (da_cons (de_lcOf (pe_lc (own := [("each", 10)]) (wi := tI _ (Gh.mk [] T) (sSq (eVar 5))) (g := toG _ (.nm 10)) (tt := tT _ (Gh.mk [] T) (bOf (eOp rNe3 (eVar 10) (eVar 9)))) (te := tE _ (Gh.mk [] T) (eVar 10)) rfl nd (di_seq (de_var 5 (pv 5))) (blkOk_by (by kernel_rfl)) (fun _ _ _ _ _ => (dg_nm (i := 10) nd rfl (by first | exact .inl rfl | exact .inr rfl) (by first | exact .inl rfl | exact .inr rfl))) (fun _ _ _ _ _ => (dts_one (dt_cmp (op_ne3 hu) (de_var 10 (pv 10)) (de_var 9 (pv 9)) (nomark _)))) (fun _ _ _ _ _ => (de_var 10 (pv 10)))) (by decide)) (da_cons de_bl da_nil))))) (by decide)) da_nil))))
    (ds_cons (ds_for PassesOwn.never rfl (di_seq (de_var 6 (pv 6))) (dg_tp rfl (dgs_cons (dg_nm (i := 7) nd rfl (by first | exact .inl rfl | exact .inr rfl) (by first | exact .inl rfl | exact .inr rfl)) (dgs_cons (dg_nm (i := 8) nd rfl (by first | exact .inl rfl | exact .inr rfl) (by first | exact .inl rfl | exact .inr rfl)) dgs_nil)))
    (ds_one (ds_if (dt_cmp (op_ne3 hu) (de_B (c_repr hgd hu) z_repr bt_repr (da_cons (de_callN F_fits (room.mono (by decide)) hgd m_fits k_fits q_fits (da_cons (de_var 4 (pv 4)) (da_cons (de_var 7 (pv 7)) da_nil))) da_nil)) (de_B (c_repr hgd hu) z_repr bt_repr (da_cons (de_var 8 (pv 8)) da_nil)) (nomark _))
    (ds_one (ds_ret de_bl))
    ds_nil)))
    (ds_one (ds_ret (de_cmp (op_eq3 hu) (de_hear (k := 6) T_law_heard sc_law_heard q_law_heard m_law_heard k_law_heard (h_law_heard _) B_law_fits_right rfl inT_law_fits_right one_law_fits_right (room.mono (by decide)) hgd (LamX.lamS_by (by kernel_rfl)) rfl (fun _ _ _ _ _ => rfl) rfl (.inl rfl) (fun A outer s H E f c' w0 L ED room hgd tk => by
      have hu := Room.units room
      have hu5 := Room.u65 room
      exact (de_callX tk F_fits (room.mono (by decide)) hgd m_fits k_fits q_fits (da_cons (de_var 4 (pv 4)) (da_cons (de_op o_add (de_var 5 (pv 5)) (de_lst (da_cons (de_tup (da_cons (de_un o_neg de_int) (da_cons de_int da_nil))) da_nil))) da_nil))))) (de_tup (da_cons de_str (da_cons de_str da_nil))) (nomark _)))))))))))
abbrev s_shows_best : Stmt := top 58
abbrev n_shows_best : List Str := ["board", "value", "box", "last", "low", "high", "scale"]
theorem sc_shows_best : FnScope n_shows_best ["board", "value"] (defScope s_shows_best) := ⟨rfl, rfl, rfl, by decide +kernel, rfl, by decide +kernel, by decide +kernel⟩
theorem ok_shows_best {f : Addr} {fd : FuncData} (F : Fun K "shows_best" "shows_best" s_shows_best f fd) {cs : Cs} (kf : KF K cs)
    {f_need_board : Addr} {d_need_board : FuncData} (F_need_board : FnG P w K mg base (L2.CX P w) 3 f_need_board d_need_board ["value", "part"] (lspx K T (r_need_board cs))) (m_need_board : mg "need_board" = some (.ref f_need_board)) (k_need_board : PySem.W.keepIn K (.ref f_need_board) = true) (q_need_board : Binds K d_need_board ["value", "part"] []) : FnG P w K mg base (L2.CX P w) 4 f fd ["board", "value"] (lspx K T (r_shows_best cs)) := by
  refine def_okx (tb := b_shows_best K cs) F sc_shows_best (len_shows_best cs) (fun cdv A outer s H E w0 ED room hgd tk => ?_) (run_shows_best kf)
  have nd := sc_shows_best.nd
  have hu := Room.units room
  have hu5 := Room.u65 room
  exact (ds_cons (ds_expr (de_callX tk F_need_board (room.mono (by decide)) hgd m_need_board k_need_board q_need_board (da_cons (de_var 0 (pv 0)) (da_cons de_str da_nil))))
    dss_off)
abbrev s_law_refused_right : Stmt := top 71
abbrev n_law_refused_right : List Str := ["pen", "good", "bad", "odd", "again", "heard", "board", "none", "square", "ask"]
theorem sc_law_refused_right : FnScope n_law_refused_right ["pen"] (defScope s_law_refused_right) := ⟨rfl, rfl, rfl, by decide +kernel, rfl, by decide +kernel, by decide +kernel⟩
theorem ok_law_refused_right {f : Addr} {fd : FuncData} (F : Fun K "_law_refused_right" "_law_refused_right" s_law_refused_right f fd) {cs : Cs} (kf : KF K cs) (m_Board : mg "Board" = some (.ref cs.Board))
    {f_law_pick : Addr} {d_law_pick : FuncData} (F_law_pick : FnG P w K mg base CX0 2 f_law_pick d_law_pick ["pen", "some"] (lsp K T r_law_pick)) (m_law_pick : mg "_law_pick" = some (.ref f_law_pick)) (k_law_pick : PySem.W.keepIn K (.ref f_law_pick) = true) (q_law_pick : Binds K d_law_pick ["pen", "some"] [])
    {f_Board_init : Addr} {d_Board_init : FuncData} (F_Board_init : FnG P w K mg base (L2.CX P w) 5 f_Board_init d_Board_init ["self", "held", "passed", "burnt"] (lspx K T (r_Board_init cs))) (q_Board_init : Binds K d_Board_init ["self", "held", "passed", "burnt"] [])
    {f_law_draw : Addr} {d_law_draw : FuncData} (F_law_draw : FnG P w K mg base CX0 1 f_law_draw d_law_draw ["pen", "many"] (lsp K T r_law_draw)) (m_law_draw : mg "_law_draw" = some (.ref f_law_draw)) (k_law_draw : PySem.W.keepIn K (.ref f_law_draw) = true) (q_law_draw : Binds K d_law_draw ["pen", "many"] [])
    {f_Board_is_passed : Addr} {d_Board_is_passed : FuncData} (F_Board_is_passed : FnG P w K mg base (L2.CX P w) 4 f_Board_is_passed d_Board_is_passed ["self", "square"] (lspx K T (r_Board_is_passed cs))) (q_Board_is_passed : Binds K d_Board_is_passed ["self", "square"] [])
    {f_fits : Addr} {d_fits : FuncData} (F_fits : FnG P w K mg base (L2.CX P w) 6 f_fits d_fits ["board", "wall"] (lspx K T (r_fits cs))) (m_fits : mg "fits" = some (.ref f_fits)) (k_fits : PySem.W.keepIn K (.ref f_fits) = true) (q_fits : Binds K d_fits ["board", "wall"] [])
    {f_cheapest_cost : Addr} {d_cheapest_cost : FuncData} (F_cheapest_cost : FnG P w K mg base (L2.CX P w) 4 f_cheapest_cost d_cheapest_cost ["board"] (lspx K T (r_cheapest_cost cs))) (m_cheapest_cost : mg "cheapest_cost" = some (.ref f_cheapest_cost)) (k_cheapest_cost : PySem.W.keepIn K (.ref f_cheapest_cost) = true) (q_cheapest_cost : Binds K d_cheapest_cost ["board"] [])
    {f_best_for : Addr} {d_best_for : FuncData} (F_best_for : FnG P w K mg base (L2.CX P w) 4 f_best_for d_best_for ["board"] (lspx K T (r_best_for cs))) (m_best_for : mg "best_for" = some (.ref f_best_for)) (k_best_for : PySem.W.keepIn K (.ref f_best_for) = true) (q_best_for : Binds K d_best_for ["board"] [])
    {f_box_of : Addr} {d_box_of : FuncData} (F_box_of : FnG P w K mg base (L2.CX P w) 4 f_box_of d_box_of ["board"] (lspx K T (r_box_of cs))) (m_box_of : mg "box_of" = some (.ref f_box_of)) (k_box_of : PySem.W.keepIn K (.ref f_box_of) = true) (q_box_of : Binds K d_box_of ["board"] [])
    {f_shows_best : Addr} {d_shows_best : FuncData} (F_shows_best : FnG P w K mg base (L2.CX P w) 4 f_shows_best d_shows_best ["board", "value"] (lspx K T (r_shows_best cs))) (m_shows_best : mg "shows_best" = some (.ref f_shows_best)) (k_shows_best : PySem.W.keepIn K (.ref f_shows_best) = true) (q_shows_best : Binds K d_shows_best ["board", "value"] [])
    {f_law_heard : Addr} {d_law_heard : FuncData} (T_law_heard : Fun K "_law_heard" "_law_heard" s_law_heard f_law_heard d_law_heard) (h_law_heard : ∀ k, HearOk P w K mg base T k f_law_heard "_law_heard" n_law_heard s_law_heard "ask" (b_law_heard K cs)) (m_law_heard : mg "_law_heard" = some (.ref f_law_heard)) (k_law_heard : PySem.W.keepIn K (.ref f_law_heard) = true) (q_law_heard : Binds K d_law_heard ["ask"] [])
    {c_law_refused_right P_law_refused_right : Addr} (B_law_refused_right : LamX.TabB base mg c_law_refused_right P_law_refused_right) (inT_law_refused_right : (P_law_refused_right, ((("_law_refused_right" : Str) ++ ".<locals>.") ++ "<lambda>")) ∈ T) (one_law_refused_right : ∀ p ∈ T, p.1 = P_law_refused_right → p.2 = ((("_law_refused_right" : Str) ++ ".<locals>.") ++ "<lambda>")) (hc_law_refused_right : fd.code = .ref c_law_refused_right) (mt_Board_is_passed : Meth K cs.Board "is_passed" f_Board_is_passed) (M_Board : Mk K cs.Board f_Board_init) (zf_cheapest_cost : cs.f_cheapest_cost = f_cheapest_cost) (zf_best_for : cs.f_best_for = f_best_for) (zf_box_of : cs.f_box_of = f_box_of) : FnG P w K mg base CX0 9 f fd ["pen"] (lsp K T (r_law_refused_right cs)) := by
  refine def_okm (tb := b_law_refused_right K cs) F hc_law_refused_right sc_law_refused_right (len_law_refused_right cs) (fun A outer s H E room hgd => ?_) (run_law_refused_right kf)
  have nd := sc_law_refused_right.nd
  have hu := Room.units room
  have hu5 := Room.u65 room
  exact (ds_cons (ds_asg (ps_asg (de_tup (da_cons (de_lst (da_cons (de_lst (da_cons (de_tup (da_cons de_int (da_cons de_int da_nil))) da_nil)) (da_cons (de_lst (da_cons (de_tup (da_cons de_int (da_cons de_int da_nil))) da_nil)) (da_cons (de_tup (da_cons (de_tup (da_cons de_int (da_cons de_int da_nil))) (da_cons (de_tup (da_cons (de_un o_neg de_int) (da_cons de_int da_nil))) da_nil))) da_nil)))) (da_cons (de_lst (da_cons de_non (da_cons de_int (da_cons de_str (da_cons (de_lst (da_cons (de_tup (da_cons de_int (da_cons de_int da_nil))) (da_cons (de_lst (da_cons de_int (da_cons de_int da_nil))) da_nil))) (da_cons (de_lst (da_cons (de_tup (da_cons de_int (da_cons de_int (da_cons de_int da_nil)))) da_nil)) (da_cons (de_lst (da_cons (de_tup (da_cons de_int (da_cons de_bl da_nil))) da_nil)) (da_cons de_dnew (da_cons (de_lst (da_cons de_non da_nil)) (da_cons (de_lst (da_cons (de_lst (da_cons de_int da_nil)) da_nil)) (da_cons (de_lst (da_cons de_str da_nil)) (da_cons (de_tup (da_cons de_int (da_cons de_int da_nil))) da_nil)))))))))))) da_nil))) (dg_tp rfl (dgs_cons (dg_nm (i := 1) nd rfl (by first | exact .inl rfl | exact .inr rfl) (by first | exact .inl rfl | exact .inr rfl)) (dgs_cons (dg_nm (i := 2) nd rfl (by first | exact .inl rfl | exact .inr rfl) (by first | exact .inl rfl | exact .inr rfl)) dgs_nil)))))
    (ds_cons (ds_asg (ps_asg (de_tup (da_cons (de_call F_law_pick (room.mono (by decide)) hgd (by rfl) m_law_pick k_law_pick q_law_pick (da_cons (de_var 0 (pv 0)) (da_cons (de_var 2 (pv 2)) da_nil))) (da_cons (de_call F_law_pick (room.mono (by decide)) hgd (by rfl) m_law_pick k_law_pick q_law_pick (da_cons (de_var 0 (pv 0)) (da_cons (de_var 2 (pv 2)) da_nil))) da_nil))) (dg_tp rfl (dgs_cons (dg_nm (i := 3) nd rfl (by first | exact .inl rfl | exact .inr rfl) (by first | exact .inl rfl | exact .inr rfl)) (dgs_cons (dg_nm (i := 4) nd rfl (by first | exact .inl rfl | exact .inr rfl) (by first | exact .inl rfl | exact .inr rfl)) dgs_nil)))))
    (ds_cons (ds_set (i := 5) nd rfl (by first | exact .inl rfl | exact .inr rfl) (de_lstM (da_cons (de_hear (k := 6) T_law_heard sc_law_heard q_law_heard m_law_heard k_law_heard (h_law_heard _) B_law_refused_right rfl inT_law_refused_right one_law_refused_right (room.mono (by decide)) hgd (LamX.lamS_by (by kernel_rfl)) rfl (fun _ _ _ _ _ => rfl) rfl (.inl rfl) (fun A outer s H E f c' w0 L ED room hgd tk => by
      have hu := Room.units room
      have hu5 := Room.u65 room
      exact (de_frzO (de_makeX tk M_Board F_Board_init (room.mono (by decide)) hgd m_Board q_Board_init (da_cons (de_var 3 (pv 3)) (da_cons (de_var 4 (pv 4)) (da_cons (de_var 3 (pv 3)) da_nil))))))) da_nil)))
    (ds_cons (ds_expr (de_mOf (pe_bm PySem.F.plainAttrs_list PySem.F.slot_list_append PySem.F.type_list_append m_app (de_var 5 (pv 5)) (da_cons (de_hear (k := 6) T_law_heard sc_law_heard q_law_heard m_law_heard k_law_heard (h_law_heard _) B_law_refused_right rfl inT_law_refused_right one_law_refused_right (room.mono (by decide)) hgd (LamX.lamS_by (by kernel_rfl)) rfl (fun _ _ _ _ _ => rfl) rfl (.inl rfl) (fun A outer s H E f c' w0 L ED room hgd tk => by
      have hu := Room.units room
      have hu5 := Room.u65 room
      exact (de_frzO (de_makeX tk M_Board F_Board_init (room.mono (by decide)) hgd m_Board q_Board_init (da_cons (de_lst (da_cons (de_tup (da_cons (de_un o_neg de_int) (da_cons de_int da_nil))) da_nil)) (da_cons (de_var 3 (pv 3)) (da_cons (de_var 4 (pv 4)) da_nil))))))) da_nil))))
    (ds_cons (ds_expr (de_mOf (pe_bm PySem.F.plainAttrs_list PySem.F.slot_list_append PySem.F.type_list_append m_app (de_var 5 (pv 5)) (da_cons (de_hear (k := 6) T_law_heard sc_law_heard q_law_heard m_law_heard k_law_heard (h_law_heard _) B_law_refused_right rfl inT_law_refused_right one_law_refused_right (room.mono (by decide)) hgd (LamX.lamS_by (by kernel_rfl)) rfl (fun _ _ _ _ _ => rfl) rfl (.inl rfl) (fun A outer s H E f c' w0 L ED room hgd tk => by
      have hu := Room.units room
      have hu5 := Room.u65 room
      exact (de_frzO (de_makeX tk M_Board F_Board_init (room.mono (by decide)) hgd m_Board q_Board_init (da_cons (de_lst (da_cons (de_tup (da_cons de_int (da_cons (de_un o_neg de_int) da_nil))) da_nil)) (da_cons (de_ix (o_ixU hu5) (de_var 1 (pv 1)) de_int (fun _ _ => rfl)) (da_cons (de_var 3 (pv 3)) da_nil))))))) da_nil))))
    (ds_cons (ds_expr (de_mOf (pe_bm PySem.F.plainAttrs_list PySem.F.slot_list_append PySem.F.type_list_append m_app (de_var 5 (pv 5)) (da_cons (de_hear (k := 6) T_law_heard sc_law_heard q_law_heard m_law_heard k_law_heard (h_law_heard _) B_law_refused_right rfl inT_law_refused_right one_law_refused_right (room.mono (by decide)) hgd (LamX.lamS_by (by kernel_rfl)) rfl (fun _ _ _ _ _ => rfl) rfl (.inl rfl) (fun A outer s H E f c' w0 L ED room hgd tk => by
      have hu := Room.units room
      have hu5 := Room.u65 room
      exact (de_frzO (de_makeX tk M_Board F_Board_init (room.mono (by decide)) hgd m_Board q_Board_init (da_cons (de_lst (da_cons (de_tup (da_cons de_int (da_cons de_int da_nil))) (da_cons (de_tup (da_cons de_int (da_cons (de_un o_neg (de_call F_law_draw (room.mono (by decide)) hgd (by rfl) m_law_draw k_law_draw q_law_draw (da_cons (de_var 0 (pv 0)) (da_cons de_int da_nil)))) da_nil))) da_nil))) (da_cons (de_ix (o_ixU hu5) (de_var 1 (pv 1)) de_int (fun _ _ => rfl)) (da_cons (de_ix (o_ixU hu5) (de_var 1 (pv 1)) de_int (fun _ _ => rfl)) da_nil))))))) da_nil))))
    (ds_cons (ds_expr (de_mOf (pe_bm PySem.F.plainAttrs_list PySem.F.slot_list_append PySem.F.type_list_append m_app (de_var 5 (pv 5)) (da_cons (de_hear (k := 6) T_law_heard sc_law_heard q_law_heard m_law_heard k_law_heard (h_law_heard _) B_law_refused_right rfl inT_law_refused_right one_law_refused_right (room.mono (by decide)) hgd (LamX.lamS_by (by kernel_rfl)) rfl (fun _ _ _ _ _ => rfl) rfl (.inl rfl) (fun A outer s H E f c' w0 L ED room hgd tk => by
      have hu := Room.units room
      have hu5 := Room.u65 room
      exact (de_frzO (de_makeX tk M_Board F_Board_init (room.mono (by decide)) hgd m_Board q_Board_init (da_cons (de_lst (da_cons (de_tup (da_cons de_int (da_cons de_int da_nil))) (da_cons (de_tup (da_cons (de_op o_sub (de_un o_neg de_int) (de_call F_law_draw (room.mono (by decide)) hgd (by rfl) m_law_draw k_law_draw q_law_draw (da_cons (de_var 0 (pv 0)) (da_cons de_int da_nil)))) (da_cons de_int da_nil))) da_nil))) (da_cons (de_ix (o_ixU hu5) (de_var 1 (pv 1)) de_int (fun _ _ => rfl)) (da_cons (de_ix (o_ixU hu5) (de_var 1 (pv 1)) de_int (fun _ _ => rfl)) da_nil))))))) da_nil))))
    (ds_cons (ds_expr (de_mOf (pe_bm PySem.F.plainAttrs_list PySem.F.slot_list_append PySem.F.type_list_append m_app (de_var 5 (pv 5)) (da_cons (de_hear (k := 6) T_law_heard sc_law_heard q_law_heard m_law_heard k_law_heard (h_law_heard _) B_law_refused_right rfl inT_law_refused_right one_law_refused_right (room.mono (by decide)) hgd (LamX.lamS_by (by kernel_rfl)) rfl (fun _ _ _ _ _ => rfl) rfl (.inl rfl) (fun A outer s H E f c' w0 L ED room hgd tk => by
      have hu := Room.units room
      have hu5 := Room.u65 room
      exact (de_frzO (de_makeX tk M_Board F_Board_init (room.mono (by decide)) hgd m_Board q_Board_init (da_cons (de_lst (da_cons (de_tup (da_cons de_int (da_cons de_int da_nil))) (da_cons (de_tup (da_cons de_int (da_cons de_int da_nil))) da_nil))) (da_cons (de_ix (o_ixU hu5) (de_var 1 (pv 1)) de_int (fun _ _ => rfl)) (da_cons (de_ix (o_ixU hu5) (de_var 1 (pv 1)) de_int (fun _ _ => rfl)) da_nil))))))) da_nil))))
    (ds_cons (ds_if (dt_cmp (op_ne3 hu) (de_var 5 (pv 5)) (de_op o_add (de_lst (da_cons (de_tup (da_cons de_str (da_cons de_str da_nil))) (da_cons (de_tup (da_cons de_str (da_cons de_str da_nil))) (da_cons (de_tup (da_cons de_str (da_cons de_str da_nil))) da_nil)))) (de_op o_mulU (de_lst (da_cons (de_tup (da_cons de_str (da_cons de_str da_nil))) da_nil)) de_int)) (nomark _))
    (ds_one (ds_ret de_bl))
    ds_nil)
    (ds_cons (ds_asg (ps_asg (de_tup (da_cons (de_frzO (de_makeN M_Board F_Board_init (room.mono (by decide)) hgd m_Board q_Board_init (da_cons (de_ix (o_ixU hu5) (de_var 1 (pv 1)) de_int (fun _ _ => rfl)) (da_cons (de_ix (o_ixU hu5) (de_var 1 (pv 1)) de_int (fun _ _ => rfl)) (da_cons (de_ix (o_ixU hu5) (de_var 1 (pv 1)) de_int (fun _ _ => rfl)) da_nil))))) (da_cons (de_call F_law_pick (room.mono (by decide)) hgd (by rfl) m_law_pick k_law_pick q_law_pick (da_cons (de_var 0 (pv 0)) (da_cons (de_lst (da_cons de_non (da_cons de_int (da_cons (de_var 1 (pv 1)) (da_cons (de_tup (da_cons (de_tup da_nil) (da_cons (de_tup da_nil) (da_cons (de_tup da_nil) da_nil)))) (da_cons de_str (da_cons de_bl (da_cons de_dnew da_nil)))))))) da_nil))) da_nil))) (dg_tp rfl (dgs_cons (dg_nm (i := 6) nd rfl (by first | exact .inl rfl | exact .inr rfl) (by first | exact .inl rfl | exact .inr rfl)) (dgs_cons (dg_nm (i := 7) nd rfl (by first | exact .inl rfl | exact .inr rfl) (by first | exact .inl rfl | exact .inr rfl)) dgs_nil)))))
    (ds_cons (ds_set (i := 8) nd rfl (by first | exact .inl rfl | exact .inr rfl) (de_call F_law_pick (room.mono (by decide)) hgd (by rfl) m_law_pick k_law_pick q_law_pick (da_cons (de_var 0 (pv 0)) (da_cons (de_lst (da_cons de_non (da_cons de_int (da_cons de_str (da_cons (de_tup (da_cons de_int (da_cons de_int (da_cons de_int da_nil)))) (da_cons (de_lst (da_cons de_int da_nil)) (da_cons (de_tup (da_cons de_int (da_cons de_bl da_nil))) (da_cons (de_lst (da_cons de_int (da_cons de_str da_nil))) (da_cons de_dnew (da_cons (de_tup (da_cons (de_tup (da_cons de_int (da_cons de_int da_nil))) da_nil)) da_nil)))))))))) da_nil))))
    (ds_cons (ds_set (i := 5) nd rfl (by first | exact .inl rfl | exact .inr rfl) (de_lstM (da_cons (de_hear (k := 4) T_law_heard sc_law_heard q_law_heard m_law_heard k_law_heard (h_law_heard _) B_law_refused_right rfl inT_law_refused_right one_law_refused_right (room.mono (by decide)) hgd (LamX.lamS_by (by kernel_rfl)) rfl (fun _ _ _ _ _ => rfl) rfl (.inl rfl) (fun A outer s H E f c' w0 L ED room hgd tk => by
      have hu := Room.units room
      have hu5 := Room.u65 room
      exact (de_methX tk (de_var 6 (pv 6)) kf.c_Board.cl mt_Board_is_passed F_Board_is_passed (room.mono (by decide)) hgd q_Board_is_passed (da_cons (de_var 8 (pv 8)) da_nil)))) da_nil)))
    (ds_cons (ds_expr (de_mOf (pe_bm PySem.F.plainAttrs_list PySem.F.slot_list_append PySem.F.type_list_append m_app (de_var 5 (pv 5)) (da_cons (de_hear (k := 6) T_law_heard sc_law_heard q_law_heard m_law_heard k_law_heard (h_law_heard _) B_law_refused_right rfl inT_law_refused_right one_law_refused_right (room.mono (by decide)) hgd (LamX.lamS_by (by kernel_rfl)) rfl (fun _ _ _ _ _ => rfl) rfl (.inl rfl) (fun A outer s H E f c' w0 L ED room hgd tk => by
      have hu := Room.units room
      have hu5 := Room.u65 room
      exact (de_callX tk F_fits (room.mono (by decide)) hgd m_fits k_fits q_fits (da_cons (de_var 7 (pv 7)) (da_cons (de_var 3 (pv 3)) da_nil))))) da_nil))))
    (ds_cons (ds_expr (de_mOf (pe_bm PySem.F.plainAttrs_list PySem.F.slot_list_append PySem.F.type_list_append m_app (de_var 5 (pv 5)) (da_cons (de_hear (k := 6) T_law_heard sc_law_heard q_law_heard m_law_heard k_law_heard (h_law_heard _) B_law_refused_right rfl inT_law_refused_right one_law_refused_right (room.mono (by decide)) hgd (LamX.lamS_by (by kernel_rfl)) rfl (fun _ _ _ _ _ => rfl) rfl (.inl rfl) (fun A outer s H E f c' w0 L ED room hgd tk => by
      have hu := Room.units room
      have hu5 := Room.u65 room
      exact (de_callX tk F_fits (room.mono (by decide)) hgd m_fits k_fits q_fits (da_cons (de_var 6 (pv 6)) (da_cons (de_var 3 (pv 3)) da_nil))))) da_nil))))
    (ds_cons (ds_expr (de_mOf (pe_bm PySem.F.plainAttrs_list PySem.F.slot_list_extend PySem.F.type_list_extend m_ext (de_var 5 (pv 5)) (da_cons (de_lcOf (pe_lc (own := [("ask", 9)]) (wi := tI _ (Gh.mk [] T) (sSq (eTup (aCons (eFn cs.f_box_of) (aCons (eFn cs.f_best_for) (aCons (eFn cs.f_cheapest_cost) aNil)))))) (g := toG _ (.nm 9)) (tt := tT _ (Gh.mk [] T) bYes) (te := tE _ (Gh.mk [] T) (eHear 5 (b_law_heard K cs) (fun ED => (eCallV 9 [(cs.f_box_of, r_box_of cs), (cs.f_best_for, r_best_for cs), (cs.f_cheapest_cost, r_cheapest_cost cs)] ED (aCons (eVar 7) aNil))))) rfl nd (di_seq (de_tup (da_cons (de_fn m_box_of zf_box_of) (da_cons (de_fn m_best_for zf_best_for) (da_cons (de_fn m_cheapest_cost zf_cheapest_cost) da_nil))))) (blkOk_by (N := n_law_refused_right) (sc := defScope s_law_refused_right) (by decide +kernel)) (fun _ _ _ _ _ => (dg_nm (i := 9) nd rfl (by first | exact .inl rfl | exact .inr rfl) (by first | exact .inl rfl | exact .inr rfl))) (fun _ _ _ _ _ => dts_nil) (fun _ _ _ _ _ => (de_hear (k := 4) T_law_heard sc_law_heard q_law_heard m_law_heard k_law_heard (h_law_heard _) B_law_refused_right rfl inT_law_refused_right one_law_refused_right (room.mono (by decide)) hgd (LamX.lamS_by (by kernel_rfl)) rfl (fun _ _ _ _ _ => rfl) rfl (.inl rfl) (fun A outer s H E f c' w0 L ED room hgd tk => by
      have hu := Room.units room
      have hu5 := Room.u65 room
      exact (de_callV (i := 9) tk (.cons F_box_of (room.mono (by decide)) k_box_of q_box_of zf_box_of (.cons F_best_for (room.mono (by decide)) k_best_for q_best_for zf_best_for (.cons F_cheapest_cost (room.mono (by decide)) k_cheapest_cost q_cheapest_cost zf_cheapest_cost .nil))) hgd rfl (by first | exact .inl rfl | exact .inr (.inl rfl) | exact .inr (.inr rfl)) (da_cons (de_var 7 (pv 7)) da_nil)))))) (by decide)) da_nil))))
    (ds_cons (ds_expr (de_mOf (pe_bm PySem.F.plainAttrs_list PySem.F.slot_list_append PySem.F.type_list_append m_app (de_var 5 (pv 5)) (da_cons (de_hear (k := 4) T_law_heard sc_law_heard q_law_heard m_law_heard k_law_heard (h_law_heard _) B_law_refused_right rfl inT_law_refused_right one_law_refused_right (room.mono (by decide)) hgd (LamX.lamS_by (by kernel_rfl)) rfl (fun _ _ _ _ _ => rfl) rfl (.inl rfl) (fun A outer s H E f c' w0 L ED room hgd tk => by
      have hu := Room.units room
      have hu5 := Room.u65 room
      exact (de_callX tk F_shows_best (room.mono (by decide)) hgd m_shows_best k_shows_best q_shows_best (da_cons (de_var 7 (pv 7)) (da_cons de_non da_nil))))) da_nil))))
    (ds_one (ds_ret (de_cmp (op_eq3 hu) (de_var 5 (pv 5)) (de_op o_add (de_lst (da_cons (de_tup (da_cons de_str (da_cons de_str da_nil))) (da_cons (de_tup (da_cons de_str (da_cons de_str da_nil))) (da_cons (de_tup (da_cons de_str (da_cons de_str da_nil))) da_nil)))) (de_op o_mulU (de_lst (da_cons (de_tup (da_cons de_str (da_cons de_str da_nil))) da_nil)) de_int)) (nomark _))))))))))))))))))))
abbrev s_law : Stmt := top 72
abbrev n_law : List Str := ["script", "pen", "turn"]
theorem sc_law : FnScope n_law ["script"] (defScope s_law) := ⟨rfl, rfl, rfl, by decide +kernel, rfl, by decide +kernel, by decide +kernel⟩
theorem ok_law {f : Addr} {fd : FuncData} (F : Fun K "law" "law" s_law f fd) {cs : Cs} (kf : KF K cs)
    {f_law_pen : Addr} {d_law_pen : FuncData} (F_law_pen : FnG P w K mg base CX0 1 f_law_pen d_law_pen ["script"] (lsp K T r_law_pen)) (m_law_pen : mg "_law_pen" = some (.ref f_law_pen)) (k_law_pen : PySem.W.keepIn K (.ref f_law_pen) = true) (q_law_pen : Binds K d_law_pen ["script"] [])
    {f_law_refused_right : Addr} {d_law_refused_right : FuncData} (F_law_refused_right : FnG P w K mg base CX0 9 f_law_refused_right d_law_refused_right ["pen"] (lsp K T (r_law_refused_right cs))) (m_law_refused_right : mg "_law_refused_right" = some (.ref f_law_refused_right)) (k_law_refused_right : PySem.W.keepIn K (.ref f_law_refused_right) = true) (q_law_refused_right : Binds K d_law_refused_right ["pen"] [])
    {f_law_fits_right : Addr} {d_law_fits_right : FuncData} (F_law_fits_right : FnG P w K mg base CX0 9 f_law_fits_right d_law_fits_right ["pen"] (lsp K T (r_law_fits_right cs))) (m_law_fits_right : mg "_law_fits_right" = some (.ref f_law_fits_right)) (k_law_fits_right : PySem.W.keepIn K (.ref f_law_fits_right) = true) (q_law_fits_right : Binds K d_law_fits_right ["pen"] [])
    {f_law_kept_right : Addr} {d_law_kept_right : FuncData} (F_law_kept_right : FnG P w K mg base CX0 7 f_law_kept_right d_law_kept_right ["pen"] (lsp K T (r_law_kept_right cs))) (m_law_kept_right : mg "_law_kept_right" = some (.ref f_law_kept_right)) (k_law_kept_right : PySem.W.keepIn K (.ref f_law_kept_right) = true) (q_law_kept_right : Binds K d_law_kept_right ["pen"] []) (z_range : mg "range" = none) : FnG P w K mg base CX0 10 f fd ["script"] (lsp K T r_law) := by
  refine def_ok (tb := b_law K cs) F sc_law len_law (fun cdv A outer s H E room hgd => ?_) (run_law kf)
  have nd := sc_law.nd
  have hu := Room.units room
  have hu5 := Room.u65 room
  exact (ds_cons (ds_set (i := 1) nd rfl (by first | exact .inl rfl | exact .inr rfl) (de_call F_law_pen (room.mono (by decide)) hgd (by rfl) m_law_pen k_law_pen q_law_pen (da_cons (de_var 0 (pv 0)) da_nil)))
    (ds_cons (ds_for PassesOwn.never rfl (di_range1 (by rfl) z_range (da_cons de_int da_nil)) (dg_nm (i := 2) nd rfl (by first | exact .inl rfl | exact .inr rfl) (by first | exact .inl rfl | exact .inr rfl))
    (ds_one (ds_if (dt_w (dw_or (dt_not (dt_val (de_call F_law_kept_right (room.mono (by decide)) hgd (by rfl) m_law_kept_right k_law_kept_right q_law_kept_right (da_cons (de_var 1 (pv 1)) da_nil)))) (dw_or (dt_not (dt_val (de_call F_law_fits_right (room.mono (by decide)) hgd (by rfl) m_law_fits_right k_law_fits_right q_law_fits_right (da_cons (de_var 1 (pv 1)) da_nil)))) (dw_or1 (dt_not (dt_val (de_call F_law_refused_right (room.mono (by decide)) hgd (by rfl) m_law_refused_right k_law_refused_right q_law_refused_right (da_cons (de_var 1 (pv 1)) da_nil))))))))
    (ds_one (ds_ret de_bl))
    ds_nil)))
    (ds_one (ds_ret de_bl))))
end
abbrev s_BadBoard : Stmt := clsItem (top 4) 0
abbrev s_BadSquares : Stmt := clsItem (top 3) 0
abbrev s_Misfit : Stmt := clsItem (top 5) 0
abbrev s_BadSquare : Stmt := clsItem (top 2) 0
theorem all_mk {l : PySem.W.OpenLaw} {w : World} {K : PySem.W.Frag} {h : Heap} {mg : Str → Option Value} {fa : Addr} {Pq Pr : Program} (hPr : l.prog = Pr) (X : K.In h) (G : h.Ns mainGlobals mg) (hfa : mg "law" = some (.ref fa)) {C_Board : Addr} {C_BadBoard : Addr} {C_BadSquares : Addr} {C_Misfit : Addr} {C_BadSquare : Addr} {C_FlightError : Addr} {fI_BadBoard cda_BadBoard cc_BadBoard : Addr} {od_BadBoard an_BadBoard : Option Addr} {sl_BadBoard : Array (Option Value)} {v1_BadBoard v3_BadBoard v4_BadBoard v5_BadBoard v6_BadBoard : Value} {fI_BadSquares cda_BadSquares cc_BadSquares : Addr} {od_BadSquares an_BadSquares : Option Addr} {sl_BadSquares : Array (Option Value)} {v1_BadSquares v3_BadSquares v4_BadSquares v5_BadSquares v6_BadSquares : Value} {fI_Misfit cda_Misfit cc_Misfit : Addr} {od_Misfit an_Misfit : Option Addr} {sl_Misfit : Array (Option Value)} {v1_Misfit v3_Misfit v4_Misfit v5_Misfit v6_Misfit : Value} {fI_BadSquare cda_BadSquare cc_BadSquare : Addr} {od_BadSquare an_BadSquare : Option Addr} {sl_BadSquare : Array (Option Value)} {v1_BadSquare v3_BadSquare v4_BadSquare v5_BadSquare v6_BadSquare : Value} {f_law_pen : Addr} {od_law_pen an_law_pen : Option Addr} {sl_law_pen : Array (Option Value)} {v1_law_pen v2_law_pen v3_law_pen v4_law_pen v5_law_pen v6_law_pen : Value} {f_law_draw : Addr} {od_law_draw an_law_draw : Option Addr} {sl_law_draw : Array (Option Value)} {v1_law_draw v2_law_draw v3_law_draw v4_law_draw v5_law_draw v6_law_draw : Value} {f_law_pick : Addr} {od_law_pick an_law_pick : Option Addr} {sl_law_pick : Array (Option Value)} {v1_law_pick v2_law_pick v3_law_pick v4_law_pick v5_law_pick v6_law_pick : Value} {f_law_barred : Addr} {od_law_barred an_law_barred : Option Addr} {sl_law_barred : Array (Option Value)} {v1_law_barred v2_law_barred v3_law_barred v4_law_barred v5_law_barred v6_law_barred : Value} {f_law_board : Addr} {od_law_board an_law_board : Option Addr} {sl_law_board : Array (Option Value)} {v1_law_board v2_law_board v3_law_board v4_law_board v5_law_board v6_law_board : Value} {f_need_board : Addr} {od_need_board an_need_board : Option Addr} {sl_need_board : Array (Option Value)} {v1_need_board v2_need_board v3_need_board v4_need_board v5_need_board v6_need_board : Value} {f_is_barred : Addr} {od_is_barred an_is_barred : Option Addr} {sl_is_barred : Array (Option Value)} {v1_is_barred v2_is_barred v3_is_barred v4_is_barred v5_is_barred v6_is_barred : Value} {f_box_around : Addr} {od_box_around an_box_around : Option Addr} {sl_box_around : Array (Option Value)} {v1_box_around v2_box_around v3_box_around v4_box_around v5_box_around v6_box_around : Value} {f_box_of : Addr} {od_box_of an_box_of : Option Addr} {sl_box_of : Array (Option Value)} {v1_box_of v2_box_of v3_box_of v4_box_of v5_box_of v6_box_of : Value} {f_law_box : Addr} {od_law_box an_law_box : Option Addr} {sl_law_box : Array (Option Value)} {v1_law_box v2_law_box v3_law_box v4_law_box v5_law_box v6_law_box : Value} {f_is_integer : Addr} {od_is_integer an_is_integer : Option Addr} {sl_is_integer : Array (Option Value)} {v1_is_integer v2_is_integer v3_is_integer v4_is_integer v5_is_integer v6_is_integer : Value} {f_is_squareG : Addr} {od_is_squareG an_is_squareG : Option Addr} {sl_is_squareG : Array (Option Value)} {v1_is_squareG v2_is_squareG v3_is_squareG v4_is_squareG v5_is_squareG v6_is_squareG : Value} {f_are_squaresG : Addr} {od_are_squaresG an_are_squaresG : Option Addr} {sl_are_squaresG : Array (Option Value)} {v1_are_squaresG v2_are_squaresG v3_are_squaresG v4_are_squaresG v5_are_squaresG v6_are_squaresG : Value} {f_need_squaresG : Addr} {od_need_squaresG an_need_squaresG : Option Addr} {sl_need_squaresG : Array (Option Value)} {v1_need_squaresG v2_need_squaresG v3_need_squaresG v4_need_squaresG v5_need_squaresG v6_need_squaresG : Value} {f_Board_init : Addr} {od_Board_init an_Board_init : Option Addr} {sl_Board_init : Array (Option Value)} {v1_Board_init v2_Board_init v3_Board_init v4_Board_init v5_Board_init v6_Board_init : Value} {f_need_squareG : Addr} {od_need_squareG an_need_squareG : Option Addr} {sl_need_squareG : Array (Option Value)} {v1_need_squareG v2_need_squareG v3_need_squareG v4_need_squareG v5_need_squareG v6_need_squareG : Value} {f_Board_is_passed : Addr} {od_Board_is_passed an_Board_is_passed : Option Addr} {sl_Board_is_passed : Array (Option Value)} {v1_Board_is_passed v2_Board_is_passed v3_Board_is_passed v4_Board_is_passed v5_Board_is_passed v6_Board_is_passed : Value} {f_Board_eq : Addr} {od_Board_eq an_Board_eq : Option Addr} {sl_Board_eq : Array (Option Value)} {v1_Board_eq v2_Board_eq v3_Board_eq v4_Board_eq v5_Board_eq v6_Board_eq : Value} {f_law_kept_right : Addr} {od_law_kept_right an_law_kept_right : Option Addr} {sl_law_kept_right : Array (Option Value)} {v1_law_kept_right v2_law_kept_right v3_law_kept_right v4_law_kept_right v5_law_kept_right v6_law_kept_right : Value} {f_best_for : Addr} {od_best_for an_best_for : Option Addr} {sl_best_for : Array (Option Value)} {v1_best_for v2_best_for v3_best_for v4_best_for v5_best_for v6_best_for : Value} {f_cheapest_cost : Addr} {od_cheapest_cost an_cheapest_cost : Option Addr} {sl_cheapest_cost : Array (Option Value)} {v1_cheapest_cost v2_cheapest_cost v3_cheapest_cost v4_cheapest_cost v5_cheapest_cost v6_cheapest_cost : Value} {f_law_heard : Addr} {od_law_heard an_law_heard : Option Addr} {sl_law_heard : Array (Option Value)} {v1_law_heard v2_law_heard v3_law_heard v4_law_heard v5_law_heard v6_law_heard : Value} {f_is_fit : Addr} {od_is_fit an_is_fit : Option Addr} {sl_is_fit : Array (Option Value)} {v1_is_fit v2_is_fit v3_is_fit v4_is_fit v5_is_fit v6_is_fit : Value} {f_need_right : Addr} {od_need_right an_need_right : Option Addr} {sl_need_right : Array (Option Value)} {v1_need_right v2_need_right v3_need_right v4_need_right v5_need_right v6_need_right : Value} {f_need_wall : Addr} {od_need_wall an_need_wall : Option Addr} {sl_need_wall : Array (Option Value)} {v1_need_wall v2_need_wall v3_need_wall v4_need_wall v5_need_wall v6_need_wall : Value} {f_fits : Addr} {od_fits an_fits : Option Addr} {sl_fits : Array (Option Value)} {v1_fits v2_fits v3_fits v4_fits v5_fits v6_fits : Value} {f_law_fits_right : Addr} {od_law_fits_right an_law_fits_right : Option Addr} {sl_law_fits_right : Array (Option Value)} {v1_law_fits_right v2_law_fits_right v3_law_fits_right v4_law_fits_right v6_law_fits_right : Value} {c_law_fits_right P_law_fits_right : Addr} {w1_law_fits_right : Value} {w2_law_fits_right : Option Addr} {w3_law_fits_right : Array Value} {w4_law_fits_right : Array (Option Value)} {f_shows_best : Addr} {od_shows_best an_shows_best : Option Addr} {sl_shows_best : Array (Option Value)} {v1_shows_best v2_shows_best v3_shows_best v4_shows_best v5_shows_best v6_shows_best : Value} {f_law_refused_right : Addr} {od_law_refused_right an_law_refused_right : Option Addr} {sl_law_refused_right : Array (Option Value)} {v1_law_refused_right v2_law_refused_right v3_law_refused_right v4_law_refused_right v6_law_refused_right : Value} {c_law_refused_right P_law_refused_right : Addr} {w1_law_refused_right : Value} {w2_law_refused_right : Option Addr} {w3_law_refused_right : Array Value} {w4_law_refused_right : Array (Option Value)} {f_law : Addr} {od_law an_law : Option Addr} {sl_law : Array (Option Value)} {v1_law v2_law v3_law v4_law v5_law v6_law : Value}
    (a_Board : PySem.W.nsIn K mainGlobals "Board" = some (some (.ref C_Board)))
    (a_BadBoard : PySem.W.nsIn K mainGlobals "BadBoard" = some (some (.ref C_BadBoard)))
    (a_BadSquares : PySem.W.nsIn K mainGlobals "BadSquares" = some (some (.ref C_BadSquares)))
    (a_Misfit : PySem.W.nsIn K mainGlobals "Misfit" = some (some (.ref C_Misfit)))
    (a_BadSquare : PySem.W.nsIn K mainGlobals "BadSquare" = some (some (.ref C_BadSquare)))
    (a_FlightError : PySem.W.nsIn K mainGlobals "FlightError" = some (some (.ref C_FlightError)))
    (i_BadBoard : PySem.W.findIn K (.ref C_BadBoard) "__init__" = some (some (.ref fI_BadBoard)))
    (l_BadBoard : K.lookup fI_BadBoard = some ⟨v1_BadBoard, od_BadBoard, .func (ini "BadBoard.__init__" s_BadBoard .none v3_BadBoard v4_BadBoard v5_BadBoard an_BadBoard cda_BadBoard v6_BadBoard cc_BadBoard), sl_BadBoard⟩)
    (e_BadBoard : errB K Pr C_BadBoard fI_BadBoard cda_BadBoard cc_BadBoard "BadBoard" "BadBoard.__init__" ["part"] = true)
    (i_BadSquares : PySem.W.findIn K (.ref C_BadSquares) "__init__" = some (some (.ref fI_BadSquares)))
    (l_BadSquares : K.lookup fI_BadSquares = some ⟨v1_BadSquares, od_BadSquares, .func (ini "BadSquares.__init__" s_BadSquares .none v3_BadSquares v4_BadSquares v5_BadSquares an_BadSquares cda_BadSquares v6_BadSquares cc_BadSquares), sl_BadSquares⟩)
    (e_BadSquares : errB K Pr C_BadSquares fI_BadSquares cda_BadSquares cc_BadSquares "BadSquares" "BadSquares.__init__" ["part"] = true)
    (i_Misfit : PySem.W.findIn K (.ref C_Misfit) "__init__" = some (some (.ref fI_Misfit)))
    (l_Misfit : K.lookup fI_Misfit = some ⟨v1_Misfit, od_Misfit, .func (ini "Misfit.__init__" s_Misfit .none v3_Misfit v4_Misfit v5_Misfit an_Misfit cda_Misfit v6_Misfit cc_Misfit), sl_Misfit⟩)
    (e_Misfit : errB K Pr C_Misfit fI_Misfit cda_Misfit cc_Misfit "Misfit" "Misfit.__init__" ["part"] = true)
    (i_BadSquare : PySem.W.findIn K (.ref C_BadSquare) "__init__" = some (some (.ref fI_BadSquare)))
    (l_BadSquare : K.lookup fI_BadSquare = some ⟨v1_BadSquare, od_BadSquare, .func (ini "BadSquare.__init__" s_BadSquare .none v3_BadSquare v4_BadSquare v5_BadSquare an_BadSquare cda_BadSquare v6_BadSquare cc_BadSquare), sl_BadSquare⟩)
    (e_BadSquare : errB K Pr C_BadSquare fI_BadSquare cda_BadSquare cc_BadSquare "BadSquare" "BadSquare.__init__" ["part"] = true)
    (kfB : (kfL K ({ Board := C_Board, BadBoard := C_BadBoard, BadSquares := C_BadSquares, Misfit := C_Misfit, BadSquare := C_BadSquare, FlightError := C_FlightError, f_cheapest_cost := f_cheapest_cost, f_best_for := f_best_for, f_box_of := f_box_of } : Cs)).all id = true)
    (a_law_pen : PySem.W.nsIn K mainGlobals "_law_pen" = some (some (.ref f_law_pen)))
    (l_law_pen : K.lookup f_law_pen = some ⟨v1_law_pen, od_law_pen, .func (PySem.W.fnOf "_law_pen" "_law_pen" (defArgs s_law_pen) (defBody s_law_pen) (defScope s_law_pen) .none v2_law_pen v3_law_pen v4_law_pen an_law_pen v5_law_pen v6_law_pen), sl_law_pen⟩)
    (cd_law_pen : PySem.W.codeIn K v5_law_pen "_law_pen" = true)
    (k_law_pen : PySem.W.keepIn K (.ref f_law_pen) = true)
    (a_law_draw : PySem.W.nsIn K mainGlobals "_law_draw" = some (some (.ref f_law_draw)))
    (l_law_draw : K.lookup f_law_draw = some ⟨v1_law_draw, od_law_draw, .func (PySem.W.fnOf "_law_draw" "_law_draw" (defArgs s_law_draw) (defBody s_law_draw) (defScope s_law_draw) .none v2_law_draw v3_law_draw v4_law_draw an_law_draw v5_law_draw v6_law_draw), sl_law_draw⟩)
    (cd_law_draw : PySem.W.codeIn K v5_law_draw "_law_draw" = true)
    (k_law_draw : PySem.W.keepIn K (.ref f_law_draw) = true)
    (a_law_pick : PySem.W.nsIn K mainGlobals "_law_pick" = some (some (.ref f_law_pick)))
    (l_law_pick : K.lookup f_law_pick = some ⟨v1_law_pick, od_law_pick, .func (PySem.W.fnOf "_law_pick" "_law_pick" (defArgs s_law_pick) (defBody s_law_pick) (defScope s_law_pick) .none v2_law_pick v3_law_pick v4_law_pick an_law_pick v5_law_pick v6_law_pick), sl_law_pick⟩)
    (cd_law_pick : PySem.W.codeIn K v5_law_pick "_law_pick" = true)
    (k_law_pick : PySem.W.keepIn K (.ref f_law_pick) = true)
    (a_law_barred : PySem.W.nsIn K mainGlobals "_law_barred" = some (some (.ref f_law_barred)))
    (l_law_barred : K.lookup f_law_barred = some ⟨v1_law_barred, od_law_barred, .func (PySem.W.fnOf "_law_barred" "_law_barred" (defArgs s_law_barred) (defBody s_law_barred) (defScope s_law_barred) .none v2_law_barred v3_law_barred v4_law_barred an_law_barred v5_law_barred v6_law_barred), sl_law_barred⟩)
    (cd_law_barred : PySem.W.codeIn K v5_law_barred "_law_barred" = true)
    (k_law_barred : PySem.W.keepIn K (.ref f_law_barred) = true)
    (a_law_board : PySem.W.nsIn K mainGlobals "_law_board" = some (some (.ref f_law_board)))
    (l_law_board : K.lookup f_law_board = some ⟨v1_law_board, od_law_board, .func (PySem.W.fnOf "_law_board" "_law_board" (defArgs s_law_board) (defBody s_law_board) (defScope s_law_board) .none v2_law_board v3_law_board v4_law_board an_law_board v5_law_board v6_law_board), sl_law_board⟩)
    (cd_law_board : PySem.W.codeIn K v5_law_board "_law_board" = true)
    (k_law_board : PySem.W.keepIn K (.ref f_law_board) = true)
    (a_need_board : PySem.W.nsIn K mainGlobals "need_board" = some (some (.ref f_need_board)))
    (l_need_board : K.lookup f_need_board = some ⟨v1_need_board, od_need_board, .func (PySem.W.fnOf "need_board" "need_board" (defArgs s_need_board) (defBody s_need_board) (defScope s_need_board) .none v2_need_board v3_need_board v4_need_board an_need_board v5_need_board v6_need_board), sl_need_board⟩)
    (cd_need_board : PySem.W.codeIn K v5_need_board "need_board" = true)
    (k_need_board : PySem.W.keepIn K (.ref f_need_board) = true)
    (a_is_barred : PySem.W.nsIn K mainGlobals "is_barred" = some (some (.ref f_is_barred)))
    (l_is_barred : K.lookup f_is_barred = some ⟨v1_is_barred, od_is_barred, .func (PySem.W.fnOf "is_barred" "is_barred" (defArgs s_is_barred) (defBody s_is_barred) (defScope s_is_barred) .none v2_is_barred v3_is_barred v4_is_barred an_is_barred v5_is_barred v6_is_barred), sl_is_barred⟩)
    (cd_is_barred : PySem.W.codeIn K v5_is_barred "is_barred" = true)
    (k_is_barred : PySem.W.keepIn K (.ref f_is_barred) = true)
    (a_box_around : PySem.W.nsIn K mainGlobals "box_around" = some (some (.ref f_box_around)))
    (l_box_around : K.lookup f_box_around = some ⟨v1_box_around, od_box_around, .func (PySem.W.fnOf "box_around" "box_around" (defArgs s_box_around) (defBody s_box_around) (defScope s_box_around) .none v2_box_around v3_box_around v4_box_around an_box_around v5_box_around v6_box_around), sl_box_around⟩)
    (cd_box_around : PySem.W.codeIn K v5_box_around "box_around" = true)
    (k_box_around : PySem.W.keepIn K (.ref f_box_around) = true)
    (a_box_of : PySem.W.nsIn K mainGlobals "box_of" = some (some (.ref f_box_of)))
    (l_box_of : K.lookup f_box_of = some ⟨v1_box_of, od_box_of, .func (PySem.W.fnOf "box_of" "box_of" (defArgs s_box_of) (defBody s_box_of) (defScope s_box_of) .none v2_box_of v3_box_of v4_box_of an_box_of v5_box_of v6_box_of), sl_box_of⟩)
    (cd_box_of : PySem.W.codeIn K v5_box_of "box_of" = true)
    (k_box_of : PySem.W.keepIn K (.ref f_box_of) = true)
    (a_law_box : PySem.W.nsIn K mainGlobals "_law_box" = some (some (.ref f_law_box)))
    (l_law_box : K.lookup f_law_box = some ⟨v1_law_box, od_law_box, .func (PySem.W.fnOf "_law_box" "_law_box" (defArgs s_law_box) (defBody s_law_box) (defScope s_law_box) .none v2_law_box v3_law_box v4_law_box an_law_box v5_law_box v6_law_box), sl_law_box⟩)
    (cd_law_box : PySem.W.codeIn K v5_law_box "_law_box" = true)
    (k_law_box : PySem.W.keepIn K (.ref f_law_box) = true)
    (a_is_integer : PySem.W.nsIn K mainGlobals "is_integer" = some (some (.ref f_is_integer)))
    (l_is_integer : K.lookup f_is_integer = some ⟨v1_is_integer, od_is_integer, .func (PySem.W.fnOf "is_integer" "is_integer" (defArgs s_is_integer) (defBody s_is_integer) (defScope s_is_integer) .none v2_is_integer v3_is_integer v4_is_integer an_is_integer v5_is_integer v6_is_integer), sl_is_integer⟩)
    (cd_is_integer : PySem.W.codeIn K v5_is_integer "is_integer" = true)
    (k_is_integer : PySem.W.keepIn K (.ref f_is_integer) = true)
    (a_is_squareG : PySem.W.nsIn K mainGlobals "is_square" = some (some (.ref f_is_squareG)))
    (l_is_squareG : K.lookup f_is_squareG = some ⟨v1_is_squareG, od_is_squareG, .func (PySem.W.fnOf "is_square" "is_square" (defArgs s_is_squareG) (defBody s_is_squareG) (defScope s_is_squareG) .none v2_is_squareG v3_is_squareG v4_is_squareG an_is_squareG v5_is_squareG v6_is_squareG), sl_is_squareG⟩)
    (cd_is_squareG : PySem.W.codeIn K v5_is_squareG "is_square" = true)
    (k_is_squareG : PySem.W.keepIn K (.ref f_is_squareG) = true)
    (a_are_squaresG : PySem.W.nsIn K mainGlobals "are_squares" = some (some (.ref f_are_squaresG)))
    (l_are_squaresG : K.lookup f_are_squaresG = some ⟨v1_are_squaresG, od_are_squaresG, .func (PySem.W.fnOf "are_squares" "are_squares" (defArgs s_are_squaresG) (defBody s_are_squaresG) (defScope s_are_squaresG) .none v2_are_squaresG v3_are_squaresG v4_are_squaresG an_are_squaresG v5_are_squaresG v6_are_squaresG), sl_are_squaresG⟩)
    (cd_are_squaresG : PySem.W.codeIn K v5_are_squaresG "are_squares" = true)
    (k_are_squaresG : PySem.W.keepIn K (.ref f_are_squaresG) = true)
    (a_need_squaresG : PySem.W.nsIn K mainGlobals "need_squares" = some (some (.ref f_need_squaresG)))
    (l_need_squaresG : K.lookup f_need_squaresG = some ⟨v1_need_squaresG, od_need_squaresG, .func (PySem.W.fnOf "need_squares" "need_squares" (defArgs s_need_squaresG) (defBody s_need_squaresG) (defScope s_need_squaresG) .none v2_need_squaresG v3_need_squaresG v4_need_squaresG an_need_squaresG v5_need_squaresG v6_need_squaresG), sl_need_squaresG⟩)
    (cd_need_squaresG : PySem.W.codeIn K v5_need_squaresG "need_squares" = true)
    (k_need_squaresG : PySem.W.keepIn K (.ref f_need_squaresG) = true)
    (a_Board_init : PySem.W.findIn K (.ref C_Board) "__init__" = some (some (.ref f_Board_init)))
    (l_Board_init : K.lookup f_Board_init = some ⟨v1_Board_init, od_Board_init, .func (PySem.W.fnOf "__init__" "Board.__init__" (defArgs s_Board_init) (defBody s_Board_init) (defScope s_Board_init) .none v2_Board_init v3_Board_init v4_Board_init an_Board_init v5_Board_init v6_Board_init), sl_Board_init⟩)
    (cd_Board_init : PySem.W.codeIn K v5_Board_init "Board.__init__" = true)
    (g_Board_init : PySem.W.isFn K (.ref f_Board_init) = true)
    (k_Board_init : PySem.W.keepIn K (.ref f_Board_init) = true)
    (a_need_squareG : PySem.W.nsIn K mainGlobals "need_square" = some (some (.ref f_need_squareG)))
    (l_need_squareG : K.lookup f_need_squareG = some ⟨v1_need_squareG, od_need_squareG, .func (PySem.W.fnOf "need_square" "need_square" (defArgs s_need_squareG) (defBody s_need_squareG) (defScope s_need_squareG) .none v2_need_squareG v3_need_squareG v4_need_squareG an_need_squareG v5_need_squareG v6_need_squareG), sl_need_squareG⟩)
    (cd_need_squareG : PySem.W.codeIn K v5_need_squareG "need_square" = true)
    (k_need_squareG : PySem.W.keepIn K (.ref f_need_squareG) = true)
    (a_Board_is_passed : PySem.W.findIn K (.ref C_Board) "is_passed" = some (some (.ref f_Board_is_passed)))
    (l_Board_is_passed : K.lookup f_Board_is_passed = some ⟨v1_Board_is_passed, od_Board_is_passed, .func (PySem.W.fnOf "is_passed" "Board.is_passed" (defArgs s_Board_is_passed) (defBody s_Board_is_passed) (defScope s_Board_is_passed) .none v2_Board_is_passed v3_Board_is_passed v4_Board_is_passed an_Board_is_passed v5_Board_is_passed v6_Board_is_passed), sl_Board_is_passed⟩)
    (cd_Board_is_passed : PySem.W.codeIn K v5_Board_is_passed "Board.is_passed" = true)
    (g_Board_is_passed : PySem.W.isFn K (.ref f_Board_is_passed) = true)
    (k_Board_is_passed : PySem.W.keepIn K (.ref f_Board_is_passed) = true)
    (a_Board_eq : PySem.W.findIn K (.ref C_Board) "__eq__" = some (some (.ref f_Board_eq)))
    (l_Board_eq : K.lookup f_Board_eq = some ⟨v1_Board_eq, od_Board_eq, .func (PySem.W.fnOf "__eq__" "Board.__eq__" (defArgs s_Board_eq) (defBody s_Board_eq) (defScope s_Board_eq) .none v2_Board_eq v3_Board_eq v4_Board_eq an_Board_eq v5_Board_eq v6_Board_eq), sl_Board_eq⟩)
    (cd_Board_eq : PySem.W.codeIn K v5_Board_eq "Board.__eq__" = true)
    (g_Board_eq : PySem.W.isFn K (.ref f_Board_eq) = true)
    (k_Board_eq : PySem.W.keepIn K (.ref f_Board_eq) = true)
    (a_law_kept_right : PySem.W.nsIn K mainGlobals "_law_kept_right" = some (some (.ref f_law_kept_right)))
    (l_law_kept_right : K.lookup f_law_kept_right = some ⟨v1_law_kept_right, od_law_kept_right, .func (PySem.W.fnOf "_law_kept_right" "_law_kept_right" (defArgs s_law_kept_right) (defBody s_law_kept_right) (defScope s_law_kept_right) .none v2_law_kept_right v3_law_kept_right v4_law_kept_right an_law_kept_right v5_law_kept_right v6_law_kept_right), sl_law_kept_right⟩)
    (cd_law_kept_right : PySem.W.codeIn K v5_law_kept_right "_law_kept_right" = true)
    (k_law_kept_right : PySem.W.keepIn K (.ref f_law_kept_right) = true)
    (a_best_for : PySem.W.nsIn K mainGlobals "best_for" = some (some (.ref f_best_for)))
    (l_best_for : K.lookup f_best_for = some ⟨v1_best_for, od_best_for, .func (PySem.W.fnOf "best_for" "best_for" (defArgs s_best_for) (defBody s_best_for) (defScope s_best_for) .none v2_best_for v3_best_for v4_best_for an_best_for v5_best_for v6_best_for), sl_best_for⟩)
    (cd_best_for : PySem.W.codeIn K v5_best_for "best_for" = true)
    (k_best_for : PySem.W.keepIn K (.ref f_best_for) = true)
    (a_cheapest_cost : PySem.W.nsIn K mainGlobals "cheapest_cost" = some (some (.ref f_cheapest_cost)))
    (l_cheapest_cost : K.lookup f_cheapest_cost = some ⟨v1_cheapest_cost, od_cheapest_cost, .func (PySem.W.fnOf "cheapest_cost" "cheapest_cost" (defArgs s_cheapest_cost) (defBody s_cheapest_cost) (defScope s_cheapest_cost) .none v2_cheapest_cost v3_cheapest_cost v4_cheapest_cost an_cheapest_cost v5_cheapest_cost v6_cheapest_cost), sl_cheapest_cost⟩)
    (cd_cheapest_cost : PySem.W.codeIn K v5_cheapest_cost "cheapest_cost" = true)
    (k_cheapest_cost : PySem.W.keepIn K (.ref f_cheapest_cost) = true)
    (a_law_heard : PySem.W.nsIn K mainGlobals "_law_heard" = some (some (.ref f_law_heard)))
    (l_law_heard : K.lookup f_law_heard = some ⟨v1_law_heard, od_law_heard, .func (PySem.W.fnOf "_law_heard" "_law_heard" (defArgs s_law_heard) (defBody s_law_heard) (defScope s_law_heard) .none v2_law_heard v3_law_heard v4_law_heard an_law_heard v5_law_heard v6_law_heard), sl_law_heard⟩)
    (cd_law_heard : PySem.W.codeIn K v5_law_heard "_law_heard" = true)
    (k_law_heard : PySem.W.keepIn K (.ref f_law_heard) = true)
    (a_is_fit : PySem.W.nsIn K mainGlobals "is_fit" = some (some (.ref f_is_fit)))
    (l_is_fit : K.lookup f_is_fit = some ⟨v1_is_fit, od_is_fit, .func (PySem.W.fnOf "is_fit" "is_fit" (defArgs s_is_fit) (defBody s_is_fit) (defScope s_is_fit) .none v2_is_fit v3_is_fit v4_is_fit an_is_fit v5_is_fit v6_is_fit), sl_is_fit⟩)
    (cd_is_fit : PySem.W.codeIn K v5_is_fit "is_fit" = true)
    (k_is_fit : PySem.W.keepIn K (.ref f_is_fit) = true)
    (a_need_right : PySem.W.nsIn K mainGlobals "need_right" = some (some (.ref f_need_right)))
    (l_need_right : K.lookup f_need_right = some ⟨v1_need_right, od_need_right, .func (PySem.W.fnOf "need_right" "need_right" (defArgs s_need_right) (defBody s_need_right) (defScope s_need_right) .none v2_need_right v3_need_right v4_need_right an_need_right v5_need_right v6_need_right), sl_need_right⟩)
    (cd_need_right : PySem.W.codeIn K v5_need_right "need_right" = true)
    (k_need_right : PySem.W.keepIn K (.ref f_need_right) = true)
    (a_need_wall : PySem.W.nsIn K mainGlobals "need_wall" = some (some (.ref f_need_wall)))
    (l_need_wall : K.lookup f_need_wall = some ⟨v1_need_wall, od_need_wall, .func (PySem.W.fnOf "need_wall" "need_wall" (defArgs s_need_wall) (defBody s_need_wall) (defScope s_need_wall) .none v2_need_wall v3_need_wall v4_need_wall an_need_wall v5_need_wall v6_need_wall), sl_need_wall⟩)
    (cd_need_wall : PySem.W.codeIn K v5_need_wall "need_wall" = true)
    (k_need_wall : PySem.W.keepIn K (.ref f_need_wall) = true)
    (a_fits : PySem.W.nsIn K mainGlobals "fits" = some (some (.ref f_fits)))
    (l_fits : K.lookup f_fits = some ⟨v1_fits, od_fits, .func (PySem.W.fnOf "fits" "fits" (defArgs s_fits) (defBody s_fits) (defScope s_fits) .none v2_fits v3_fits v4_fits an_fits v5_fits v6_fits), sl_fits⟩)
    (cd_fits : PySem.W.codeIn K v5_fits "fits" = true)
    (k_fits : PySem.W.keepIn K (.ref f_fits) = true)
    (a_law_fits_right : PySem.W.nsIn K mainGlobals "_law_fits_right" = some (some (.ref f_law_fits_right)))
    (l_law_fits_right : K.lookup f_law_fits_right = some ⟨v1_law_fits_right, od_law_fits_right, .func (PySem.W.fnOf "_law_fits_right" "_law_fits_right" (defArgs s_law_fits_right) (defBody s_law_fits_right) (defScope s_law_fits_right) .none v2_law_fits_right v3_law_fits_right v4_law_fits_right an_law_fits_right (.ref c_law_fits_right) v6_law_fits_right), sl_law_fits_right⟩)
    (cd_law_fits_right : PySem.W.codeIn K (.ref c_law_fits_right) "_law_fits_right" = true)
    (k_law_fits_right : PySem.W.keepIn K (.ref f_law_fits_right) = true)
    (u_law_fits_right : K.lookup c_law_fits_right = some ⟨w1_law_fits_right, w2_law_fits_right, .fields w3_law_fits_right, w4_law_fits_right⟩)
    (p_law_fits_right : (w3_law_fits_right[11]? : Option Value) = some (.ref P_law_fits_right))
    (t_law_fits_right : PySem.W.tabIn K "_law_fits_right" = some (c_law_fits_right, P_law_fits_right))
    (rc_law_fits_right : ((recsOf Pq).find? (fun e => e.name == ("_law_fits_right" : Str))).isSome = true)
    (o_law_fits_right : (K.lookup P_law_fits_right).isNone = true)
    (a_shows_best : PySem.W.nsIn K mainGlobals "shows_best" = some (some (.ref f_shows_best)))
    (l_shows_best : K.lookup f_shows_best = some ⟨v1_shows_best, od_shows_best, .func (PySem.W.fnOf "shows_best" "shows_best" (defArgs s_shows_best) (defBody s_shows_best) (defScope s_shows_best) .none v2_shows_best v3_shows_best v4_shows_best an_shows_best v5_shows_best v6_shows_best), sl_shows_best⟩)
    (cd_shows_best : PySem.W.codeIn K v5_shows_best "shows_best" = true)
    (k_shows_best : PySem.W.keepIn K (.ref f_shows_best) = true)
    (a_law_refused_right : PySem.W.nsIn K mainGlobals "_law_refused_right" = some (some (.ref f_law_refused_right)))
    (l_law_refused_right : K.lookup f_law_refused_right = some ⟨v1_law_refused_right, od_law_refused_right, .func (PySem.W.fnOf "_law_refused_right" "_law_refused_right" (defArgs s_law_refused_right) (defBody s_law_refused_right) (defScope s_law_refused_right) .none v2_law_refused_right v3_law_refused_right v4_law_refused_right an_law_refused_right (.ref c_law_refused_right) v6_law_refused_right), sl_law_refused_right⟩)
    (cd_law_refused_right : PySem.W.codeIn K (.ref c_law_refused_right) "_law_refused_right" = true)
    (k_law_refused_right : PySem.W.keepIn K (.ref f_law_refused_right) = true)
    (u_law_refused_right : K.lookup c_law_refused_right = some ⟨w1_law_refused_right, w2_law_refused_right, .fields w3_law_refused_right, w4_law_refused_right⟩)
    (p_law_refused_right : (w3_law_refused_right[11]? : Option Value) = some (.ref P_law_refused_right))
    (t_law_refused_right : PySem.W.tabIn K "_law_refused_right" = some (c_law_refused_right, P_law_refused_right))
    (rc_law_refused_right : ((recsOf Pq).find? (fun e => e.name == ("_law_refused_right" : Str))).isSome = true)
    (o_law_refused_right : (K.lookup P_law_refused_right).isNone = true)
    (a_law : PySem.W.nsIn K mainGlobals "law" = some (some (.ref f_law)))
    (l_law : K.lookup f_law = some ⟨v1_law, od_law, .func (PySem.W.fnOf "law" "law" (defArgs s_law) (defBody s_law) (defScope s_law) .none v2_law v3_law v4_law an_law v5_law v6_law), sl_law⟩)
    (cd_law : PySem.W.codeIn K v5_law "law" = true)
    (k_law : PySem.W.keepIn K (.ref f_law) = true)
    (npP : [P_law_fits_right, P_law_refused_right].Nodup)
    (mk_Board : PySem.W.makesIn K C_Board = true)
    (kp_Board : PySem.W.keepIn K (.ref C_Board) = true)
    (ne_Board : PySem.W.findIn K (.ref C_Board) "__ne__" = some (some (.builtin "object.__ne__")))
    (z_int : PySem.W.nsIn K mainGlobals "int" = some none)
    (z_len : PySem.W.nsIn K mainGlobals "len" = some none)
    (z_abs : PySem.W.nsIn K mainGlobals "abs" = some none)
    (z_range : PySem.W.nsIn K mainGlobals "range" = some none)
    (z_isinstance : PySem.W.nsIn K mainGlobals "isinstance" = some none)
    (z_max : PySem.W.nsIn K mainGlobals "max" = some none)
    (z_min : PySem.W.nsIn K mainGlobals "min" = some none)
    (z_list : PySem.W.nsIn K mainGlobals "list" = some none)
    (z_bool : PySem.W.nsIn K mainGlobals "bool" = some none)
    (z_all : PySem.W.nsIn K mainGlobals "all" = some none)
    (z_tuple : PySem.W.nsIn K mainGlobals "tuple" = some none)
    (z_set : PySem.W.nsIn K mainGlobals "set" = some none)
    (z_sorted : PySem.W.nsIn K mainGlobals "sorted" = some none)
    (z_any : PySem.W.nsIn K mainGlobals "any" = some none)
    (z_repr : PySem.W.nsIn K mainGlobals "repr" = some none)
    (z_super : PySem.W.nsIn K mainGlobals "super" = some none) :
    ∃ (fd : FuncData) (mk : List Maker), (∀ m ∈ mk, ∃ z, makerIn K Pq z m) ∧ (∀ (s : Shared) (v : Value), BindsTo s fd ⟨[v], []⟩ [("script", v)]) ∧ ∀ base : Heap, K.In base → base.Ns mainGlobals mg → (∀ m ∈ mk, LamX.TabB base mg m.c m.P) → FnG l.prog w K mg base CX0 10 fa fd ["script"] (lsp K (tabs mk) r_law) := by
  have e := hfa.symm.trans (PySem.W.mg_of X G a_law)
  cases e
  subst hPr
  let cs : Cs := { Board := C_Board, BadBoard := C_BadBoard, BadSquares := C_BadSquares, Misfit := C_Misfit, BadSquare := C_BadSquare, FlightError := C_FlightError, f_cheapest_cost := f_cheapest_cost, f_best_for := f_best_for, f_box_of := f_box_of }
  have m_Board : mg "Board" = some (.ref cs.Board) := PySem.W.mg_of X G a_Board
  have m_BadBoard : mg "BadBoard" = some (.ref cs.BadBoard) := PySem.W.mg_of X G a_BadBoard
  have m_BadSquares : mg "BadSquares" = some (.ref cs.BadSquares) := PySem.W.mg_of X G a_BadSquares
  have m_Misfit : mg "Misfit" = some (.ref cs.Misfit) := PySem.W.mg_of X G a_Misfit
  have m_BadSquare : mg "BadSquare" = some (.ref cs.BadSquare) := PySem.W.mg_of X G a_BadSquare
  have m_FlightError : mg "FlightError" = some (.ref cs.FlightError) := PySem.W.mg_of X G a_FlightError
  have T_law_pen := fun_mk (st := s_law_pen) l_law_pen cd_law_pen k_law_pen
  have m_law_pen := PySem.W.mg_of X G a_law_pen
  have q_law_pen := T_law_pen.binds0 (ps := ["script"]) rfl fun _ _ _ _ _ _ us hl => match us, hl with | [_], _ => rfl
  have T_law_draw := fun_mk (st := s_law_draw) l_law_draw cd_law_draw k_law_draw
  have m_law_draw := PySem.W.mg_of X G a_law_draw
  have q_law_draw := T_law_draw.binds0 (ps := ["pen", "many"]) rfl fun _ _ _ _ _ _ us hl => match us, hl with | [_, _], _ => rfl
  have T_law_pick := fun_mk (st := s_law_pick) l_law_pick cd_law_pick k_law_pick
  have m_law_pick := PySem.W.mg_of X G a_law_pick
  have q_law_pick := T_law_pick.binds0 (ps := ["pen", "some"]) rfl fun _ _ _ _ _ _ us hl => match us, hl with | [_, _], _ => rfl
  have T_law_barred := fun_mk (st := s_law_barred) l_law_barred cd_law_barred k_law_barred
  have m_law_barred := PySem.W.mg_of X G a_law_barred
  have q_law_barred := T_law_barred.binds0 (ps := ["passed", "square"]) rfl fun _ _ _ _ _ _ us hl => match us, hl with | [_, _], _ => rfl
  have T_law_board := fun_mk (st := s_law_board) l_law_board cd_law_board k_law_board
  have m_law_board := PySem.W.mg_of X G a_law_board
  have q_law_board := T_law_board.binds0 (ps := ["pen", "wide", "tall", "many"]) rfl fun _ _ _ _ _ _ us hl => match us, hl with | [_, _, _, _], _ => rfl
  have T_need_board := fun_mk (st := s_need_board) l_need_board cd_need_board k_need_board
  have m_need_board := PySem.W.mg_of X G a_need_board
  have q_need_board := T_need_board.binds0 (ps := ["value", "part"]) rfl fun _ _ _ _ _ _ us hl => match us, hl with | [_, _], _ => rfl
  have T_is_barred := fun_mk (st := s_is_barred) l_is_barred cd_is_barred k_is_barred
  have m_is_barred := PySem.W.mg_of X G a_is_barred
  have q_is_barred := T_is_barred.binds0 (ps := ["passed", "square"]) rfl fun _ _ _ _ _ _ us hl => match us, hl with | [_, _], _ => rfl
  have T_box_around := fun_mk (st := s_box_around) l_box_around cd_box_around k_box_around
  have m_box_around := PySem.W.mg_of X G a_box_around
  have q_box_around := T_box_around.binds0 (ps := ["held", "passed", "burnt"]) rfl fun _ _ _ _ _ _ us hl => match us, hl with | [_, _, _], _ => rfl
  have T_box_of := fun_mk (st := s_box_of) l_box_of cd_box_of k_box_of
  have m_box_of := PySem.W.mg_of X G a_box_of
  have q_box_of := T_box_of.binds0 (ps := ["board"]) rfl fun _ _ _ _ _ _ us hl => match us, hl with | [_], _ => rfl
  have T_law_box := fun_mk (st := s_law_box) l_law_box cd_law_box k_law_box
  have m_law_box := PySem.W.mg_of X G a_law_box
  have q_law_box := T_law_box.binds0 (ps := ["held", "passed", "burnt"]) rfl fun _ _ _ _ _ _ us hl => match us, hl with | [_, _, _], _ => rfl
  have T_is_integer := fun_mk (st := s_is_integer) l_is_integer cd_is_integer k_is_integer
  have m_is_integer := PySem.W.mg_of X G a_is_integer
  have q_is_integer := T_is_integer.binds0 (ps := ["value"]) rfl fun _ _ _ _ _ _ us hl => match us, hl with | [_], _ => rfl
  have T_is_squareG := fun_mk (st := s_is_squareG) l_is_squareG cd_is_squareG k_is_squareG
  have m_is_squareG := PySem.W.mg_of X G a_is_squareG
  have q_is_squareG := T_is_squareG.binds0 (ps := ["value"]) rfl fun _ _ _ _ _ _ us hl => match us, hl with | [_], _ => rfl
  have T_are_squaresG := fun_mk (st := s_are_squaresG) l_are_squaresG cd_are_squaresG k_are_squaresG
  have m_are_squaresG := PySem.W.mg_of X G a_are_squaresG
  have q_are_squaresG := T_are_squaresG.binds0 (ps := ["value"]) rfl fun _ _ _ _ _ _ us hl => match us, hl with | [_], _ => rfl
  have T_need_squaresG := fun_mk (st := s_need_squaresG) l_need_squaresG cd_need_squaresG k_need_squaresG
  have m_need_squaresG := PySem.W.mg_of X G a_need_squaresG
  have q_need_squaresG := T_need_squaresG.binds0 (ps := ["value", "part"]) rfl fun _ _ _ _ _ _ us hl => match us, hl with | [_, _], _ => rfl
  have T_Board_init := fun_mk (st := s_Board_init) l_Board_init cd_Board_init k_Board_init
  have q_Board_init := T_Board_init.binds0 (ps := ["self", "held", "passed", "burnt"]) rfl fun _ _ _ _ _ _ us hl => match us, hl with | [_, _, _, _], _ => rfl
  have T_need_squareG := fun_mk (st := s_need_squareG) l_need_squareG cd_need_squareG k_need_squareG
  have m_need_squareG := PySem.W.mg_of X G a_need_squareG
  have q_need_squareG := T_need_squareG.binds0 (ps := ["value", "part"]) rfl fun _ _ _ _ _ _ us hl => match us, hl with | [_, _], _ => rfl
  have T_Board_is_passed := fun_mk (st := s_Board_is_passed) l_Board_is_passed cd_Board_is_passed k_Board_is_passed
  have q_Board_is_passed := T_Board_is_passed.binds0 (ps := ["self", "square"]) rfl fun _ _ _ _ _ _ us hl => match us, hl with | [_, _], _ => rfl
  have T_Board_eq := fun_mk (st := s_Board_eq) l_Board_eq cd_Board_eq k_Board_eq
  have q_Board_eq := T_Board_eq.binds0 (ps := ["self", "other"]) rfl fun _ _ _ _ _ _ us hl => match us, hl with | [_, _], _ => rfl
  have T_law_kept_right := fun_mk (st := s_law_kept_right) l_law_kept_right cd_law_kept_right k_law_kept_right
  have m_law_kept_right := PySem.W.mg_of X G a_law_kept_right
  have q_law_kept_right := T_law_kept_right.binds0 (ps := ["pen"]) rfl fun _ _ _ _ _ _ us hl => match us, hl with | [_], _ => rfl
  have T_best_for := fun_mk (st := s_best_for) l_best_for cd_best_for k_best_for
  have m_best_for := PySem.W.mg_of X G a_best_for
  have q_best_for := T_best_for.binds0 (ps := ["board"]) rfl fun _ _ _ _ _ _ us hl => match us, hl with | [_], _ => rfl
  have T_cheapest_cost := fun_mk (st := s_cheapest_cost) l_cheapest_cost cd_cheapest_cost k_cheapest_cost
  have m_cheapest_cost := PySem.W.mg_of X G a_cheapest_cost
  have q_cheapest_cost := T_cheapest_cost.binds0 (ps := ["board"]) rfl fun _ _ _ _ _ _ us hl => match us, hl with | [_], _ => rfl
  have T_law_heard := fun_mk (st := s_law_heard) l_law_heard cd_law_heard k_law_heard
  have m_law_heard := PySem.W.mg_of X G a_law_heard
  have q_law_heard := T_law_heard.binds0 (ps := ["ask"]) rfl fun _ _ _ _ _ _ us hl => match us, hl with | [_], _ => rfl
  have T_is_fit := fun_mk (st := s_is_fit) l_is_fit cd_is_fit k_is_fit
  have m_is_fit := PySem.W.mg_of X G a_is_fit
  have q_is_fit := T_is_fit.binds0 (ps := ["held", "passed", "wall"]) rfl fun _ _ _ _ _ _ us hl => match us, hl with | [_, _, _], _ => rfl
  have T_need_right := fun_mk (st := s_need_right) l_need_right cd_need_right k_need_right
  have m_need_right := PySem.W.mg_of X G a_need_right
  have q_need_right := T_need_right.binds0 (ps := ["squares", "part"]) rfl fun _ _ _ _ _ _ us hl => match us, hl with | [_, _], _ => rfl
  have T_need_wall := fun_mk (st := s_need_wall) l_need_wall cd_need_wall k_need_wall
  have m_need_wall := PySem.W.mg_of X G a_need_wall
  have q_need_wall := T_need_wall.binds0 (ps := ["value", "part"]) rfl fun _ _ _ _ _ _ us hl => match us, hl with | [_, _], _ => rfl
  have T_fits := fun_mk (st := s_fits) l_fits cd_fits k_fits
  have m_fits := PySem.W.mg_of X G a_fits
  have q_fits := T_fits.binds0 (ps := ["board", "wall"]) rfl fun _ _ _ _ _ _ us hl => match us, hl with | [_, _], _ => rfl
  have T_law_fits_right := fun_mk (st := s_law_fits_right) l_law_fits_right cd_law_fits_right k_law_fits_right
  have m_law_fits_right := PySem.W.mg_of X G a_law_fits_right
  have q_law_fits_right := T_law_fits_right.binds0 (ps := ["pen"]) rfl fun _ _ _ _ _ _ us hl => match us, hl with | [_], _ => rfl
  have T_shows_best := fun_mk (st := s_shows_best) l_shows_best cd_shows_best k_shows_best
  have m_shows_best := PySem.W.mg_of X G a_shows_best
  have q_shows_best := T_shows_best.binds0 (ps := ["board", "value"]) rfl fun _ _ _ _ _ _ us hl => match us, hl with | [_, _], _ => rfl
  have T_law_refused_right := fun_mk (st := s_law_refused_right) l_law_refused_right cd_law_refused_right k_law_refused_right
  have m_law_refused_right := PySem.W.mg_of X G a_law_refused_right
  have q_law_refused_right := T_law_refused_right.binds0 (ps := ["pen"]) rfl fun _ _ _ _ _ _ us hl => match us, hl with | [_], _ => rfl
  have T_law := fun_mk (st := s_law) l_law cd_law k_law
  have kw_Board_init_0_burnt_held_passed : KwM K (PySem.W.fnOf "__init__" "Board.__init__" (defArgs s_Board_init) (defBody s_Board_init) (defScope s_Board_init) .none v2_Board_init v3_Board_init v4_Board_init an_Board_init v5_Board_init v6_Board_init) ["self", "held", "passed", "burnt"] 0 ["burnt", "held", "passed"] [1, 2, 0] := ⟨fun s y us ws _ h1 h2 => match us, ws, h1, h2 with | [], [_, _, _], _, _ => .of_eq rfl⟩
  have kw_Board_is_passed_0_square : KwM K (PySem.W.fnOf "is_passed" "Board.is_passed" (defArgs s_Board_is_passed) (defBody s_Board_is_passed) (defScope s_Board_is_passed) .none v2_Board_is_passed v3_Board_is_passed v4_Board_is_passed an_Board_is_passed v5_Board_is_passed v6_Board_is_passed) ["self", "square"] 0 ["square"] [0] := ⟨fun s y us ws _ h1 h2 => match us, ws, h1, h2 with | [], [_], _, _ => .of_eq rfl⟩
  have M_Board : Mk K cs.Board f_Board_init := ⟨mk_Board, a_Board_init, g_Board_init, kp_Board⟩
  have y_int := PySem.W.mg_none_of X G z_int
  have y_len := PySem.W.mg_none_of X G z_len
  have y_abs := PySem.W.mg_none_of X G z_abs
  have y_range := PySem.W.mg_none_of X G z_range
  have y_isinstance := PySem.W.mg_none_of X G z_isinstance
  have y_max := PySem.W.mg_none_of X G z_max
  have y_min := PySem.W.mg_none_of X G z_min
  have y_list := PySem.W.mg_none_of X G z_list
  have y_bool := PySem.W.mg_none_of X G z_bool
  have y_all := PySem.W.mg_none_of X G z_all
  have y_tuple := PySem.W.mg_none_of X G z_tuple
  have y_set := PySem.W.mg_none_of X G z_set
  have y_sorted := PySem.W.mg_none_of X G z_sorted
  have y_any := PySem.W.mg_none_of X G z_any
  have y_repr := PySem.W.mg_none_of X G z_repr
  have y_super := PySem.W.mg_none_of X G z_super
  refine ⟨PySem.W.fnOf "law" "law" (defArgs s_law) (defBody s_law) (defScope s_law) .none v2_law v3_law v4_law an_law v5_law v6_law, [⟨c_law_fits_right, P_law_fits_right, ((("_law_fits_right" : Str) ++ ".<locals>.") ++ "<lambda>")⟩, ⟨c_law_refused_right, P_law_refused_right, ((("_law_refused_right" : Str) ++ ".<locals>.") ++ "<lambda>")⟩], ?_, fun s v => .of_eq rfl, fun base kb gb tB => ?_⟩
  · intro m hm
    simp only [List.mem_cons, List.not_mem_nil, or_false] at hm
    rcases hm with rfl | rfl
    · exact ⟨"_law_fits_right", t_law_fits_right, rc_law_fits_right, Option.isNone_iff_eq_none.mp o_law_fits_right⟩
    · exact ⟨"_law_refused_right", t_law_refused_right, rc_law_refused_right, Option.isNone_iff_eq_none.mp o_law_refused_right⟩
  have E_BadBoard : ErrOk l.prog w K mg base "BadBoard" cs.BadBoard true ["part"] := err_part (st := s_BadBoard) m_BadBoard y_super i_BadBoard l_BadBoard e_BadBoard (by decide +kernel) rfl rfl (fun env => ⟨_, rfl⟩) rfl ⟨by decide, by decide⟩ (.all fun us hl => match us, hl with | [_, _], _ => rfl)
  have E_BadSquares : ErrOk l.prog w K mg base "BadSquares" cs.BadSquares true ["part"] := err_part (st := s_BadSquares) m_BadSquares y_super i_BadSquares l_BadSquares e_BadSquares (by decide +kernel) rfl rfl (fun env => ⟨_, rfl⟩) rfl ⟨by decide, by decide⟩ (.all fun us hl => match us, hl with | [_, _], _ => rfl)
  have E_Misfit : ErrOk l.prog w K mg base "Misfit" cs.Misfit true ["part"] := err_part (st := s_Misfit) m_Misfit y_super i_Misfit l_Misfit e_Misfit (by decide +kernel) rfl rfl (fun env => ⟨_, rfl⟩) rfl ⟨by decide, by decide⟩ (.all fun us hl => match us, hl with | [_, _], _ => rfl)
  have E_BadSquare : ErrOk l.prog w K mg base "BadSquare" cs.BadSquare true ["part"] := err_part (st := s_BadSquare) m_BadSquare y_super i_BadSquare l_BadSquare e_BadSquare (by decide +kernel) rfl rfl (fun env => ⟨_, rfl⟩) rfl ⟨by decide, by decide⟩ (.all fun us hl => match us, hl with | [_, _], _ => rfl)
  have kf : KF K cs := kf_of (P := l.prog) (w := w) (mg := mg) (base := base) kfB E_BadBoard E_BadSquares E_Misfit E_BadSquare
  have B_law_fits_right : LamX.TabB base mg c_law_fits_right P_law_fits_right := tB _ (List.mem_of_getElem? (i := 0) rfl)
  have inT_law_fits_right : (P_law_fits_right, ((("_law_fits_right" : Str) ++ ".<locals>.") ++ "<lambda>")) ∈ tabs [⟨c_law_fits_right, P_law_fits_right, ((("_law_fits_right" : Str) ++ ".<locals>.") ++ "<lambda>")⟩, ⟨c_law_refused_right, P_law_refused_right, ((("_law_refused_right" : Str) ++ ".<locals>.") ++ "<lambda>")⟩] := List.mem_of_getElem? (i := 0) rfl
  have one_law_fits_right : ∀ p ∈ tabs [⟨c_law_fits_right, P_law_fits_right, ((("_law_fits_right" : Str) ++ ".<locals>.") ++ "<lambda>")⟩, ⟨c_law_refused_right, P_law_refused_right, ((("_law_refused_right" : Str) ++ ".<locals>.") ++ "<lambda>")⟩], p.1 = P_law_fits_right → p.2 = ((("_law_fits_right" : Str) ++ ".<locals>.") ++ "<lambda>") := by
    intro p hp ep
    simp only [tabs, List.map_cons, List.map_nil, List.mem_cons, List.not_mem_nil, or_false] at hp
    simp only [List.nodup_cons, List.mem_cons, List.not_mem_nil, or_false, not_or] at npP
    rcases hp with rfl | rfl
    · rfl
    · exfalso; have ep : P_law_refused_right = P_law_fits_right := ep; first | exact npP ep | exact npP ep.symm | (rw [ep] at npP; simp at npP) | (rw [← ep] at npP; simp at npP)
  have B_law_refused_right : LamX.TabB base mg c_law_refused_right P_law_refused_right := tB _ (List.mem_of_getElem? (i := 1) rfl)
  have inT_law_refused_right : (P_law_refused_right, ((("_law_refused_right" : Str) ++ ".<locals>.") ++ "<lambda>")) ∈ tabs [⟨c_law_fits_right, P_law_fits_right, ((("_law_fits_right" : Str) ++ ".<locals>.") ++ "<lambda>")⟩, ⟨c_law_refused_right, P_law_refused_right, ((("_law_refused_right" : Str) ++ ".<locals>.") ++ "<lambda>")⟩] := List.mem_of_getElem? (i := 1) rfl
  have one_law_refused_right : ∀ p ∈ tabs [⟨c_law_fits_right, P_law_fits_right, ((("_law_fits_right" : Str) ++ ".<locals>.") ++ "<lambda>")⟩, ⟨c_law_refused_right, P_law_refused_right, ((("_law_refused_right" : Str) ++ ".<locals>.") ++ "<lambda>")⟩], p.1 = P_law_refused_right → p.2 = ((("_law_refused_right" : Str) ++ ".<locals>.") ++ "<lambda>") := by
    intro p hp ep
    simp only [tabs, List.map_cons, List.map_nil, List.mem_cons, List.not_mem_nil, or_false] at hp
    simp only [List.nodup_cons, List.mem_cons, List.not_mem_nil, or_false, not_or] at npP
    rcases hp with rfl | rfl
    · exfalso; have ep : P_law_fits_right = P_law_refused_right := ep; first | exact npP ep | exact npP ep.symm | (rw [ep] at npP; simp at npP) | (rw [← ep] at npP; simp at npP)
    · rfl
  have O_law_pen := ok_law_pen (P := l.prog) (w := w) (mg := mg) (base := base) (T := tabs [⟨c_law_fits_right, P_law_fits_right, ((("_law_fits_right" : Str) ++ ".<locals>.") ++ "<lambda>")⟩, ⟨c_law_refused_right, P_law_refused_right, ((("_law_refused_right" : Str) ++ ".<locals>.") ++ "<lambda>")⟩]) T_law_pen y_int
  have O_law_draw := ok_law_draw (P := l.prog) (w := w) (mg := mg) (base := base) (T := tabs [⟨c_law_fits_right, P_law_fits_right, ((("_law_fits_right" : Str) ++ ".<locals>.") ++ "<lambda>")⟩, ⟨c_law_refused_right, P_law_refused_right, ((("_law_refused_right" : Str) ++ ".<locals>.") ++ "<lambda>")⟩]) T_law_draw y_int y_len y_abs
  have O_law_pick := ok_law_pick (P := l.prog) (w := w) (mg := mg) (base := base) (T := tabs [⟨c_law_fits_right, P_law_fits_right, ((("_law_fits_right" : Str) ++ ".<locals>.") ++ "<lambda>")⟩, ⟨c_law_refused_right, P_law_refused_right, ((("_law_refused_right" : Str) ++ ".<locals>.") ++ "<lambda>")⟩]) T_law_pick O_law_draw m_law_draw k_law_draw q_law_draw y_len
  have O_law_barred := ok_law_barred (P := l.prog) (w := w) (mg := mg) (base := base) (T := tabs [⟨c_law_fits_right, P_law_fits_right, ((("_law_fits_right" : Str) ++ ".<locals>.") ++ "<lambda>")⟩, ⟨c_law_refused_right, P_law_refused_right, ((("_law_refused_right" : Str) ++ ".<locals>.") ++ "<lambda>")⟩]) T_law_barred
  have O_law_board := ok_law_board (P := l.prog) (w := w) (mg := mg) (base := base) (T := tabs [⟨c_law_fits_right, P_law_fits_right, ((("_law_fits_right" : Str) ++ ".<locals>.") ++ "<lambda>")⟩, ⟨c_law_refused_right, P_law_refused_right, ((("_law_refused_right" : Str) ++ ".<locals>.") ++ "<lambda>")⟩]) T_law_board O_law_pick m_law_pick k_law_pick q_law_pick O_law_draw m_law_draw k_law_draw q_law_draw O_law_barred m_law_barred k_law_barred q_law_barred y_range
  have O_need_board := ok_need_board (P := l.prog) (w := w) (mg := mg) (base := base) (T := tabs [⟨c_law_fits_right, P_law_fits_right, ((("_law_fits_right" : Str) ++ ".<locals>.") ++ "<lambda>")⟩, ⟨c_law_refused_right, P_law_refused_right, ((("_law_refused_right" : Str) ++ ".<locals>.") ++ "<lambda>")⟩]) T_need_board kf m_Board E_BadBoard y_isinstance
  have O_is_barred := ok_is_barred (P := l.prog) (w := w) (mg := mg) (base := base) (T := tabs [⟨c_law_fits_right, P_law_fits_right, ((("_law_fits_right" : Str) ++ ".<locals>.") ++ "<lambda>")⟩, ⟨c_law_refused_right, P_law_refused_right, ((("_law_refused_right" : Str) ++ ".<locals>.") ++ "<lambda>")⟩]) T_is_barred
  have O_box_around := ok_box_around (P := l.prog) (w := w) (mg := mg) (base := base) (T := tabs [⟨c_law_fits_right, P_law_fits_right, ((("_law_fits_right" : Str) ++ ".<locals>.") ++ "<lambda>")⟩, ⟨c_law_refused_right, P_law_refused_right, ((("_law_refused_right" : Str) ++ ".<locals>.") ++ "<lambda>")⟩]) T_box_around O_is_barred m_is_barred k_is_barred q_is_barred y_max y_min
  have O_box_of := ok_box_of (P := l.prog) (w := w) (mg := mg) (base := base) (T := tabs [⟨c_law_fits_right, P_law_fits_right, ((("_law_fits_right" : Str) ++ ".<locals>.") ++ "<lambda>")⟩, ⟨c_law_refused_right, P_law_refused_right, ((("_law_refused_right" : Str) ++ ".<locals>.") ++ "<lambda>")⟩]) T_box_of kf O_need_board m_need_board k_need_board q_need_board O_box_around m_box_around k_box_around q_box_around
  have O_law_box := ok_law_box (P := l.prog) (w := w) (mg := mg) (base := base) (T := tabs [⟨c_law_fits_right, P_law_fits_right, ((("_law_fits_right" : Str) ++ ".<locals>.") ++ "<lambda>")⟩, ⟨c_law_refused_right, P_law_refused_right, ((("_law_refused_right" : Str) ++ ".<locals>.") ++ "<lambda>")⟩]) T_law_box O_law_barred m_law_barred k_law_barred q_law_barred y_list y_max y_min
  have O_is_integer := ok_is_integer (P := l.prog) (w := w) (mg := mg) (base := base) (T := tabs [⟨c_law_fits_right, P_law_fits_right, ((("_law_fits_right" : Str) ++ ".<locals>.") ++ "<lambda>")⟩, ⟨c_law_refused_right, P_law_refused_right, ((("_law_refused_right" : Str) ++ ".<locals>.") ++ "<lambda>")⟩]) T_is_integer y_isinstance y_bool y_int
  have O_is_squareG := ok_is_squareG (P := l.prog) (w := w) (mg := mg) (base := base) (T := tabs [⟨c_law_fits_right, P_law_fits_right, ((("_law_fits_right" : Str) ++ ".<locals>.") ++ "<lambda>")⟩, ⟨c_law_refused_right, P_law_refused_right, ((("_law_refused_right" : Str) ++ ".<locals>.") ++ "<lambda>")⟩]) T_is_squareG O_is_integer m_is_integer k_is_integer q_is_integer y_all y_len y_isinstance y_list y_tuple
  have O_are_squaresG := ok_are_squaresG (P := l.prog) (w := w) (mg := mg) (base := base) (T := tabs [⟨c_law_fits_right, P_law_fits_right, ((("_law_fits_right" : Str) ++ ".<locals>.") ++ "<lambda>")⟩, ⟨c_law_refused_right, P_law_refused_right, ((("_law_refused_right" : Str) ++ ".<locals>.") ++ "<lambda>")⟩]) T_are_squaresG O_is_squareG m_is_squareG k_is_squareG q_is_squareG y_all y_isinstance y_list y_tuple y_len y_set
  have O_need_squaresG := ok_need_squaresG (P := l.prog) (w := w) (mg := mg) (base := base) (T := tabs [⟨c_law_fits_right, P_law_fits_right, ((("_law_fits_right" : Str) ++ ".<locals>.") ++ "<lambda>")⟩, ⟨c_law_refused_right, P_law_refused_right, ((("_law_refused_right" : Str) ++ ".<locals>.") ++ "<lambda>")⟩]) T_need_squaresG kf E_BadSquares O_are_squaresG m_are_squaresG k_are_squaresG q_are_squaresG y_tuple y_sorted
  have O_Board_init := ok_Board_init (P := l.prog) (w := w) (mg := mg) (base := base) (T := tabs [⟨c_law_fits_right, P_law_fits_right, ((("_law_fits_right" : Str) ++ ".<locals>.") ++ "<lambda>")⟩, ⟨c_law_refused_right, P_law_refused_right, ((("_law_refused_right" : Str) ++ ".<locals>.") ++ "<lambda>")⟩]) T_Board_init kf E_Misfit O_need_squaresG m_need_squaresG k_need_squaresG q_need_squaresG O_is_barred m_is_barred k_is_barred q_is_barred y_any
  have O_need_squareG := ok_need_squareG (P := l.prog) (w := w) (mg := mg) (base := base) (T := tabs [⟨c_law_fits_right, P_law_fits_right, ((("_law_fits_right" : Str) ++ ".<locals>.") ++ "<lambda>")⟩, ⟨c_law_refused_right, P_law_refused_right, ((("_law_refused_right" : Str) ++ ".<locals>.") ++ "<lambda>")⟩]) T_need_squareG kf E_BadSquare O_is_squareG m_is_squareG k_is_squareG q_is_squareG y_tuple
  have O_Board_is_passed := ok_Board_is_passed (P := l.prog) (w := w) (mg := mg) (base := base) (T := tabs [⟨c_law_fits_right, P_law_fits_right, ((("_law_fits_right" : Str) ++ ".<locals>.") ++ "<lambda>")⟩, ⟨c_law_refused_right, P_law_refused_right, ((("_law_refused_right" : Str) ++ ".<locals>.") ++ "<lambda>")⟩]) T_Board_is_passed kf O_is_barred m_is_barred k_is_barred q_is_barred O_need_squareG m_need_squareG k_need_squareG q_need_squareG
  have O_Board_eq := ok_Board_eq (P := l.prog) (w := w) (mg := mg) (base := base) (T := tabs [⟨c_law_fits_right, P_law_fits_right, ((("_law_fits_right" : Str) ++ ".<locals>.") ++ "<lambda>")⟩, ⟨c_law_refused_right, P_law_refused_right, ((("_law_refused_right" : Str) ++ ".<locals>.") ++ "<lambda>")⟩]) T_Board_eq kf m_Board y_isinstance
  have O_law_kept_right := ok_law_kept_right (P := l.prog) (w := w) (mg := mg) (base := base) (T := tabs [⟨c_law_fits_right, P_law_fits_right, ((("_law_fits_right" : Str) ++ ".<locals>.") ++ "<lambda>")⟩, ⟨c_law_refused_right, P_law_refused_right, ((("_law_refused_right" : Str) ++ ".<locals>.") ++ "<lambda>")⟩]) T_law_kept_right kf m_Board O_law_board m_law_board k_law_board q_law_board O_Board_init q_Board_init O_Board_eq q_Board_eq O_box_of m_box_of k_box_of q_box_of O_law_box m_law_box k_law_box q_law_box O_law_draw m_law_draw k_law_draw q_law_draw O_Board_is_passed q_Board_is_passed O_law_barred m_law_barred k_law_barred q_law_barred kw_Board_init_0_burnt_held_passed kw_Board_is_passed_0_square ⟨a_Board_is_passed, g_Board_is_passed, k_Board_is_passed⟩ M_Board a_Board_eq g_Board_eq ne_Board y_list y_repr y_tuple y_sorted y_range
  have O_best_for := ok_best_for (P := l.prog) (w := w) (mg := mg) (base := base) (T := tabs [⟨c_law_fits_right, P_law_fits_right, ((("_law_fits_right" : Str) ++ ".<locals>.") ++ "<lambda>")⟩, ⟨c_law_refused_right, P_law_refused_right, ((("_law_refused_right" : Str) ++ ".<locals>.") ++ "<lambda>")⟩]) T_best_for kf O_need_board m_need_board k_need_board q_need_board
  have O_cheapest_cost := ok_cheapest_cost (P := l.prog) (w := w) (mg := mg) (base := base) (T := tabs [⟨c_law_fits_right, P_law_fits_right, ((("_law_fits_right" : Str) ++ ".<locals>.") ++ "<lambda>")⟩, ⟨c_law_refused_right, P_law_refused_right, ((("_law_refused_right" : Str) ++ ".<locals>.") ++ "<lambda>")⟩]) T_cheapest_cost kf O_need_board m_need_board k_need_board q_need_board
  have O_law_heard : ∀ k, HearOk l.prog w K mg base (tabs [⟨c_law_fits_right, P_law_fits_right, ((("_law_fits_right" : Str) ++ ".<locals>.") ++ "<lambda>")⟩, ⟨c_law_refused_right, P_law_refused_right, ((("_law_refused_right" : Str) ++ ".<locals>.") ++ "<lambda>")⟩]) k f_law_heard "_law_heard" n_law_heard s_law_heard "ask" (b_law_heard K cs) := ok_law_heard kf m_FlightError m_Misfit m_BadBoard m_BadSquare m_BadSquares y_isinstance
  have O_is_fit := ok_is_fit (P := l.prog) (w := w) (mg := mg) (base := base) (T := tabs [⟨c_law_fits_right, P_law_fits_right, ((("_law_fits_right" : Str) ++ ".<locals>.") ++ "<lambda>")⟩, ⟨c_law_refused_right, P_law_refused_right, ((("_law_refused_right" : Str) ++ ".<locals>.") ++ "<lambda>")⟩]) T_is_fit O_is_barred m_is_barred k_is_barred q_is_barred y_any y_all
  have O_need_right := ok_need_right (P := l.prog) (w := w) (mg := mg) (base := base) (T := tabs [⟨c_law_fits_right, P_law_fits_right, ((("_law_fits_right" : Str) ++ ".<locals>.") ++ "<lambda>")⟩, ⟨c_law_refused_right, P_law_refused_right, ((("_law_refused_right" : Str) ++ ".<locals>.") ++ "<lambda>")⟩]) T_need_right kf E_Misfit
  have O_need_wall := ok_need_wall (P := l.prog) (w := w) (mg := mg) (base := base) (T := tabs [⟨c_law_fits_right, P_law_fits_right, ((("_law_fits_right" : Str) ++ ".<locals>.") ++ "<lambda>")⟩, ⟨c_law_refused_right, P_law_refused_right, ((("_law_refused_right" : Str) ++ ".<locals>.") ++ "<lambda>")⟩]) T_need_wall kf O_need_squaresG m_need_squaresG k_need_squaresG q_need_squaresG O_need_right m_need_right k_need_right q_need_right
  have O_fits := ok_fits (P := l.prog) (w := w) (mg := mg) (base := base) (T := tabs [⟨c_law_fits_right, P_law_fits_right, ((("_law_fits_right" : Str) ++ ".<locals>.") ++ "<lambda>")⟩, ⟨c_law_refused_right, P_law_refused_right, ((("_law_refused_right" : Str) ++ ".<locals>.") ++ "<lambda>")⟩]) T_fits kf O_need_board m_need_board k_need_board q_need_board O_is_fit m_is_fit k_is_fit q_is_fit O_need_wall m_need_wall k_need_wall q_need_wall
  have O_law_fits_right := ok_law_fits_right (P := l.prog) (w := w) (mg := mg) (base := base) (T := tabs [⟨c_law_fits_right, P_law_fits_right, ((("_law_fits_right" : Str) ++ ".<locals>.") ++ "<lambda>")⟩, ⟨c_law_refused_right, P_law_refused_right, ((("_law_refused_right" : Str) ++ ".<locals>.") ++ "<lambda>")⟩]) T_law_fits_right kf m_Board O_law_board m_law_board k_law_board q_law_board O_Board_init q_Board_init O_law_barred m_law_barred k_law_barred q_law_barred O_law_draw m_law_draw k_law_draw q_law_draw O_fits m_fits k_fits q_fits T_law_heard O_law_heard m_law_heard k_law_heard q_law_heard B_law_fits_right inT_law_fits_right one_law_fits_right rfl M_Board y_repr
  have O_shows_best := ok_shows_best (P := l.prog) (w := w) (mg := mg) (base := base) (T := tabs [⟨c_law_fits_right, P_law_fits_right, ((("_law_fits_right" : Str) ++ ".<locals>.") ++ "<lambda>")⟩, ⟨c_law_refused_right, P_law_refused_right, ((("_law_refused_right" : Str) ++ ".<locals>.") ++ "<lambda>")⟩]) T_shows_best kf O_need_board m_need_board k_need_board q_need_board
  have O_law_refused_right := ok_law_refused_right (P := l.prog) (w := w) (mg := mg) (base := base) (T := tabs [⟨c_law_fits_right, P_law_fits_right, ((("_law_fits_right" : Str) ++ ".<locals>.") ++ "<lambda>")⟩, ⟨c_law_refused_right, P_law_refused_right, ((("_law_refused_right" : Str) ++ ".<locals>.") ++ "<lambda>")⟩]) T_law_refused_right kf m_Board O_law_pick m_law_pick k_law_pick q_law_pick O_Board_init q_Board_init O_law_draw m_law_draw k_law_draw q_law_draw O_Board_is_passed q_Board_is_passed O_fits m_fits k_fits q_fits O_cheapest_cost m_cheapest_cost k_cheapest_cost q_cheapest_cost O_best_for m_best_for k_best_for q_best_for O_box_of m_box_of k_box_of q_box_of O_shows_best m_shows_best k_shows_best q_shows_best T_law_heard O_law_heard m_law_heard k_law_heard q_law_heard B_law_refused_right inT_law_refused_right one_law_refused_right rfl ⟨a_Board_is_passed, g_Board_is_passed, k_Board_is_passed⟩ M_Board rfl rfl rfl
  have O_law := ok_law (P := l.prog) (w := w) (mg := mg) (base := base) (T := tabs [⟨c_law_fits_right, P_law_fits_right, ((("_law_fits_right" : Str) ++ ".<locals>.") ++ "<lambda>")⟩, ⟨c_law_refused_right, P_law_refused_right, ((("_law_refused_right" : Str) ++ ".<locals>.") ++ "<lambda>")⟩]) T_law kf O_law_pen m_law_pen k_law_pen q_law_pen O_law_refused_right m_law_refused_right k_law_refused_right q_law_refused_right O_law_fits_right m_law_fits_right k_law_fits_right q_law_fits_right O_law_kept_right m_law_kept_right k_law_kept_right q_law_kept_right y_range
  exact O_law
end NC
open PySem PySem.W PyProof.Rows
set_option maxRecDepth 100000 in
set_option maxHeartbeats 0 in
theorem PySem.Challenge.cw_nevercaught_k11_boards_kept_and_refused_holds : PySem.Challenge.rw_nevercaught_k11_boards_kept_and_refused.Holds := by
  w_on; o_law; k_head; (case hw => w_witness2)
  k_fill
  refine NC.end_ofT (l := PySem.Challenge.rw_nevercaught_k11_boards_kept_and_refused) (n := 63) (k := 10) (x := "script") (CX := fun _ => L2.CX0) rfl (by decide) rfl ⟨rfl, by decide, by decide⟩ (fun w h Y => PySem.W.km_in_of Y) NC.law_true (fun _ _ _ _ _ z => z) ?F
  case F =>
    intro w mg fa h KX G hmg
    refine' NC.all_mk (l := PySem.Challenge.rw_nevercaught_k11_boards_kept_and_refused) rfl KX G hmg ?a_Board ?a_BadBoard ?a_BadSquares ?a_Misfit ?a_BadSquare ?a_FlightError ?i_BadBoard ?l_BadBoard ?e_BadBoard ?i_BadSquares ?l_BadSquares ?e_BadSquares ?i_Misfit ?l_Misfit ?e_Misfit ?i_BadSquare ?l_BadSquare ?e_BadSquare ?kfB ?a_law_pen ?l_law_pen ?cd_law_pen ?k_law_pen ?a_law_draw ?l_law_draw ?cd_law_draw ?k_law_draw ?a_law_pick ?l_law_pick ?cd_law_pick ?k_law_pick ?a_law_barred ?l_law_barred ?cd_law_barred ?k_law_barred ?a_law_board ?l_law_board ?cd_law_board ?k_law_board ?a_need_board ?l_need_board ?cd_need_board ?k_need_board ?a_is_barred ?l_is_barred ?cd_is_barred ?k_is_barred ?a_box_around ?l_box_around ?cd_box_around ?k_box_around ?a_box_of ?l_box_of ?cd_box_of ?k_box_of ?a_law_box ?l_law_box ?cd_law_box ?k_law_box ?a_is_integer ?l_is_integer ?cd_is_integer ?k_is_integer ?a_is_squareG ?l_is_squareG ?cd_is_squareG ?k_is_squareG ?a_are_squaresG ?l_are_squaresG ?cd_are_squaresG ?k_are_squaresG ?a_need_squaresG ?l_need_squaresG ?cd_need_squaresG ?k_need_squaresG ?a_Board_init ?l_Board_init ?cd_Board_init ?g_Board_init ?k_Board_init ?a_need_squareG ?l_need_squareG ?cd_need_squareG ?k_need_squareG ?a_Board_is_passed ?l_Board_is_passed ?cd_Board_is_passed ?g_Board_is_passed ?k_Board_is_passed ?a_Board_eq ?l_Board_eq ?cd_Board_eq ?g_Board_eq ?k_Board_eq ?a_law_kept_right ?l_law_kept_right ?cd_law_kept_right ?k_law_kept_right ?a_best_for ?l_best_for ?cd_best_for ?k_best_for ?a_cheapest_cost ?l_cheapest_cost ?cd_cheapest_cost ?k_cheapest_cost ?a_law_heard ?l_law_heard ?cd_law_heard ?k_law_heard ?a_is_fit ?l_is_fit ?cd_is_fit ?k_is_fit ?a_need_right ?l_need_right ?cd_need_right ?k_need_right ?a_need_wall ?l_need_wall ?cd_need_wall ?k_need_wall ?a_fits ?l_fits ?cd_fits ?k_fits ?a_law_fits_right ?l_law_fits_right ?cd_law_fits_right ?k_law_fits_right ?u_law_fits_right ?p_law_fits_right ?t_law_fits_right ?rc_law_fits_right ?o_law_fits_right ?a_shows_best ?l_shows_best ?cd_shows_best ?k_shows_best ?a_law_refused_right ?l_law_refused_right ?cd_law_refused_right ?k_law_refused_right ?u_law_refused_right ?p_law_refused_right ?t_law_refused_right ?rc_law_refused_right ?o_law_refused_right ?a_law ?l_law ?cd_law ?k_law ?npP ?mk_Board ?kp_Board ?ne_Board ?z_int ?z_len ?z_abs ?z_range ?z_isinstance ?z_max ?z_min ?z_list ?z_bool ?z_all ?z_tuple ?z_set ?z_sorted ?z_any ?z_repr ?z_super
    (case a_Board => k_is)
    (case a_BadBoard => k_is)
    (case a_BadSquares => k_is)
    (case a_Misfit => k_is)
    (case a_BadSquare => k_is)
    (case a_FlightError => k_is)
    (case i_BadBoard => k_is)
    (case l_BadBoard => k_is)
    (case e_BadBoard => kernel_rfl)
    (case i_BadSquares => k_is)
    (case l_BadSquares => k_is)
    (case e_BadSquares => kernel_rfl)
    (case i_Misfit => k_is)
    (case l_Misfit => k_is)
    (case e_Misfit => kernel_rfl)
    (case i_BadSquare => k_is)
    (case l_BadSquare => k_is)
    (case e_BadSquare => kernel_rfl)
    (case kfB => kernel_rfl)
    (case a_law_pen => k_is)
    (case l_law_pen => k_is)
    (case cd_law_pen => k_is)
    (case k_law_pen => k_is)
    (case a_law_draw => k_is)
    (case l_law_draw => k_is)
    (case cd_law_draw => k_is)
    (case k_law_draw => k_is)
    (case a_law_pick => k_is)
    (case l_law_pick => k_is)
    (case cd_law_pick => k_is)
    (case k_law_pick => k_is)
    (case a_law_barred => k_is)
    (case l_law_barred => k_is)
    (case cd_law_barred => k_is)
    (case k_law_barred => k_is)
    (case a_law_board => k_is)
    (case l_law_board => k_is)
    (case cd_law_board => k_is)
    (case k_law_board => k_is)
    (case a_need_board => k_is)
    (case l_need_board => k_is)
    (case cd_need_board => k_is)
    (case k_need_board => k_is)
    (case a_is_barred => k_is)
    (case l_is_barred => k_is)
    (case cd_is_barred => k_is)
    (case k_is_barred => k_is)
    (case a_box_around => k_is)
    (case l_box_around => k_is)
    (case cd_box_around => k_is)
    (case k_box_around => k_is)
    (case a_box_of => k_is)
    (case l_box_of => k_is)
    (case cd_box_of => k_is)
    (case k_box_of => k_is)
    (case a_law_box => k_is)
    (case l_law_box => k_is)
    (case cd_law_box => k_is)
    (case k_law_box => k_is)
    (case a_is_integer => k_is)
    (case l_is_integer => k_is)
    (case cd_is_integer => k_is)
    (case k_is_integer => k_is)
    (case a_is_squareG => k_is)
    (case l_is_squareG => k_is)
    (case cd_is_squareG => k_is)
    (case k_is_squareG => k_is)
    (case a_are_squaresG => k_is)
    (case l_are_squaresG => k_is)
    (case cd_are_squaresG => k_is)
    (case k_are_squaresG => k_is)
    (case a_need_squaresG => k_is)
    (case l_need_squaresG => k_is)
    (case cd_need_squaresG => k_is)
    (case k_need_squaresG => k_is)
    (case a_Board_init => k_is)
    (case l_Board_init => k_is)
    (case cd_Board_init => k_is)
    (case g_Board_init => kernel_rfl)
    (case k_Board_init => k_is)
    (case a_need_squareG => k_is)
    (case l_need_squareG => k_is)
    (case cd_need_squareG => k_is)
    (case k_need_squareG => k_is)
    (case a_Board_is_passed => k_is)
    (case l_Board_is_passed => k_is)
    (case cd_Board_is_passed => k_is)
    (case g_Board_is_passed => kernel_rfl)
    (case k_Board_is_passed => k_is)
    (case a_Board_eq => k_is)
    (case l_Board_eq => k_is)
    (case cd_Board_eq => k_is)
    (case g_Board_eq => kernel_rfl)
    (case k_Board_eq => k_is)
    (case a_law_kept_right => k_is)
    (case l_law_kept_right => k_is)
    (case cd_law_kept_right => k_is)
    (case k_law_kept_right => k_is)
    (case a_best_for => k_is)
    (case l_best_for => k_is)
    (case cd_best_for => k_is)
    (case k_best_for => k_is)
    (case a_cheapest_cost => k_is)
    (case l_cheapest_cost => k_is)
    (case cd_cheapest_cost => k_is)
    (case k_cheapest_cost => k_is)
    (case a_law_heard => k_is)
    (case l_law_heard => k_is)
    (case cd_law_heard => k_is)
    (case k_law_heard => k_is)
    (case a_is_fit => k_is)
    (case l_is_fit => k_is)
    (case cd_is_fit => k_is)
    (case k_is_fit => k_is)
    (case a_need_right => k_is)
    (case l_need_right => k_is)
    (case cd_need_right => k_is)
    (case k_need_right => k_is)
    (case a_need_wall => k_is)
    (case l_need_wall => k_is)
    (case cd_need_wall => k_is)
    (case k_need_wall => k_is)
    (case a_fits => k_is)
    (case l_fits => k_is)
    (case cd_fits => k_is)
    (case k_fits => k_is)
    (case a_law_fits_right => k_is)
    (case l_law_fits_right => k_is)
    (case cd_law_fits_right => k_is)
    (case k_law_fits_right => k_is)
    (case u_law_fits_right => k_is)
    (case p_law_fits_right => rfl)
    (case t_law_fits_right => kernel_rfl)
    (case rc_law_fits_right => kernel_rfl)
    (case o_law_fits_right => kernel_rfl)
    (case a_shows_best => k_is)
    (case l_shows_best => k_is)
    (case cd_shows_best => k_is)
    (case k_shows_best => k_is)
    (case a_law_refused_right => k_is)
    (case l_law_refused_right => k_is)
    (case cd_law_refused_right => k_is)
    (case k_law_refused_right => k_is)
    (case u_law_refused_right => k_is)
    (case p_law_refused_right => rfl)
    (case t_law_refused_right => kernel_rfl)
    (case rc_law_refused_right => kernel_rfl)
    (case o_law_refused_right => kernel_rfl)
    (case a_law => k_is)
    (case l_law => k_is)
    (case cd_law => k_is)
    (case k_law => k_is)
    (case npP => decide)
    (case mk_Board => kernel_rfl)
    (case kp_Board => k_is)
    (case ne_Board => k_is)
    (case z_int => k_is)
    (case z_len => k_is)
    (case z_abs => k_is)
    (case z_range => k_is)
    (case z_isinstance => k_is)
    (case z_max => k_is)
    (case z_min => k_is)
    (case z_list => k_is)
    (case z_bool => k_is)
    (case z_all => k_is)
    (case z_tuple => k_is)
    (case z_set => k_is)
    (case z_sorted => k_is)
    (case z_any => k_is)
    (case z_repr => k_is)
    (case z_super => k_is)
#print axioms PySem.Challenge.cw_nevercaught_k11_boards_kept_and_refused_holds
