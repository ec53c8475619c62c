import PyProof.Rows.All
import HandS.ForMost
import HandS.Wide
import HandS.IsInst
import HandS.TupSets
import HandS.Deep
import HandS.Evl
import HandS.Lambda
import HandS.TupAny
import PyProof.SetRoads
import PyProof.Rows.FactsN_isinstance
import PyProof.Rows.FactsN_abs
import PyProof.Rows.FactsT3
import PyProof.Rows.EnumRows
import PyProof.Rows.SeqGen
import PyProof.ReprRoads
import HandS.DictEq
import PyProof.FactsAll.dict
import PyProof.ReprLen
import HandS.ExcField
import HandS.TryMany
import HandS.WordsExc
import HandS.ExcIs
import KE.KTypeName
import KE.KExcSuper
import HandS.FStr
import HandS.ExcInit
import HandS.Nested
import KE.KNest
import HandS.EndTab
import HandS.SortRule
import HandS.Style
import PySem.Challenge.RW_nevercaught_k03_squares_and_neighbours
set_option Elab.async false
set_option linter.all false
set_option maxRecDepth 100000
/-! NC1: data trees D over the hand layer, a store of mutable things, readings over (locals, store). -/
namespace NC
open PySem PySem.Spec PyProof.Rows L2
open Evl (Ex)

inductive D where
  | non | bl (b : Bool) | int (i : Int) | str (x : Str)
  | lst (xs : List D) | tup (xs : List D) | ro (xs : List D)
  | dic (kvs : List (Key × D))
  | dit (kvs : List (List Key × D))
  | ref (n : Nat)

inductive SO where
  | lst (xs : List D)
  /-- an exception that was caught: its class, its fields -/
  | exc (C : Addr) (fs : List (Str × D))
  /-- a function made by a lambda -/
  | fn (f : Addr) (o : Obj)

abbrev Store := List (Option SO)

mutual
inductive Rep (K : PySem.W.Frag) (B : Hp) (β : List Addr) : V → D → Prop
  | non : Rep K B β .non .non
  | bl (b : Bool) : Rep K B β (.bl b) (.bl b)
  | int (i : Int) : Rep K B β (.int i) (.int i)
  | str (x : Str) : Rep K B β (.str x) (.str x)
  | lst {a : Addr} {vs : List V} {ds : List D} : B a = some (.lst vs) → Reps K B β vs ds → Rep K B β (.ref a) (.lst ds)
  | ro {a : Addr} {vs : List V} {ds : List D} : SqL K B a vs → Reps K B β vs ds → Rep K B β (.ref a) (.ro ds)
  | tup {a : Addr} {vs : List V} {ds : List D} : B a = some (.tup vs) → Reps K B β vs ds → Rep K B β (.ref a) (.tup ds)
  | dic {a : Addr} {kvs : List (Key × V)} {ds : List (Key × D)} : B a = some (.dK kvs) → RepK K B β kvs ds → Rep K B β (.ref a) (.dic ds)
  | dit {a : Addr} {kvs : List (List Key × V)} {ds : List (List Key × D)} : B a = some (.dT kvs) → RepT K B β kvs ds → Rep K B β (.ref a) (.dit ds)
  | ref {a : Addr} {n : Nat} : β[n]? = some a → Rep K B β (.ref a) (.ref n)
inductive Reps (K : PySem.W.Frag) (B : Hp) (β : List Addr) : List V → List D → Prop
  | nil : Reps K B β [] []
  | cons {v : V} {d : D} {vs : List V} {ds : List D} : Rep K B β v d → Reps K B β vs ds → Reps K B β (v :: vs) (d :: ds)
inductive RepK (K : PySem.W.Frag) (B : Hp) (β : List Addr) : List (Key × V) → List (Key × D) → Prop
  | nil : RepK K B β [] []
  | cons {k : Key} {v : V} {d : D} {vs : List (Key × V)} {ds : List (Key × D)} : Rep K B β v d → RepK K B β vs ds → RepK K B β ((k, v) :: vs) ((k, d) :: ds)
inductive RepT (K : PySem.W.Frag) (B : Hp) (β : List Addr) : List (List Key × V) → List (List Key × D) → Prop
  | nil : RepT K B β [] []
  | cons {k : List Key} {v : V} {d : D} {vs : List (List Key × V)} {ds : List (List Key × D)} : Rep K B β v d → RepT K B β vs ds → RepT K B β ((k, v) :: vs) ((k, d) :: ds)
end

section
variable {K : PySem.W.Frag} {B B' : Hp} {β β' : List Addr}
def Pre (β β' : List Addr) : Prop := ∃ γ, β' = β ++ γ
theorem Pre.refl (β : List Addr) : Pre β β := ⟨[], by simp⟩
theorem Pre.trans {a b c : List Addr} (x : Pre a b) (y : Pre b c) : Pre a c := by
  obtain ⟨g, rfl⟩ := x
  obtain ⟨g', rfl⟩ := y
  exact ⟨g ++ g', by simp⟩
theorem Pre.get (h : Pre β β') {n : Nat} {a : Addr} (e : β[n]? = some a) : β'[n]? = some a := by
  obtain ⟨g, rfl⟩ := h
  rw [List.getElem?_append_left (List.getElem?_eq_some_iff.mp e).1]
  exact e
mutual
theorem Rep.mono (e : Ex B B') (p : Pre β β') : ∀ {d : D} {v : V}, Rep K B β v d → Rep K B' β' v d
  | .non, _, h => by cases h; exact .non
  | .bl b, _, h => by cases h; exact .bl b
  | .int i, _, h => by cases h; exact .int i
  | .str x, _, h => by cases h; exact .str x
  | .lst ds, _, h => by
    cases h with
    | lst h1 h2 => exact .lst (e _ _ h1) (Reps.mono e p h2)
  | .ro ds, _, h => by
    cases h with
    | ro h1 h2 => exact .ro (Evl.ex_l e h1) (Reps.mono e p h2)
  | .tup ds, _, h => by
    cases h with
    | tup h1 h2 => exact .tup (e _ _ h1) (Reps.mono e p h2)
  | .dic ds, _, h => by
    cases h with
    | dic h1 h2 => exact .dic (e _ _ h1) (RepK.mono e p h2)
  | .dit ds, _, h => by
    cases h with
    | dit h1 h2 => exact .dit (e _ _ h1) (RepT.mono e p h2)
  | .ref n, _, h => by
    cases h with
    | ref h => exact .ref (p.get h)
theorem Reps.mono (e : Ex B B') (p : Pre β β') : ∀ {ds : List D} {vs : List V}, Reps K B β vs ds → Reps K B' β' vs ds
  | [], _, h => by cases h; exact .nil
  | d :: ds, _, h => by
    cases h with
    | cons h1 h2 => exact .cons (Rep.mono e p h1) (Reps.mono e p h2)
theorem RepK.mono (e : Ex B B') (p : Pre β β') : ∀ {ds : List (Key × D)} {vs : List (Key × V)}, RepK K B β vs ds → RepK K B' β' vs ds
  | [], _, h => by cases h; exact .nil
  | (k, d) :: ds, _, h => by
    cases h with
    | cons h1 h2 => exact .cons (Rep.mono e p h1) (RepK.mono e p h2)
theorem RepT.mono (e : Ex B B') (p : Pre β β') : ∀ {ds : List (List Key × D)} {vs : List (List Key × V)}, RepT K B β vs ds → RepT K B' β' vs ds
  | [], _, h => by cases h; exact .nil
  | (k, d) :: ds, _, h => by
    cases h with
    | cons h1 h2 => exact .cons (Rep.mono e p h1) (RepT.mono e p h2)
end
theorem Reps.len : ∀ {ds : List D} {vs : List V}, Reps K B β vs ds → vs.length = ds.length
  | [], _, h => by cases h; rfl
  | d :: ds, _, h => by
    cases h with
    | cons h1 h2 => simp [Reps.len h2]
theorem Reps.get : ∀ {ds : List D} {vs : List V} {i : Nat} {d : D}, Reps K B β vs ds → ds[i]? = some d → ∃ v, vs[i]? = some v ∧ Rep K B β v d
  | [], _, _, _, _, e => by simp at e
  | d :: ds, _, 0, x, h, e => by
    cases h with
    | cons h1 h2 =>
      have e' : d = x := by simpa using e
      subst e'
      exact ⟨_, rfl, h1⟩
  | d :: ds, _, i + 1, x, h, e => by
    cases h with
    | cons h1 h2 =>
      obtain ⟨v, q, r⟩ := Reps.get (i := i) h2 (by simpa using e)
      exact ⟨v, by simpa using q, r⟩
theorem Reps.getV : ∀ {vs : List V} {ds : List D} {i : Nat} {v : V}, Reps K B β vs ds → vs[i]? = some v → ∃ d, ds[i]? = some d ∧ Rep K B β v d := fun {vs ds i v} h e => by
  have hi := (List.getElem?_eq_some_iff.mp e).1
  have hd : i < ds.length := by rw [← h.len]; exact hi
  obtain ⟨v', e', r⟩ := h.get (List.getElem?_eq_getElem hd)
  rw [e] at e'
  cases e'
  exact ⟨_, List.getElem?_eq_getElem hd, r⟩
theorem Reps.append : ∀ {ds es : List D} {vs us : List V}, Reps K B β vs ds → Reps K B β us es → Reps K B β (vs ++ us) (ds ++ es)
  | [], _, _, _, h, k => by cases h; exact k
  | d :: ds, _, _, _, h, k => by
    cases h with
    | cons h1 h2 => exact .cons h1 (Reps.append h2 k)
theorem Reps.take : ∀ {ds : List D} {vs : List V} (n : Nat), Reps K B β vs ds → Reps K B β (vs.take n) (ds.take n)
  | [], _, n, h => by cases h; simp; exact .nil
  | d :: ds, _, 0, h => by simp; exact .nil
  | d :: ds, _, n + 1, h => by
    cases h with
    | cons h1 h2 => exact .cons h1 (Reps.take n h2)
theorem Reps.drop : ∀ {ds : List D} {vs : List V} (n : Nat), Reps K B β vs ds → Reps K B β (vs.drop n) (ds.drop n)
  | [], _, n, h => by cases h; simp; exact .nil
  | d :: ds, _, 0, h => h
  | d :: ds, _, n + 1, h => by
    cases h with
    | cons h1 h2 => exact Reps.drop n h2
theorem Reps.set {v : V} {d : D} (r : Rep K B β v d) : ∀ {ds : List D} {vs : List V} (n : Nat), Reps K B β vs ds → Reps K B β (vs.set n v) (ds.set n d)
  | [], _, n, h => by cases h; exact .nil
  | _ :: ds, _, 0, h => by
    cases h with
    | cons h1 h2 => exact .cons r h2
  | _ :: ds, _, n + 1, h => by
    cases h with
    | cons h1 h2 => exact .cons h1 (Reps.set r n h2)
theorem Reps.ints : ∀ {ns : List Int}, Reps K B β (ns.map V.int) (ns.map D.int)
  | [] => .nil
  | n :: ns => .cons (.int n) Reps.ints
end

/-! ### worlds -/
open Classical in
/-- what never changes: without the extra X and what the store holds -/
noncomputable def hid (X : List Addr) (β : List Addr) (S : Store) (H : Hp) : Hp := fun a => if a ∈ X ∨ ∃ (n : Nat) (o : SO), β[n]? = some a ∧ S[n]? = some (some o) then none else H a
/-- at a: an exception of the class at C, its dict at dd -/
def excH (a C dd : Addr) : HO := .ext fun h => ∃ (o : Obj) (vs : Array Value), h.get? a = some o ∧ o.cls = .ref C ∧ o.dict = some dd ∧ o.data = .fields vs
/-- at a: this object -/
def fnH (a : Addr) (o : Obj) : HO := .ext fun h => h.get? a = some o
/-- fields -/
inductive RepF (K : PySem.W.Frag) (B : Hp) (β : List Addr) : List (Str × V) → List (Str × D) → Prop
  | nil : RepF K B β [] []
  | cons {f : Str} {v : V} {d : D} {vs : List (Str × V)} {ds : List (Str × D)} : Rep K B β v d → RepF K B β vs ds → RepF K B β ((f, v) :: vs) ((f, d) :: ds)
theorem RepF.mono {K : PySem.W.Frag} {B B' : Hp} {β β' : List Addr} (e : Ex B B') (p : Pre β β') {vs : List (Str × V)} {ds : List (Str × D)} (h : RepF K B β vs ds) : RepF K B' β' vs ds := by
  induction h with
  | nil => exact .nil
  | cons r _ ih => exact .cons (r.mono e p) ih
theorem RepF.look {K : PySem.W.Frag} {B : Hp} {β : List Addr} {f : Str} {vs : List (Str × V)} {ds : List (Str × D)} (h : RepF K B β vs ds) {d : D} (l : ds.lookup f = some d) : ∃ v, vs.lookup f = some v ∧ Rep K B β v d := by
  induction h with
  | nil => cases l
  | @cons g v e vs ds r _ ih =>
    simp only [List.lookup] at l ⊢
    split at l
    · cases l
      exact ⟨v, rfl, r⟩
    · exact ih l
def SRep (K : PySem.W.Frag) (B : Hp) (β : List Addr) (H : Hp) (a : Addr) : SO → Prop
  | .lst ds => ∃ vs, H a = some (.lst vs) ∧ Reps K B β vs ds
  | .exc C es => ∃ dd fs, H a = some (excH a C dd) ∧ B dd = some (.xd fs) ∧ RepF K B β fs es
  | .fn f o => a = f ∧ H a = some (fnH a o)
/-- a world kept in mind -/
structure W0 where
  Y : List Addr
  β : List Addr
  S : Store
  H : Hp
/-- the worlds kept in mind, the tables of code objects -/
structure Gh where
  w : List W0
  T : List (Addr × Str)
/-- a hidden thing stays, or it is a table -/
def Kept (H H' : Hp) (a : Addr) : Prop := H' a = H a ∨ (∃ ps, H a = some (.tbl ps)) ∧ ∃ ps, H' a = some (.tbl ps)
theorem Kept.trans {H H' H'' : Hp} {a : Addr} (x : Kept H H' a) (y : Kept H' H'' a) : Kept H H'' a := by
  rcases x with x | ⟨⟨p, x1⟩, q, x2⟩
  · rcases y with y | ⟨⟨p, y1⟩, q, y2⟩
    · exact .inl (y.trans x)
    · exact .inr ⟨⟨p, x.symm.trans y1⟩, q, y2⟩
  · rcases y with y | ⟨_, r, y2⟩
    · exact .inr ⟨⟨p, x1⟩, q, y.trans x2⟩
    · exact .inr ⟨⟨p, x1⟩, r, y2⟩
theorem Kept.at {H H' : Hp} {a : Addr} {o : HO} (x : Kept H H' a) (h : H a = some o) (n : ∀ ps, o ≠ .tbl ps) : H' a = some o := by
  rcases x with x | ⟨⟨p, x1⟩, _⟩
  · exact x.trans h
  · rw [h] at x1
    exact (n p (Option.some.inj x1)).elim
/-- the tables stand among the hidden things -/
structure TabsOk (T : List (Addr × Str)) (X : List Addr) (H : Hp) : Prop where
  tabs : LamX.Tabs T H
  hid : ∀ p ∈ T, p.1 ∈ X
theorem TabsOk.upd {T : List (Addr × Str)} {X : List Addr} {H : Hp} {a : Addr} {o u : HO} (t : TabsOk T X H) (h : H a = none ∨ H a = some o ∧ (∀ ps, o ≠ .tbl ps) ∧ ∀ c q, o ≠ LamX.CodeO c q) : TabsOk T X (upd H a u) := by
  have ne : ∀ {b : Addr} {z : HO}, H b = some z → ((∃ ps, z = .tbl ps) ∨ ∃ c q, z = LamX.CodeO c q) → b ≠ a := fun {b z} hb hz e => by
    subst e
    rcases h with h | ⟨h, n1, n2⟩
    · rw [h] at hb
      cases hb
    · rw [h] at hb
      cases hb
      rcases hz with ⟨ps, e⟩ | ⟨c, q, e⟩
      · exact n1 ps e
      · exact n2 c q e
  refine ⟨fun p hp => ?_, t.hid⟩
  obtain ⟨ps, h1, h2, h3⟩ := t.tabs p hp
  refine ⟨ps, by rw [upd_ne (ne h1 (.inl ⟨_, rfl⟩))]; exact h1, h2, fun pos cv hc => ?_⟩
  obtain ⟨c, e1, e2⟩ := h3 pos cv hc
  exact ⟨c, e1, by rw [upd_ne (ne e2 (.inr ⟨_, _, rfl⟩))]; exact e2⟩
theorem code_lst {c : Addr} {q : Str} {us : List V} : HO.lst us ≠ LamX.CodeO c q := fun z => by
  unfold LamX.CodeO at z
  cases z
theorem code_dK {c : Addr} {q : Str} {us : List (Key × V)} : HO.dK us ≠ LamX.CodeO c q := fun z => by
  unfold LamX.CodeO at z
  cases z
/-- what stands of a world kept in mind -/
structure Since (w : W0) (X : List Addr) (β : List Addr) (S : Store) (H : Hp) : Prop where
  pre : Pre w.β β
  ex : Ex (hid w.Y w.β w.S w.H) (hid X β S H)
  ext : ∀ a ∈ w.Y, a ∈ X ∧ Kept w.H H a
  trk : ∀ a, w.H a ≠ none → H a ≠ none
theorem Since.on {w : W0} {X : List Addr} {β β' : List Addr} {S S' : Store} {H H' : Hp} (s : Since w X β S H) (pre : Pre β β') (ex : Ex (hid X β S H) (hid X β' S' H')) (ext : ∀ a ∈ X, Kept H H' a) (trk : ∀ a, H a ≠ none → H' a ≠ none) : Since w X β' S' H' :=
  ⟨s.pre.trans pre, s.ex.trans ex, fun a ha => ⟨(s.ext a ha).1, (s.ext a ha).2.trans (ext a (s.ext a ha).1)⟩, fun a h => trk a (s.trk a h)⟩
structure Ok (K : PySem.W.Frag) (G : Gh) (X : List Addr) (β : List Addr) (S : Store) (H : Hp) : Prop where
  len : β.length = S.length
  nd : β.Nodup
  out : ∀ a ∈ β, a ∉ X
  trk : ∀ a ∈ β, H a ≠ none
  xtrk : ∀ a ∈ X, H a ≠ none
  obj : ∀ (n : Nat) (o : SO), S[n]? = some (some o) → ∃ a, β[n]? = some a ∧ SRep K (hid X β S H) β H a o
  gh : ∀ w, w ∈ G.w → Since w X β S H
  tb : TabsOk G.T X H
structure Step (K : PySem.W.Frag) (G : Gh) (X : List Addr) (β : List Addr) (S : Store) (H : Hp) (β' : List Addr) (S' : Store) (H' : Hp) : Prop where
  pre : Pre β β'
  ex : Ex (hid X β S H) (hid X β' S' H')
  ext : ∀ a ∈ X, Kept H H' a
  trk : ∀ a, H a ≠ none → H' a ≠ none
  ok : Ok K G X β' S' H'
section
variable {K : PySem.W.Frag} {X : List Addr} {β β' β'' : List Addr} {S S' S'' : Store} {H H' H'' : Hp}
theorem Step.refl (o : Ok K G X β S H) : Step K G X β S H β S H := ⟨.refl _, Ex.refl _, fun _ _ => .inl rfl, fun _ h => h, o⟩
theorem Step.trans (a : Step K G X β S H β' S' H') (b : Step K G X β' S' H' β'' S'' H'') : Step K G X β S H β'' S'' H'' :=
  ⟨a.pre.trans b.pre, a.ex.trans b.ex, fun c hc => (a.ext c hc).trans (b.ext c hc), fun c h => b.trk c (a.trk c h), b.ok⟩
theorem Step.rep (a : Step K G X β S H β' S' H') {v : V} {d : D} (r : Rep K (hid X β S H) β v d) : Rep K (hid X β' S' H') β' v d := r.mono a.ex a.pre
theorem Step.reps (a : Step K G X β S H β' S' H') {v : List V} {d : List D} (r : Reps K (hid X β S H) β v d) : Reps K (hid X β' S' H') β' v d := r.mono a.ex a.pre
theorem hid_ex : Ex (hid X β S H) H := fun a o h => by
  unfold hid at h
  split at h
  · cases h
  · exact h
theorem hid_of {a : Addr} (h1 : a ∉ X) (h2 : ∀ (n : Nat) (o : SO), β[n]? = some a → S[n]? = some (some o) → False) : hid X β S H a = H a := by
  unfold hid
  rw [if_neg]
  rintro (h | ⟨n, o, e1, e2⟩)
  · exact h1 h
  · exact h2 n o e1 e2
theorem hid_none {a : Addr} (h : H a = none) : hid X β S H a = none := by
  unfold hid
  rw [h]
  split <;> rfl
theorem hid_live {a : Addr} {n : Nat} {o : SO} (h1 : β[n]? = some a) (h2 : S[n]? = some (some o)) : hid X β S H a = none := by
  unfold hid
  rw [if_pos (.inr ⟨n, o, h1, h2⟩)]
theorem SRep.keep {B B' : Hp} {a : Addr} {o : SO} (e : Ex B B') (p : Pre β β') (h : H a ≠ none → H' a = H a) (r : SRep K B β H a o) : SRep K B' β' H' a o := by
  cases o with
  | lst ds =>
    obtain ⟨vs, h1, h2⟩ := r
    exact ⟨vs, (h (by rw [h1]; simp)).trans h1, h2.mono e p⟩
  | exc C es =>
    obtain ⟨dd, fs, h1, h2, h3⟩ := r
    exact ⟨dd, fs, (h (by rw [h1]; simp)).trans h1, e _ _ h2, h3.mono e p⟩
  | fn f o => exact ⟨r.1, (h (by rw [r.2]; simp)).trans r.2⟩
/-- a new object, never to be changed -/
theorem Ok.new (o : Ok K G X β S H) {p : Addr} (ob : HO) (hp : H p = none) : Step K G X β S H β S (upd H p ob) := by
  have hx : ∀ a, H a ≠ none → a ≠ p := fun a h e => h (e ▸ hp)
  have he : ∀ a, H a ≠ none → upd H p ob a = H a := fun a h => upd_ne (hx a h)
  have ex : Ex (hid X β S H) (hid X β S (upd H p ob)) := fun a u h => by
    unfold hid at h ⊢
    split at h
    · cases h
    · rename_i hn
      rw [if_neg hn, he a (by rw [h]; simp)]
      exact h
  have tr : ∀ a, H a ≠ none → upd H p ob a ≠ none := fun a h => by rw [he a h]; exact h
  refine ⟨.refl _, ex, fun a ha => .inl (he a (o.xtrk a ha)), tr, ⟨o.len, o.nd, o.out, fun a ha => tr a (o.trk a ha), fun a ha => tr a (o.xtrk a ha), fun n so e => ?_, fun w hw => (o.gh w hw).on (.refl _) ex (fun a ha => .inl (he a (o.xtrk a ha))) tr, o.tb.upd (o := .tup []) (.inl hp)⟩⟩
  obtain ⟨a, e1, r⟩ := o.obj n so e
  exact ⟨a, e1, r.keep ex (.refl _) (he a)⟩
theorem Ok.new_at (o : Ok K G X β S H) {p : Addr} (ob : HO) (hp : H p = none) : hid X β S (upd H p ob) p = some ob := by
  rw [hid_of, upd_same]
  · exact fun h => o.xtrk p h hp
  · exact fun n so h _ => o.trk p (List.mem_of_getElem? h) hp
/-- what the store holds, told by value -/
def drf (S : Store) : D → D
  | .ref n => match S[n]? with
    | some (some (.lst ds)) => .lst ds
    | _ => .ref n
  | d => d
theorem Ok.drf (o : Ok K G X β S H) {v : V} {d : D} (r : Rep K (hid X β S H) β v d) : Rep K H β v (drf S d) := by
  have r' := r.mono hid_ex (.refl _)
  cases d with
  | ref n =>
    show Rep K H β v (match S[n]? with | some (some (.lst ds)) => .lst ds | _ => .ref n)
    split
    · rename_i ds e
      obtain ⟨a, e1, vs, h1, h2⟩ := o.obj n _ e
      cases r with
      | ref h =>
        rw [e1] at h
        cases h
        exact .lst h1 (h2.mono hid_ex (.refl _))
    · exact r'
  | _ => exact r'
/-- the mutable list n changes -/
theorem Ok.put (o : Ok K G X β S H) {n : Nat} {os : List D} {a : Addr} {vs : List V} {ds : List D} (hs : S[n]? = some (some (.lst os))) (ha : β[n]? = some a) (hv : Reps K (hid X β S H) β vs ds) :
    Step K G X β S H β (S.set n (some (.lst ds))) (upd H a (.lst vs)) := by
  have hn : n < S.length := (List.getElem?_eq_some_iff.mp hs).1
  have hlive : ∀ (m : Nat), (∃ o', (S.set n (some (SO.lst ds)))[m]? = some (some o')) ↔ ∃ o', S[m]? = some (some o') := fun m => by
    by_cases e : m = n
    · subst e
      rw [List.getElem?_set_self hn]
      exact ⟨fun _ => ⟨_, hs⟩, fun _ => ⟨_, rfl⟩⟩
    · rw [List.getElem?_set_ne (Ne.symm e)]
  have heq : ∀ b, b ≠ a → upd H a (.lst vs) b = H b := fun b h => upd_ne h
  have ex : Ex (hid X β S H) (hid X β (S.set n (some (.lst ds))) (upd H a (.lst vs))) := fun b u h => by
    have hb : b ≠ a := by
      rintro rfl
      rw [hid_live ha hs] at h
      cases h
    unfold hid at h ⊢
    split at h
    · cases h
    · rename_i hn'
      rw [if_neg, heq b hb]
      · exact h
      · rintro (hx | ⟨m, o', e1, e2⟩)
        · exact hn' (.inl hx)
        · obtain ⟨o'', e3⟩ := (hlive m).mp ⟨o', e2⟩
          exact hn' (.inr ⟨m, o'', e1, e3⟩)
  have tr : ∀ b, H b ≠ none → upd H a (.lst vs) b ≠ none := fun b h => by
    by_cases e : b = a
    · subst e
      rw [upd_same]
      simp
    · rw [heq b e]
      exact h
  have ham := List.mem_of_getElem? ha
  have hext : ∀ b ∈ X, Kept H (upd H a (.lst vs)) b := fun b hb => .inl (heq b fun e => o.out a ham (e ▸ hb))
  have hlst : ∃ us, H a = some (.lst us) := by
    obtain ⟨b, e1, us, h1, _⟩ := o.obj n _ hs
    rw [ha] at e1
    cases e1
    exact ⟨us, h1⟩
  obtain ⟨us, hus⟩ := hlst
  refine ⟨.refl _, ex, hext, tr, ⟨by rw [List.length_set]; exact o.len, o.nd, o.out, fun b hb => tr b (o.trk b hb), fun b hb => tr b (o.xtrk b hb), fun m o' e => ?_, fun w hw => (o.gh w hw).on (.refl _) ex hext tr, o.tb.upd (.inr ⟨hus, fun _ z => (by cases z), fun _ _ => code_lst⟩)⟩⟩
  by_cases e0 : m = n
  · subst e0
    rw [List.getElem?_set_self hn] at e
    cases e
    exact ⟨a, ha, vs, upd_same, hv.mono ex (.refl _)⟩
  · rw [List.getElem?_set_ne (Ne.symm e0)] at e
    obtain ⟨b, e1, r⟩ := o.obj m o' e
    have hb : b ≠ a := by
      rintro rfl
      have h1 := (List.getElem?_eq_some_iff.mp e1)
      have h2 := (List.getElem?_eq_some_iff.mp ha)
      obtain ⟨i1, q1⟩ := h1
      obtain ⟨i2, q2⟩ := h2
      exact e0 ((List.getElem_inj o.nd).mp (q1.trans q2.symm))
    exact ⟨b, e1, r.keep ex (.refl _) fun _ => heq b hb⟩
/-- the mutable list n is never changed again: a value from now on -/
theorem Ok.frz (o : Ok K G X β S H) {n : Nat} {ds : List D} (hs : S[n]? = some (some (.lst ds))) : Step K G X β S H β (S.set n none) H ∧ ∀ a, β[n]? = some a → Rep K (hid X β (S.set n none) H) β (.ref a) (.lst ds) := by
  have hn : n < S.length := (List.getElem?_eq_some_iff.mp hs).1
  have back : ∀ (m : Nat) (o' : SO), (S.set n none)[m]? = some (some o') → S[m]? = some (some o') ∧ m ≠ n := fun m o' e => by
    by_cases h : m = n
    · subst h
      rw [List.getElem?_set_self hn] at e
      cases e
    · rw [List.getElem?_set_ne (Ne.symm h)] at e
      exact ⟨e, h⟩
  have ex : Ex (hid X β S H) (hid X β (S.set n none) H) := fun b u h => by
    unfold hid at h ⊢
    split at h
    · cases h
    · rename_i hn'
      rw [if_neg]
      · exact h
      · rintro (hx | ⟨m, o', e1, e2⟩)
        · exact hn' (.inl hx)
        · exact hn' (.inr ⟨m, o', e1, (back m o' e2).1⟩)
  refine ⟨⟨.refl _, ex, fun _ _ => .inl rfl, fun _ h => h, ⟨by rw [List.length_set]; exact o.len, o.nd, o.out, o.trk, o.xtrk, fun m o' e => ?_, fun w hw => (o.gh w hw).on (.refl _) ex (fun _ _ => .inl rfl) (fun _ h => h), o.tb⟩⟩, fun a ha => ?_⟩
  · obtain ⟨b, e1, r⟩ := o.obj m o' (back m o' e).1
    exact ⟨b, e1, r.keep ex (.refl _) fun _ => rfl⟩
  · obtain ⟨b, e1, vs, h1, h2⟩ := o.obj n _ hs
    rw [ha] at e1
    cases e1
    refine .lst ?_ (h2.mono ex (.refl _))
    rw [hid_of]
    · exact h1
    · exact o.out a (List.mem_of_getElem? ha)
    · intro m o' e2 e3
      obtain ⟨e4, hne⟩ := back m o' e3
      obtain ⟨i1, q1⟩ := List.getElem?_eq_some_iff.mp e2
      obtain ⟨i2, q2⟩ := List.getElem?_eq_some_iff.mp ha
      exact hne ((List.getElem_inj o.nd).mp (q1.trans q2.symm))
/-- a new thing of the store -/
theorem Ok.alloc' (o : Ok K G X β S H) {p : Addr} {ob : HO} {so : SO} (hp : H p = none) (hv : ∀ B β', Ex (hid X β S H) B → Pre β β' → SRep K B β' (upd H p ob) p so) :
    Step K G X β S H (β ++ [p]) (S ++ [some so]) (upd H p ob) := by
  have hx : ∀ a, H a ≠ none → a ≠ p := fun a h e => h (e ▸ hp)
  have he : ∀ a, H a ≠ none → upd H p ob a = H a := fun a h => upd_ne (hx a h)
  have pre : Pre β (β ++ [p]) := ⟨[p], rfl⟩
  have ex : Ex (hid X β S H) (hid X (β ++ [p]) (S ++ [some so]) (upd H p ob)) := fun b u h => by
    have hb : H b ≠ none := by
      rw [hid_ex b u h]
      simp
    unfold hid at h ⊢
    split at h
    · cases h
    · rename_i hn
      rw [if_neg, he b hb]
      · exact h
      · rintro (h' | ⟨m, o', e1, e2⟩)
        · exact hn (.inl h')
        · by_cases hm : m < β.length
          · rw [List.getElem?_append_left hm] at e1
            rw [List.getElem?_append_left (by rw [← o.len]; exact hm)] at e2
            exact hn (.inr ⟨m, o', e1, e2⟩)
          · rw [List.getElem?_append_right (by omega)] at e1
            have e3 : b = p := by
              have := List.mem_of_getElem? e1
              simpa using this
            exact hx b hb e3
  have tr : ∀ a, H a ≠ none → upd H p ob a ≠ none := fun a h => by rw [he a h]; exact h
  refine ⟨pre, ex, fun a ha => .inl (he a (o.xtrk a ha)), tr, ⟨by simp [o.len], ?_, fun a ha => ?_, fun a ha => ?_, fun a ha => tr a (o.xtrk a ha), fun m o' e => ?_, fun w hw => (o.gh w hw).on pre ex (fun a ha => .inl (he a (o.xtrk a ha))) tr, o.tb.upd (o := .tup []) (.inl hp)⟩⟩
  · rw [List.nodup_append]
    refine ⟨o.nd, by simp, fun a ha b hb => ?_⟩
    have e3 : b = p := by simpa using hb
    rw [e3]
    exact hx a (o.trk a ha)
  · rcases List.mem_append.mp ha with h | h
    · exact o.out a h
    · have e3 : a = p := by simpa using h
      subst e3
      exact fun hX => o.xtrk a hX hp
  · rcases List.mem_append.mp ha with h | h
    · exact tr a (o.trk a h)
    · have e3 : a = p := by simpa using h
      subst e3
      rw [upd_same]
      simp
  · by_cases hm : m < S.length
    · rw [List.getElem?_append_left hm] at e
      obtain ⟨a, e1, r⟩ := o.obj m o' e
      exact ⟨a, pre.get e1, r.keep ex pre (he a)⟩
    · rw [List.getElem?_append_right (by omega)] at e
      have hm' : m - S.length = 0 := by
        have := (List.getElem?_eq_some_iff.mp e).1
        simp at this
        omega
      rw [hm'] at e
      cases e
      refine ⟨p, ?_, hv _ _ ex pre⟩
      rw [List.getElem?_append_right (by rw [o.len]; omega), o.len, hm']
      rfl
/-- a new list that will be changed -/
theorem Ok.alloc (o : Ok K G X β S H) {p : Addr} {vs : List V} {ds : List D} (hp : H p = none) (hv : Reps K (hid X β S H) β vs ds) :
    Step K G X β S H (β ++ [p]) (S ++ [some (.lst ds)]) (upd H p (.lst vs)) := o.alloc' hp fun _ _ e pr => ⟨vs, upd_same, hv.mono e pr⟩
/-- an exception that is caught -/
theorem Ok.catch (o : Ok K G X β S H) {p C dd : Addr} {fs : List (Str × V)} {es : List (Str × D)} (hp : H p = none) (hd : hid X β S H dd = some (.xd fs)) (hv : RepF K (hid X β S H) β fs es) :
    Step K G X β S H (β ++ [p]) (S ++ [some (.exc C es)]) (upd H p (excH p C dd)) := o.alloc' hp fun _ _ e pr => ⟨dd, fs, upd_same, e _ _ hd, hv.mono e pr⟩
/-- the world in mind changed -/
abbrev Gh.no (G : Gh) : Gh := ⟨[], G.T⟩
theorem Ok.free (o : Ok K G X β S H) : Ok K G.no X β S H := ⟨o.len, o.nd, o.out, o.trk, o.xtrk, o.obj, fun w h => (nomatch h), o.tb⟩
theorem Ok.mind (o : Ok K G X β S H) : Ok K ⟨⟨X, β, S, H⟩ :: G.w, G.T⟩ X β S H := ⟨o.len, o.nd, o.out, o.trk, o.xtrk, o.obj, fun w h => by
  rcases List.mem_cons.mp h with rfl | h
  case inr => exact o.gh w h
  exact ⟨.refl _, Ex.refl _, fun a ha => ⟨ha, .inl rfl⟩, fun _ h => h⟩, o.tb⟩
theorem Ok.less {L : List W0} (o : Ok K G X β S H) (h : ∀ w ∈ L, w ∈ G.w) : Ok K ⟨L, G.T⟩ X β S H := ⟨o.len, o.nd, o.out, o.trk, o.xtrk, o.obj, fun w hw => o.gh w (h w hw), o.tb⟩
theorem Step.back (o : Ok K G X β S H) (s : Step K G.no X β S H β' S' H') : Step K G X β S H β' S' H' :=
  ⟨s.pre, s.ex, s.ext, s.trk, ⟨s.ok.len, s.ok.nd, s.ok.out, s.ok.trk, s.ok.xtrk, s.ok.obj, fun w hw => (o.gh w hw).on s.pre s.ex s.ext s.trk, s.ok.tb⟩⟩
theorem Step.free (s : Step K G X β S H β' S' H') : Step K G.no X β S H β' S' H' := ⟨s.pre, s.ex, s.ext, s.trk, s.ok.free⟩
end
end NC

set_option Elab.async false
set_option linter.all false
set_option maxRecDepth 100000
set_option maxHeartbeats 1000000
/-! NC2: the judgements over data, the basic rules. -/
namespace NC
open PySem PySem.Spec PyProof.Rows L2
open Evl (Ex)

abbrev Rho := List (Option D)
abbrev QD := D → Store → Prop
abbrev TD := Rho → Store → QD → Prop
abbrev TB := Rho → Store → (Bool → Store → Prop) → Prop
abbrev TLs := Rho → Store → (List D → Store → Prop) → Prop

structure Rel (K : PySem.W.Frag) (G : Gh) (X β : List Addr) (S : Store) (ρ : Rho) (σ : L2.St) (H : Hp) : Prop where
  ok : Ok K G X β S H
  len : ρ.length = σ.length
  get : ∀ (i : Nat) (d : D), ρ[i]? = some (some d) → ∃ v, σ[i]? = some (some v) ∧ Rep K (hid X β S H) β v d
section
variable {K : PySem.W.Frag} {X β β' : List Addr} {S S' : Store} {ρ : Rho} {σ : L2.St} {H H' : Hp}
theorem Rel.step (r : Rel K G X β S ρ σ H) (s : Step K G X β S H β' S' H') : Rel K G X β' S' ρ σ H' :=
  ⟨s.ok, r.len, fun i d e => let ⟨v, a, b⟩ := r.get i d e; ⟨v, a, s.rep b⟩⟩
theorem Rel.set (r : Rel K G X β S ρ σ H) {v : V} {d : D} (q : Rep K (hid X β S H) β v d) (j : Nat) : Rel K G X β S (ρ.set j (some d)) (σ.set j (some v)) H := by
  refine ⟨r.ok, by rw [List.length_set, List.length_set]; exact r.len, fun i e h => ?_⟩
  by_cases hj : j = i
  · subst hj
    have hl : j < ρ.length := by
      have := (List.getElem?_eq_some_iff.mp h).1
      rwa [List.length_set] at this
    rw [List.getElem?_set_self hl] at h
    have e' : d = e := by simpa using h
    subst e'
    exact ⟨v, by rw [List.getElem?_set_self (by rw [← r.len]; exact hl)], q⟩
  · rw [List.getElem?_set_ne hj] at h ⊢
    exact r.get i e h
end

def tE (K : PySem.W.Frag) (G : Gh) (t : TD) : TE := fun σ H Q => ∃ X β S ρ Q', Rel K G X β S ρ σ H ∧ t ρ S Q' ∧
  ∀ d S' v β' H', Step K G X β S H β' S' H' → Rep K (hid X β' S' H') β' v d → Q' d S' → Q v H'
def tT (K : PySem.W.Frag) (G : Gh) (t : TB) : TT := fun σ H Q => ∃ X β S ρ Q', Rel K G X β S ρ σ H ∧ t ρ S Q' ∧
  ∀ b S' β' H', Step K G X β S H β' S' H' → Q' b S' → Q b H'
def tA (K : PySem.W.Frag) (G : Gh) (t : TLs) : TA := fun σ H Q => ∃ X β S ρ Q', Rel K G X β S ρ σ H ∧ t ρ S Q' ∧
  ∀ ds S' vs β' H', Step K G X β S H β' S' H' → Reps K (hid X β' S' H') β' vs ds → Q' ds S' → Q vs H'
/-- what an operation on values comes to -/
abbrev RD2 := D → D → Store → QD → Prop
abbrev RD1 := D → Store → QD → Prop
abbrev RDs := List D → Store → QD → Prop
def out (K : PySem.W.Frag) (G : Gh) (X β : List Addr) (S : Store) (H : Hp) (Q' : QD) (Q : VK) : Prop :=
  ∀ d S' v β' H', Step K G X β S H β' S' H' → Rep K (hid X β' S' H') β' v d → Q' d S' → Q v H'
def l2 (K : PySem.W.Frag) (G : Gh) (r : RD2) : R2 := fun v u H Q => ∃ X β S x y Q', Ok K G X β S H ∧ Rep K (hid X β S H) β v x ∧ Rep K (hid X β S H) β u y ∧ r x y S Q' ∧ out K G X β S H Q' Q
def l1 (K : PySem.W.Frag) (G : Gh) (r : RD1) : V → Hp → VK → Prop := fun v H Q => ∃ X β S x Q', Ok K G X β S H ∧ Rep K (hid X β S H) β v x ∧ r x S Q' ∧ out K G X β S H Q' Q
def ls (K : PySem.W.Frag) (G : Gh) (r : RDs) : List V → Hp → VK → Prop := fun vs H Q => ∃ X β S xs Q', Ok K G X β S H ∧ Reps K (hid X β S H) β vs xs ∧ r xs S Q' ∧ out K G X β S H Q' Q

section
variable {X : Cx} {e a b c : Expr} {es rest : List Expr} {pos : Pos} {ta tb tc : TD} {tt tu : TB} {tl : TLs}
theorem _root_.L2.PE.imp {t t' : TE} (h : PE X e t) (i : ∀ σ H Q, t' σ H Q → t σ H Q) : PE X e t' := ⟨fun pins s σ H Q I q => h.run pins s σ H Q I (i σ H Q q)⟩
theorem _root_.L2.PT.imp {t t' : TT} (h : PT X e t) (i : ∀ σ H Q, t' σ H Q → t σ H Q) : PT X e t' := ⟨fun pins s σ H Q I q => h.run pins s σ H Q I (i σ H Q q)⟩
theorem _root_.L2.PW.imp {t t' : TT} (h : PW X e t) (i : ∀ σ H Q, t' σ H Q → t σ H Q) : PW X e t' := ⟨fun wh pins s σ H Q I q => h.run wh pins s σ H Q I (i σ H Q q)⟩
theorem _root_.L2.PA.imp {t t' : TA} (h : PA X es t) (i : ∀ σ H Q, t' σ H Q → t σ H Q) : PA X es t' := ⟨fun pos pins s σ H Q I q => h.run pos pins s σ H Q I (i σ H Q q)⟩
theorem _root_.L2.PS.imp {st : Stmt} {t t' : TS} (h : PS X st t) (i : ∀ D σ H, t' D σ H → t D σ H) : PS X st t' := ⟨fun pins s σ H D I q => h.run pins s σ H D I (i D σ H q)⟩
theorem _root_.L2.PSs.imp {st : List Stmt} {t t' : TS} (h : PSs X st t) (i : ∀ D σ H, t' D σ H → t D σ H) : PSs X st t' := ⟨fun pins s σ H D I q => h.run pins s σ H D I (i D σ H q)⟩

/-! names, constants -/
def eVar (i : Nat) : TD := fun ρ S Q => ∃ d, ρ[i]? = some (some d) ∧ Q d S
def eC (d : D) : TD := fun _ S Q => Q d S
theorem de_var (i : Nat) (h : PE X e (tVar i)) : PE X e (tE X.K G (eVar i)) := h.imp fun σ H Q ⟨Y, β, S, ρ, Q', r, ⟨d, hd, q⟩, k⟩ => by
  obtain ⟨v, hv, rv⟩ := r.get i d hd
  exact ⟨v, hv, k d S v β H (.refl r.ok) rv q⟩
theorem de_c {v : V} {d : D} (h : PE X e (tC v)) (r : ∀ B β, Rep X.K B β v d) : PE X e (tE X.K G (eC d)) := h.imp fun σ H Q ⟨Y, β, S, ρ, Q', rl, q, k⟩ =>
  k d S v β H (.refl rl.ok) (r _ _) q
theorem de_int {i : Int} {j} : PE X (.Constant (.int i) j pos) (tE X.K G (eC (.int i))) := de_c pe_int fun _ _ => .int i
theorem de_bl {i : Bool} {j} : PE X (.Constant (.bool i) j pos) (tE X.K G (eC (.bl i))) := de_c pe_bl fun _ _ => .bl i
theorem de_non {j} : PE X (.Constant .none j pos) (tE X.K G (eC .non)) := de_c pe_non fun _ _ => .non
theorem de_str {x : Str} {j} : PE X (.Constant (.str x) j pos) (tE X.K G (eC (.str x))) := de_c pe_str fun _ _ => .str x

/-! operators -/
def eOp (r : RD2) (ta tb : TD) : TD := fun ρ S Q => ta ρ S fun x S1 => tb ρ S1 fun y S2 => r x y S2 Q
theorem op_lift {r : RD2} {σ : L2.St} {H : Hp} {Q : VK} (h : tE X.K G (eOp r ta tb) σ H Q) : tOp (l2 X.K G r) (tE X.K G ta) (tE X.K G tb) σ H Q := by
  obtain ⟨Y, β, S, ρ, Q', rl, q, k⟩ := h
  refine ⟨Y, β, S, ρ, _, rl, q, fun x S1 v β1 H1 s1 r1 q1 => ?_⟩
  refine ⟨Y, β1, S1, ρ, _, rl.step s1, q1, fun y S2 u β2 H2 s2 r2 q2 => ?_⟩
  exact ⟨Y, β2, S2, x, y, Q', s2.ok, s2.rep r1, r2, q2, fun z S3 w β3 H3 s3 r3 q3 => k z S3 w β3 H3 ((s1.trans s2).trans s3) r3 q3⟩
theorem de_op {op : Operator} {r : RD2} (ho : OpR X (binaryOp op) (l2 X.K G r)) (ha : PE X a (tE X.K G ta)) (hb : PE X b (tE X.K G tb)) : PE X (.BinOp a op b pos) (tE X.K G (eOp r ta tb)) :=
  (pe_op ho ha hb).imp fun _ _ _ h => op_lift h
theorem de_cmp {op : CmpOp} {r : RD2} (ho : OpR X (compareOp op) (l2 X.K G r)) (ha : PE X a (tE X.K G ta)) (hb : PE X b (tE X.K G tb)) (hm : behindInMarks op b = false) : PE X (.Compare a [op] [b] pos) (tE X.K G (eOp r ta tb)) :=
  (pe_cmpR ho ha hb hm).imp fun _ _ _ h => op_lift h
/-- a truth as a test -/
def bOf (t : TD) : TB := fun ρ S Q => t ρ S fun x S1 => ∃ c, x = .bl c ∧ Q c S1
theorem bof_lift {σ : L2.St} {H : Hp} {Q : Bool → Hp → Prop} (h : tT X.K G (bOf ta) σ H Q) : tE X.K G ta σ H fun x H1 => ∃ k, x = .bl k ∧ Q k H1 := by
  obtain ⟨Y, β, S, ρ, Q', rl, q, k⟩ := h
  refine ⟨Y, β, S, ρ, _, rl, q, fun x S1 v β1 H1 s1 r1 ⟨c, e, q1⟩ => ?_⟩
  subst e
  cases r1
  exact ⟨c, rfl, k c S1 β1 H1 s1 q1⟩
theorem dt_val (h : PE X e (tE X.K G ta)) (he : ∀ whole, isTrue e X.env whole = (do let v ← whole; standAt e.pos; holding [v] (truthy v)) := by intro _; rfl) : PT X e (tT X.K G (bOf ta)) :=
  (pt_val h he).imp fun _ _ _ q => bof_lift q
theorem dt_cmp {op : CmpOp} {r : RD2} (ho : OpR X (compareOp op) (l2 X.K G r)) (ha : PE X a (tE X.K G ta)) (hb : PE X b (tE X.K G tb)) (hm : behindInMarks op b = false) : PT X (.Compare a [op] [b] pos) (tT X.K G (bOf (eOp r ta tb))) :=
  (pt_cmpR ho ha hb hm).imp fun σ H Q q => op_lift (bof_lift q)
/-! a op b op c -/
def eChain (r r' : RD2) (ta tb tc : TD) : TD := fun ρ S Q => ta ρ S fun x S1 => tb ρ S1 fun y S2 => r x y S2 fun z S3 => ∃ k, z = .bl k ∧ if k = true then tc ρ S3 fun w S4 => r' y w S4 Q else Q (.bl false) S3
/-! and, or, not -/
def bAnd (t u : TB) : TB := fun ρ S Q => t ρ S fun c S1 => if c = true then u ρ S1 Q else Q false S1
def bOr (t u : TB) : TB := fun ρ S Q => t ρ S fun c S1 => if c = true then Q true S1 else u ρ S1 Q
def bNot (t : TB) : TB := fun ρ S Q => t ρ S fun c S1 => Q (!c) S1
theorem dw_and1 (ha : PT X a (tT X.K G tt)) : PW X (.BoolOp .And [a] pos) (tT X.K G tt) := pw_and1 ha
theorem dw_or1 (ha : PT X a (tT X.K G tt)) : PW X (.BoolOp .Or [a] pos) (tT X.K G tt) := pw_or1 ha
theorem dw_and (ha : PT X a (tT X.K G tt)) (hb : PW X (.BoolOp .And (b :: rest) pos) (tT X.K G tu)) : PW X (.BoolOp .And (a :: b :: rest) pos) (tT X.K G (bAnd tt tu)) :=
  (pw_and ha hb).imp fun σ H Q ⟨Y, β, S, ρ, Q', rl, q, k⟩ => ⟨Y, β, S, ρ, _, rl, q, fun c S1 β1 H1 s1 q1 => by
    cases c with
    | true => exact ⟨Y, β1, S1, ρ, Q', rl.step s1, q1, fun d S2 β2 H2 s2 q2 => k d S2 β2 H2 (s1.trans s2) q2⟩
    | false => exact k false S1 β1 H1 s1 q1⟩
theorem dw_or (ha : PT X a (tT X.K G tt)) (hb : PW X (.BoolOp .Or (b :: rest) pos) (tT X.K G tu)) : PW X (.BoolOp .Or (a :: b :: rest) pos) (tT X.K G (bOr tt tu)) :=
  (pw_or ha hb).imp fun σ H Q ⟨Y, β, S, ρ, Q', rl, q, k⟩ => ⟨Y, β, S, ρ, _, rl, q, fun c S1 β1 H1 s1 q1 => by
    cases c with
    | true => exact k true S1 β1 H1 s1 q1
    | false => exact ⟨Y, β1, S1, ρ, Q', rl.step s1, q1, fun d S2 β2 H2 s2 q2 => k d S2 β2 H2 (s1.trans s2) q2⟩⟩
theorem dt_w (h : PW X e (tT X.K G tt)) : PT X e (tT X.K G tt) := h.pt
theorem dt_not (ha : PT X a (tT X.K G tt)) : PT X (.UnaryOp .Not a pos) (tT X.K G (bNot tt)) :=
  (pt_not ha).imp fun σ H Q ⟨Y, β, S, ρ, Q', rl, q, k⟩ => ⟨Y, β, S, ρ, _, rl, q, fun c S1 β1 H1 s1 q1 => k (!c) S1 β1 H1 s1 q1⟩
def eAnd (t u : TD) : TD := fun ρ S Q => t ρ S fun x S1 => ∃ c, x = .bl c ∧ if c = true then u ρ S1 Q else Q (.bl false) S1
def eOr (t u : TD) : TD := fun ρ S Q => t ρ S fun x S1 => ∃ c, x = .bl c ∧ if c = true then Q (.bl true) S1 else u ρ S1 Q
def eNot (t : TD) : TD := fun ρ S Q => t ρ S fun x S1 => ∃ c, x = .bl c ∧ Q (.bl (!c)) S1
theorem de_one {op} (h : PE X a (tE X.K G ta)) : PE X (.BoolOp op [a] pos) (tE X.K G ta) := pe_one h
theorem de_and (ha : PE X a (tE X.K G ta)) (hb : PE X (.BoolOp .And (b :: rest) pos) (tE X.K G tb)) : PE X (.BoolOp .And (a :: b :: rest) pos) (tE X.K G (eAnd ta tb)) :=
  (pe_and ha hb).imp fun σ H Q ⟨Y, β, S, ρ, Q', rl, q, k⟩ => ⟨Y, β, S, ρ, _, rl, q, fun x S1 v β1 H1 s1 r1 ⟨c, e, q1⟩ => by
    subst e
    cases r1
    refine ⟨c, rfl, ?_⟩
    cases c with
    | true => exact ⟨Y, β1, S1, ρ, Q', rl.step s1, q1, fun d S2 u β2 H2 s2 r2 q2 => k d S2 u β2 H2 (s1.trans s2) r2 q2⟩
    | false => exact k _ S1 _ β1 H1 s1 (.bl false) q1⟩
theorem de_or (ha : PE X a (tE X.K G ta)) (hb : PE X (.BoolOp .Or (b :: rest) pos) (tE X.K G tb)) : PE X (.BoolOp .Or (a :: b :: rest) pos) (tE X.K G (eOr ta tb)) :=
  (pe_or ha hb).imp fun σ H Q ⟨Y, β, S, ρ, Q', rl, q, k⟩ => ⟨Y, β, S, ρ, _, rl, q, fun x S1 v β1 H1 s1 r1 ⟨c, e, q1⟩ => by
    subst e
    cases r1
    refine ⟨c, rfl, ?_⟩
    cases c with
    | true => exact k _ S1 _ β1 H1 s1 (.bl true) q1
    | false => exact ⟨Y, β1, S1, ρ, Q', rl.step s1, q1, fun d S2 u β2 H2 s2 r2 q2 => k d S2 u β2 H2 (s1.trans s2) r2 q2⟩⟩
theorem de_not (ha : PE X a (tE X.K G ta)) : PE X (.UnaryOp .Not a pos) (tE X.K G (eNot ta)) :=
  (pe_not ha).imp fun σ H Q ⟨Y, β, S, ρ, Q', rl, q, k⟩ => ⟨Y, β, S, ρ, _, rl, q, fun x S1 v β1 H1 s1 r1 ⟨c, e, q1⟩ => by
    subst e
    cases r1
    exact ⟨c, rfl, k _ S1 _ β1 H1 s1 (.bl _) q1⟩⟩
def eIf (t : TB) (ta tb : TD) : TD := fun ρ S Q => t ρ S fun c S1 => if c = true then ta ρ S1 Q else tb ρ S1 Q
theorem de_if (hc : PT X c (tT X.K G tt)) (ha : PE X a (tE X.K G ta)) (hb : PE X b (tE X.K G tb)) : PE X (.IfExp c a b pos) (tE X.K G (eIf tt ta tb)) :=
  (pe_ifExp hc ha hb).imp fun σ H Q ⟨Y, β, S, ρ, Q', rl, q, k⟩ => ⟨Y, β, S, ρ, _, rl, q, fun c S1 β1 H1 s1 q1 => by
    cases c with
    | true => exact ⟨Y, β1, S1, ρ, Q', rl.step s1, q1, fun d S2 u β2 H2 s2 r2 q2 => k d S2 u β2 H2 (s1.trans s2) r2 q2⟩
    | false => exact ⟨Y, β1, S1, ρ, Q', rl.step s1, q1, fun d S2 u β2 H2 s2 r2 q2 => k d S2 u β2 H2 (s1.trans s2) r2 q2⟩⟩
def eUn (r : RD1) (t : TD) : TD := fun ρ S Q => t ρ S fun x S1 => r x S1 Q
theorem de_un {op : UnaryOp} {r : RD1} (ho : UnR X (unaryOp op) (l1 X.K G r)) (ha : PE X a (tE X.K G ta)) : PE X (.UnaryOp op a pos) (tE X.K G (eUn r ta)) :=
  (pe_un ho ha).imp fun σ H Q ⟨Y, β, S, ρ, Q', rl, q, k⟩ => ⟨Y, β, S, ρ, _, rl, q, fun x S1 v β1 H1 s1 r1 q1 =>
    ⟨Y, β1, S1, x, Q', s1.ok, r1, q1, fun z S3 w β3 H3 s3 r3 q3 => k z S3 w β3 H3 (s1.trans s3) r3 q3⟩⟩

/-! argument lists -/
def aNil : TLs := fun _ S Q => Q [] S
def aCons (ta : TD) (tr : TLs) : TLs := fun ρ S Q => ta ρ S fun x S1 => tr ρ S1 fun xs S2 => Q (x :: xs) S2
theorem da_nil : PA X [] (tA X.K G aNil) := pa_nil.imp fun σ H Q ⟨Y, β, S, ρ, Q', rl, q, k⟩ => k [] S [] β H (.refl rl.ok) .nil q
theorem da_cons (ha : PE X e (tE X.K G ta)) (hr : PA X es (tA X.K G tl)) (hs : starEach (e :: es) X.env = (false, eval e X.env) :: starEach es X.env := by rfl) : PA X (e :: es) (tA X.K G (aCons ta tl)) :=
  (pa_cons ha hr hs).imp fun σ H Q ⟨Y, β, S, ρ, Q', rl, q, k⟩ => ⟨Y, β, S, ρ, _, rl, q, fun x S1 v β1 H1 s1 r1 q1 =>
    ⟨Y, β1, S1, ρ, _, rl.step s1, q1, fun xs S2 vs β2 H2 s2 r2 q2 => k (x :: xs) S2 (v :: vs) β2 H2 (s1.trans s2) (.cons (s2.rep r1) r2) q2⟩⟩
/-- a call of a built-in -/
def eB (r : RDs) (tl : TLs) : TD := fun ρ S Q => tl ρ S fun xs S1 => r xs S1 Q
theorem b_lift {r : RDs} {σ : L2.St} {H : Hp} {Q : VK} (h : tE X.K G (eB r tl) σ H Q) : tCB (ls X.K G r) (tA X.K G tl) σ H Q := by
  obtain ⟨Y, β, S, ρ, Q', rl, q, k⟩ := h
  exact ⟨Y, β, S, ρ, _, rl, q, fun xs S1 vs β1 H1 s1 r1 q1 => ⟨Y, β1, S1, xs, Q', s1.ok, r1, q1, fun z S3 w β3 H3 s3 r3 q3 => k z S3 w β3 H3 (s1.trans s3) r3 q3⟩⟩

/-! displays -/
def eTup (tl : TLs) : TD := fun ρ S Q => tl ρ S fun xs S1 => xs.length ≤ sizeLine ∧ Q (.tup xs) S1
def eLst (tl : TLs) : TD := fun ρ S Q => tl ρ S fun xs S1 => xs.length ≤ sizeLine ∧ Q (.lst xs) S1
/-- a list that will be changed -/
def eLstM (tl : TLs) : TD := fun ρ S Q => tl ρ S fun xs S1 => xs.length ≤ sizeLine ∧ Q (.ref S1.length) (S1 ++ [some (.lst xs)])
theorem Ok.newTup {K : PySem.W.Frag} {Y β : List Addr} {S : Store} {H : Hp} (o : Ok K G Y β S H) {p : Addr} {vs : List V} {ds : List D} (hp : H p = none) (r : Reps K (hid Y β S H) β vs ds) : Rep K (hid Y β S (upd H p (.tup vs))) β (.ref p) (.tup ds) :=
  .tup (o.new_at _ hp) ((o.new _ hp).reps r)
theorem Ok.newLst {K : PySem.W.Frag} {Y β : List Addr} {S : Store} {H : Hp} (o : Ok K G Y β S H) {p : Addr} {vs : List V} {ds : List D} (hp : H p = none) (r : Reps K (hid Y β S H) β vs ds) : Rep K (hid Y β S (upd H p (.lst vs))) β (.ref p) (.lst ds) :=
  .lst (o.new_at _ hp) ((o.new _ hp).reps r)
theorem de_tup {x1} (h : PA X es (tA X.K G tl)) : PE X (.Tuple es x1 pos) (tE X.K G (eTup tl)) := (pe_tup h).imp fun σ H Q ⟨Y, β, S, ρ, Q', rl, q, k⟩ =>
  ⟨Y, β, S, ρ, _, rl, q, fun xs S1 vs β1 H1 s1 r1 ⟨hl, q1⟩ => ⟨by rw [r1.len]; exact hl, fun p hp => k _ S1 _ β1 _ (s1.trans (s1.ok.new _ hp)) (s1.ok.newTup hp r1) q1⟩⟩
theorem de_lst (h : PA X es (tA X.K G tl)) : PE X (.List es pos) (tE X.K G (eLst tl)) := (pe_lst h).imp fun σ H Q ⟨Y, β, S, ρ, Q', rl, q, k⟩ =>
  ⟨Y, β, S, ρ, _, rl, q, fun xs S1 vs β1 H1 s1 r1 ⟨hl, q1⟩ => ⟨by rw [r1.len]; exact hl, fun p hp => k _ S1 _ β1 _ (s1.trans (s1.ok.new _ hp)) (s1.ok.newLst hp r1) q1⟩⟩
theorem Ok.allocRep {K : PySem.W.Frag} {Y β : List Addr} {S : Store} {H H' : Hp} (o : Ok K G Y β S H) {p : Addr} {B : Hp} : Rep K B (β ++ [p]) (.ref p) (.ref S.length) :=
  .ref (by rw [← o.len, List.getElem?_append_right (Nat.le_refl _), Nat.sub_self]; rfl)
theorem de_lstM (h : PA X es (tA X.K G tl)) : PE X (.List es pos) (tE X.K G (eLstM tl)) := (pe_lst h).imp fun σ H Q ⟨Y, β, S, ρ, Q', rl, q, k⟩ =>
  ⟨Y, β, S, ρ, _, rl, q, fun xs S1 vs β1 H1 s1 r1 ⟨hl, q1⟩ => ⟨by rw [r1.len]; exact hl, fun p hp => k _ _ _ _ _ (s1.trans (s1.ok.alloc hp r1)) (s1.ok.allocRep (H' := H)) q1⟩⟩

/-! subscripts -/
theorem de_ix {r : RD2} (hr : IxR X (l2 X.K G r)) (ha : PE X a (tE X.K G ta)) (hb : PE X b (tE X.K G tb)) (hs : PlainIx b) : PE X (.Subscript a b pos) (tE X.K G (eOp r ta tb)) :=
  (pe_ix hr ha hb hs).imp fun _ _ _ h => op_lift h

/-! statements -/
structure DN where
  nx : Rho → Store → Prop
  rt : QD
  bk : Rho → Store → Prop := fun _ _ => False
  ct : Rho → Store → Prop := fun _ _ => False
abbrev TSd := DN → Rho → Store → Prop
structure Leads (K : PySem.W.Frag) (G : Gh) (Y β : List Addr) (S : Store) (H : Hp) (N : DN) (D' : Ends) : Prop where
  nx : ∀ ρ' S' σ' β' H', Step K G Y β S H β' S' H' → Rel K G Y β' S' ρ' σ' H' → N.nx ρ' S' → D'.nx σ' H'
  rt : ∀ d S' v β' H', Step K G Y β S H β' S' H' → Rep K (hid Y β' S' H') β' v d → N.rt d S' → D'.rt v H'
  bk : ∀ ρ' S' σ' β' H', Step K G Y β S H β' S' H' → Rel K G Y β' S' ρ' σ' H' → N.bk ρ' S' → D'.bk σ' H'
  ct : ∀ ρ' S' σ' β' H', Step K G Y β S H β' S' H' → Rel K G Y β' S' ρ' σ' H' → N.ct ρ' S' → D'.ct σ' H'
theorem Leads.step {K : PySem.W.Frag} {Y β β1 : List Addr} {S S1 : Store} {H H1 : Hp} {N : DN} {D' : Ends} (l : Leads K G Y β S H N D') (s : Step K G Y β S H β1 S1 H1) : Leads K G Y β1 S1 H1 N D' :=
  ⟨fun ρ' S' σ' β' H' s' => l.nx ρ' S' σ' β' H' (s.trans s'), fun d S' v β' H' s' => l.rt d S' v β' H' (s.trans s'), fun ρ' S' σ' β' H' s' => l.bk ρ' S' σ' β' H' (s.trans s'), fun ρ' S' σ' β' H' s' => l.ct ρ' S' σ' β' H' (s.trans s')⟩
def tS (K : PySem.W.Frag) (G : Gh) (t : TSd) : TS := fun D' σ H => ∃ Y β S ρ N, Rel K G Y β S ρ σ H ∧ t N ρ S ∧ Leads K G Y β S H N D'
variable {st : Stmt} {sts sts' : List Stmt} {su sv : TSd}
def sNil : TSd := fun N ρ S => N.nx ρ S
def sSeq (t u : TSd) : TSd := fun N ρ S => t { N with nx := u N } ρ S
theorem ds_nil : PSs X [] (tS X.K G sNil) := pss_nil.imp fun D' σ H ⟨Y, β, S, ρ, N, rl, q, l⟩ => l.nx ρ S σ β H (.refl rl.ok) rl q
theorem ds_one (h : PS X st (tS X.K G su)) : PSs X [st] (tS X.K G su) := pss_one h
theorem ds_cons (h : PS X st (tS X.K G su)) (h2 : PSs X sts (tS X.K G sv)) : PSs X (st :: sts) (tS X.K G (sSeq su sv)) := (pss_cons h h2).imp fun D' σ H ⟨Y, β, S, ρ, N, rl, q, l⟩ =>
  ⟨Y, β, S, ρ, { N with nx := sv N }, rl, q, ⟨fun ρ' S' σ' β' H' s' r' q' => ⟨Y, β', S', ρ', N, r', q', l.step s'⟩, l.rt, l.bk, l.ct⟩⟩
def sRet (t : TD) : TSd := fun N ρ S => t ρ S N.rt
theorem ds_ret (h : PE X e (tE X.K G ta)) : PS X (.Return (some e) pos) (tS X.K G (sRet ta)) := (ps_ret h).imp fun D' σ H ⟨Y, β, S, ρ, N, rl, q, l⟩ => ⟨Y, β, S, ρ, _, rl, q, l.rt⟩
/-- return of a list that was changed so far: a value from now on -/
def frzQ (Q : QD) : QD := fun d S => match d with
  | .ref n => ∃ ds, S[n]? = some (some (.lst ds)) ∧ Q (.lst ds) (S.set n none)
  | _ => False
def eFrz (t : TD) : TD := fun ρ S Q => t ρ S (frzQ Q)
theorem de_frz (h : PE X e (tE X.K G ta)) : PE X e (tE X.K G (eFrz ta)) := h.imp fun σ H Q ⟨Y, β, S, ρ, Q', rl, q, k⟩ => ⟨Y, β, S, ρ, _, rl, q, fun x S1 v β1 H1 s1 r1 q1 => by
  unfold frzQ at q1
  split at q1
  · rename_i n
    obtain ⟨ds, hs, q1⟩ := q1
    obtain ⟨s2, r2⟩ := s1.ok.frz hs
    cases r1 with
    | ref h => exact k _ _ _ _ _ (s1.trans s2) (r2 _ h) q1
  · exact q1.elim⟩
def sDrop (t : TD) : TSd := fun N ρ S => t ρ S fun _ S1 => N.nx ρ S1
theorem ds_expr (h : PE X e (tE X.K G ta)) (hs : swapsWith e none pos.line X.env = pure false := by rfl) : PS X (.Expr e pos) (tS X.K G (sDrop ta)) := (ps_expr h hs).imp fun D' σ H ⟨Y, β, S, ρ, N, rl, q, l⟩ =>
  ⟨Y, β, S, ρ, _, rl, q, fun d S' v β' H' s r q' => l.nx ρ S' σ β' H' s (rl.step s) q'⟩
def sIf (t : TB) (u v : TSd) : TSd := fun N ρ S => t ρ S fun c S1 => if c = true then u N ρ S1 else v N ρ S1
theorem ds_if (hc : PT X c (tT X.K G tt)) (ha : PSs X sts (tS X.K G su)) (hb : PSs X sts' (tS X.K G sv)) : PS X (.If c sts sts' pos) (tS X.K G (sIf tt su sv)) := (ps_if hc ha hb).imp fun D' σ H ⟨Y, β, S, ρ, N, rl, q, l⟩ =>
  ⟨Y, β, S, ρ, _, rl, q, fun c S1 β1 H1 s1 q1 => by
    cases c with
    | true => exact ⟨Y, β1, S1, ρ, N, rl.step s1, q1, l.step s1⟩
    | false => exact ⟨Y, β1, S1, ρ, N, rl.step s1, q1, l.step s1⟩⟩
/-! targets -/
inductive Tg where
  | nm (i : Nat) | tp (ts : List Tg)
mutual
def bindT : Tg → D → Rho → Option Rho
  | .nm i, d, ρ => some (ρ.set i (some d))
  | .tp ts, .tup ds, ρ => bindTs ts ds ρ
  | .tp _, _, _ => none
def bindTs : List Tg → List D → Rho → Option Rho
  | [], [], ρ => some ρ
  | t :: ts, d :: ds, ρ => (bindT t d ρ).bind (bindTs ts ds)
  | _, _, _ => none
end
mutual
def toG (K : PySem.W.Frag) : Tg → TG
  | .nm i => gName i
  | .tp ts => gTup K ts.length (toGs K ts)
def toGs (K : PySem.W.Frag) : List Tg → TGs
  | [] => gNil
  | t :: ts => gCons (toG K t) (toGs K ts)
end
mutual
def Tg.slots : Tg → List Nat
  | .nm i => [i]
  | .tp ts => slotss ts
def slotss : List Tg → List Nat
  | [] => []
  | t :: ts => t.slots ++ slotss ts
end
end
end NC

set_option Elab.async false
set_option linter.all false
set_option maxRecDepth 100000
set_option maxHeartbeats 1000000
/-! NC3: targets, what is walked, for, comprehensions, stores. -/
namespace NC
open PySem PySem.Spec PyProof.Rows L2
open Evl (Ex)

def wipeD (ρ : Rho) : List Nat → Rho
  | [] => ρ
  | v :: vs => (wipeD ρ vs).set v none
theorem wipeD_len (ρ : Rho) : ∀ vs : List Nat, (wipeD ρ vs).length = ρ.length
  | [] => rfl
  | v :: vs => by unfold wipeD; rw [List.length_set, wipeD_len ρ vs]
theorem wipeD_some {ρ : Rho} {i : Nat} {x : D} : ∀ {vs : List Nat}, (wipeD ρ vs)[i]? = some (some x) → ρ[i]? = some (some x) ∧ i ∉ vs
  | [], h => ⟨h, by simp⟩
  | v :: vs, h => by
    unfold wipeD at h
    by_cases hi : v = i
    · subst hi
      by_cases hv : v < (wipeD ρ vs).length
      · rw [List.getElem?_set_self hv] at h
        cases h
      · rw [List.getElem?_eq_none (by simpa using hv)] at h
        cases h
    · rw [List.getElem?_set_ne hi] at h
      obtain ⟨a, b⟩ := wipeD_some h
      exact ⟨a, by simp [Ne.symm hi, b]⟩
theorem wipe_keep {σ : L2.St} {i : Nat} {x : V} : ∀ {vs : List Nat}, i ∉ vs → σ[i]? = some (some x) → (wipe σ vs)[i]? = some (some x)
  | [], _, h => h
  | v :: vs, hn, h => by
    have h1 : v ≠ i := fun e => hn (by simp [e])
    unfold wipe
    rw [List.getElem?_set_ne h1]
    exact wipe_keep (fun e => hn (by simp [e])) h
theorem Rel.wipe {K : PySem.W.Frag} {X β : List Addr} {S : Store} {ρ : Rho} {σ : L2.St} {H : Hp} (r : Rel K G X β S ρ σ H) (vs : List Nat) : Rel K G X β S (wipeD ρ vs) (L2.wipe σ vs) H :=
  ⟨r.ok, by rw [wipeD_len, wipe_length]; exact r.len, fun i d h => by
    obtain ⟨h1, h2⟩ := wipeD_some h
    obtain ⟨v, e, q⟩ := r.get i d h1
    exact ⟨v, wipe_keep h2 e, q⟩⟩
theorem wipe_set {σ : L2.St} {j : Nat} {x : Option V} : ∀ {vs : List Nat}, j ∈ vs → L2.wipe (σ.set j x) vs = L2.wipe σ vs
  | v :: vs, h => by
    unfold L2.wipe
    by_cases e : j ∈ vs
    · rw [wipe_set e]
    · have e' : j = v := by
        rcases List.mem_cons.mp h with h | h
        · exact h
        · exact absurd h e
      subst e'
      clear h
      have : ∀ us : List Nat, j ∉ us → (L2.wipe (σ.set j x) us) = (L2.wipe σ us).set j x := by
        intro us
        induction us with
        | nil => intro _; rfl
        | cons u us ih =>
          intro hn
          have h1 : u ≠ j := fun e => hn (by simp [e])
          unfold L2.wipe
          rw [ih fun e => hn (by simp [e]), List.set_comm _ _ h1]
      rw [this vs e, List.set_set]
theorem wipe_wipe {σ : L2.St} {vs : List Nat} : ∀ {us : List Nat}, (∀ u ∈ us, u ∈ vs) → L2.wipe (L2.wipe σ us) vs = L2.wipe σ vs
  | [], _ => rfl
  | u :: us, h => by
    show L2.wipe ((L2.wipe σ us).set u none) vs = L2.wipe σ vs
    rw [wipe_set (h u (by simp)), wipe_wipe fun z hz => h z (by simp [hz])]

section
variable {K : PySem.W.Frag} {X β : List Addr} {S : Store} {H : Hp}
mutual
theorem bind_ok : ∀ {t : Tg} {d : D} {ρ ρ' : Rho} {σ : L2.St} {v : V}, bindT t d ρ = some ρ' → Rel K G X β S ρ σ H → Rep K (hid X β S H) β v d →
    ∃ σ', (∀ Q : L2.St → Hp → Prop, Q σ' H → toG K t v σ H Q) ∧ Rel K G X β S ρ' σ' H ∧ ∀ vs, (∀ i ∈ t.slots, i ∈ vs) → wipe σ' vs = wipe σ vs
  | .nm i, d, ρ, ρ', σ, v, h, r, q => by
    unfold bindT at h
    cases h
    refine ⟨σ.set i (some v), fun Q k => ?_, r.set q i, fun vs hv => wipe_set (hv i (by simp [Tg.slots]))⟩
    unfold toG
    exact k
  | .tp ts, d, ρ, ρ', σ, v, h, r, q => by
    cases d with
    | tup ds =>
      unfold bindT at h
      cases q with
      | tup h1 h2 =>
        rename_i a vs
        obtain ⟨σ', k, r', w, hl⟩ := binds_ok h r h2
        refine ⟨σ', fun Q hq => ?_, r', fun us hu => w us (by unfold Tg.slots at hu; exact hu)⟩
        unfold toG
        exact ⟨a, vs, rfl, .inl (.inl (hid_ex _ _ h1)), hl, k Q hq⟩
    | _ => unfold bindT at h; cases h
theorem binds_ok : ∀ {ts : List Tg} {ds : List D} {ρ ρ' : Rho} {σ : L2.St} {vs : List V}, bindTs ts ds ρ = some ρ' → Rel K G X β S ρ σ H → Reps K (hid X β S H) β vs ds →
    ∃ σ', (∀ Q : L2.St → Hp → Prop, Q σ' H → toGs K ts vs σ H Q) ∧ Rel K G X β S ρ' σ' H ∧ (∀ us, (∀ i ∈ slotss ts, i ∈ us) → wipe σ' us = wipe σ us) ∧ vs.length = ts.length
  | [], ds, ρ, ρ', σ, vs, h, r, q => by
    cases ds with
    | nil =>
      unfold bindTs at h
      cases h
      cases q
      refine ⟨σ, fun Q k => ?_, r, fun _ _ => rfl, rfl⟩
      unfold toGs
      exact ⟨rfl, k⟩
    | cons d ds => unfold bindTs at h; cases h
  | t :: ts, ds, ρ, ρ', σ, vs, h, r, q => by
    cases ds with
    | nil => unfold bindTs at h; cases h
    | cons d ds =>
      unfold bindTs at h
      obtain ⟨ρ1, h1, h2⟩ := Option.bind_eq_some_iff.mp h
      cases q with
      | cons q1 q2 =>
        rename_i v vs
        obtain ⟨σ1, k1, r1, w1⟩ := bind_ok h1 r q1
        obtain ⟨σ2, k2, r2, w2, hl⟩ := binds_ok h2 r1 q2
        refine ⟨σ2, fun Q k => ?_, r2, fun us hu => ?_, by simp [hl]⟩
        · unfold toGs
          exact ⟨v, vs, rfl, k1 _ (k2 Q k)⟩
        · unfold slotss at hu
          exact (w2 us fun i hi => hu i (List.mem_append_right _ hi)).trans (w1 us fun i hi => hu i (List.mem_append_left _ hi))
end
end

/-! ### what is walked -/
/-- a later world, perhaps with more that is hidden -/
structure Lat (K : PySem.W.Frag) (G : Gh) (Y β : List Addr) (S : Store) (H : Hp) (Z β' : List Addr) (S' : Store) (H' : Hp) : Prop where
  ok : Ok K G Z β' S' H'
  pre : Pre β β'
  ex : Ex (hid Y β S H) (hid Z β' S' H')
theorem Step.lat {K : PySem.W.Frag} {Y β : List Addr} {S : Store} {H : Hp} {β' : List Addr} {S' : Store} {H' : Hp} (s : Step K G Y β S H β' S' H') : Lat K G Y β S H Y β' S' H' := ⟨s.ok, s.pre, s.ex⟩
structure IterOk (K : PySem.W.Frag) (G : Gh) (Y β : List Addr) (S : Store) (H : Hp) (J : It) (items : List D) (stays : Store → Prop) : Prop where
  go : ∀ Z β' S' H', Lat K G Y β S H Z β' S' H' → stays S' → ∀ (i : Nat) (d : D), items[i]? = some d → J.go i H' ∧ ∀ x H'', J.yld i H' x H'' → Step K G Z β' S' H' β' S' H'' ∧ Rep K (hid Z β' S' H'') β' x d
  stop : ∀ Z β' S' H', Lat K G Y β S H Z β' S' H' → stays S' → J.stop items.length H'
abbrev TSr := Rho → Store → (List D → (Store → Prop) → Store → Prop) → Prop
def tI (K : PySem.W.Frag) (G : Gh) (ts : TSr) : TI := fun σ H R => ∃ Y β S ρ Q', Rel K G Y β S ρ σ H ∧ ts ρ S Q' ∧ ∀ items stays S' β' H' J, Step K G Y β S H β' S' H' → IterOk K G Y β' S' H' J items stays → Q' items stays S' → R J H'

theorem drf_back {S : Store} {n : Nat} {ds : List D} (h : drf S (.ref n) = .lst ds) : S[n]? = some (some (.lst ds)) := by
  simp only [drf] at h
  split at h
  · rename_i h2
    rw [h2]
    cases h
    rfl
  · cases h
def seqOf : D → Option (List D)
  | .lst xs => some xs
  | .tup xs => some xs
  | .ro xs => some xs
  | _ => none
/-- a list or tuple by its name in the world -/
theorem seq_at {K : PySem.W.Frag} {Y β : List Addr} {S : Store} {H : Hp} (o : Ok K G Y β S H) {v : V} {d : D} {xs : List D} (r : Rep K (hid Y β S H) β v d) (h : seqOf (drf S d) = some xs) :
    ∃ a vs, v = .ref a ∧ (SqL K H a vs ∨ SqT K H a vs) ∧ Reps K H β vs xs := by
  have r' := o.drf r
  generalize drf S d = e at h r'
  cases e with
  | lst ys =>
    cases h
    cases r' with
    | lst h1 h2 => exact ⟨_, _, rfl, .inl (.inl (.inl h1)), h2⟩
  | tup ys =>
    cases h
    cases r' with
    | tup h1 h2 => exact ⟨_, _, rfl, .inr (.inl (.inl h1)), h2⟩
  | ro ys =>
    cases h
    cases r' with
    | ro h1 h2 => exact ⟨_, _, rfl, .inl h1, h2⟩
  | _ => cases h
def sSq (t : TD) : TSr := fun ρ S Q => t ρ S fun x S1 => ∃ xs, seqOf (drf S1 x) = some xs ∧ Q xs (fun S' => drf S' x = drf S1 x) S1
/-- it stands in every later world -/
theorem seq_kind {K : PySem.W.Frag} {Y β : List Addr} {S : Store} {H : Hp} (o : Ok K G Y β S H) {v : V} {d : D} {xs : List D} (r : Rep K (hid Y β S H) β v d) (h : seqOf (drf S d) = some xs) :
    ∃ a, v = .ref a ∧ ((∃ vs, SqL K H a vs) ∧ IterOk K G Y β S H (Itl K a) xs (fun S' => drf S' d = drf S d) ∨ (∃ vs, SqT K H a vs) ∧ IterOk K G Y β S H (Itt K a) xs (fun S' => drf S' d = drf S d)) := by
  -- the items at a later world, in the hidden heap too
  have later : ∀ Z β' S' H', Lat K G Y β S H Z β' S' H' → drf S' d = drf S d → ∃ vs, Reps K (hid Z β' S' H') β' vs xs ∧
      (match drf S d with | .tup _ => ∀ a, v = .ref a → SqT K H' a vs | _ => ∀ a, v = .ref a → SqL K H' a vs) := by
    intro Z β' S' H' l e
    have r' := r.mono l.ex l.pre
    cases d with
    | ref n =>
      cases hs : S[n]? with
      | none => simp [drf, hs, seqOf] at h
      | some so =>
        cases so with
        | none => simp [drf, hs, seqOf] at h
        | some so =>
          cases so with
          | exc C es => simp [drf, hs, seqOf] at h
          | fn f o => simp [drf, hs, seqOf] at h
          | lst ds =>
            have h1 : drf S (.ref n) = .lst ds := by simp [drf, hs]
            have hds : ds = xs := by
              rw [h1] at h
              exact Option.some.inj h
            subst hds
            rw [h1] at e
            have hs' : S'[n]? = some (some (.lst ds)) := by
              exact drf_back e
            obtain ⟨b, e1, vs, e2, e3⟩ := l.ok.obj n _ hs'
            cases r' with
            | ref hb =>
              rw [e1] at hb
              cases hb
              refine ⟨vs, e3, ?_⟩
              rw [h1]
              exact fun a ea => by cases ea; exact .inl (.inl e2)
    | lst ys =>
      cases h
      cases r' with
      | lst h1 h2 => exact ⟨_, h2, fun a ea => by cases ea; exact .inl (.inl (hid_ex _ _ h1))⟩
    | tup ys =>
      cases h
      cases r' with
      | tup h1 h2 => exact ⟨_, h2, fun a ea => by cases ea; exact .inl (.inl (hid_ex _ _ h1))⟩
    | ro ys =>
      cases h
      cases r' with
      | ro h1 h2 => exact ⟨_, h2, fun a ea => by cases ea; exact Evl.ex_l hid_ex h1⟩
    | _ => simp [drf, seqOf] at h
  have l0 : Lat K G Y β S H Y β S H := ⟨o, .refl _, Ex.refl _⟩
  obtain ⟨a, vs0, ev, hk, hr⟩ := seq_at o r h
  refine ⟨a, ev, ?_⟩
  by_cases ht : ∃ ys, drf S d = .tup ys
  · obtain ⟨ys, ht⟩ := ht
    refine .inr ⟨?_, ⟨fun Z β' S' H' l st i x hx => ?_, fun Z β' S' H' l st => ?_⟩⟩
    · obtain ⟨vs, _, q⟩ := later _ _ _ _ l0 rfl
      rw [ht] at q
      exact ⟨vs, q a ev⟩
    · obtain ⟨vs, q0, q⟩ := later _ _ _ _ l st
      rw [ht] at q
      obtain ⟨w, e1, e2⟩ := q0.get hx
      refine ⟨⟨vs, w, q a ev, e1⟩, fun y H'' hy => ?_⟩
      obtain ⟨rfl, hy⟩ := hy
      have := hy vs (q a ev)
      rw [e1] at this
      cases this
      exact ⟨.refl l.ok, e2⟩
    · obtain ⟨vs, q0, q⟩ := later _ _ _ _ l st
      rw [ht] at q
      exact ⟨vs, q a ev, by rw [q0.len]; exact Nat.le_refl _⟩
  · refine .inl ⟨?_, ⟨fun Z β' S' H' l st i x hx => ?_, fun Z β' S' H' l st => ?_⟩⟩
    · obtain ⟨vs, _, q⟩ := later _ _ _ _ l0 rfl
      split at q
      · rename_i ys e
        exact (ht ⟨ys, e⟩).elim
      · exact ⟨vs, q a ev⟩
    · obtain ⟨vs, q0, q⟩ := later _ _ _ _ l st
      split at q
      · rename_i ys e
        exact (ht ⟨ys, e⟩).elim
      · obtain ⟨w, e1, e2⟩ := q0.get hx
        refine ⟨⟨vs, w, q a ev, e1⟩, fun y H'' hy => ?_⟩
        obtain ⟨rfl, hy⟩ := hy
        have := hy vs (q a ev)
        rw [e1] at this
        cases this
        exact ⟨.refl l.ok, e2⟩
    · obtain ⟨vs, q0, q⟩ := later _ _ _ _ l st
      split at q
      · rename_i ys e
        exact (ht ⟨ys, e⟩).elim
      · exact ⟨vs, q a ev, by rw [q0.len]; exact Nat.le_refl _⟩
section
variable {X : Cx} {e tg : Expr} {ta : TD} {pos : Pos}
/-- a list or a tuple, whichever comes -/
theorem di_seq (h : PE X e (tE X.K G ta)) : PI X tg e (tI X.K G (sSq ta)) := by
  refine ⟨fun pins s σ H R I q => ?_⟩
  obtain ⟨Y, β, S, ρ, Q', rl, q, k⟩ := q
  refine thn (h.run pins s σ H (fun v H1 => ∃ a, v = .ref a ∧ ((∃ vs, SqL X.K H1 a vs) ∧ R (Itl X.K a) H1 ∨ (∃ vs, SqT X.K H1 a vs) ∧ R (Itt X.K a) H1)) I
    ⟨Y, β, S, ρ, _, rl, q, fun d S1 v β1 H1 s1 r1 ⟨xs, hx, q1⟩ => ?_⟩) fun v s1 ⟨x, H1, I1, r1, a, ea, q1⟩ => ?_
  · obtain ⟨a, ea, hk⟩ := seq_kind s1.ok r1 hx
    refine ⟨a, ea, ?_⟩
    rcases hk with ⟨h1, h2⟩ | ⟨h1, h2⟩
    · exact .inl ⟨h1, k _ _ _ _ _ _ s1 h2 q1⟩
    · exact .inr ⟨h1, k _ _ _ _ _ _ s1 h2 q1⟩
  · subst ea
    cases r1
    have fresh : ∀ b ∈ [s1.heap.objs.size], FpOk X pins H1 b := fun b hb => by
      have eb : b = s1.heap.objs.size := by simpa using hb
      rw [eb]
      exact I1.fpOk (Nat.le_refl _) (I1.hok.fresh (Nat.le_refl _))
    rcases q1 with ⟨⟨vs, hq⟩, q1⟩ | ⟨⟨vs, hq⟩, q1⟩
    · obtain ⟨us, ru, pl, _⟩ := I1.list hq
      exact wpAny_pyIter_list pl.isList ⟨_, _, _, _, H1, rfl, I1.kept (t' := s1.toks) fun b o z => Heap.get?_push_of_some _ z, turn_list a _, ⟨_, Heap.get?_push_size _ rfl, rfl, rfl⟩, fresh, q1⟩
    · obtain ⟨us, ru, pl, _⟩ := I1.tuple hq
      exact wpAny_pyIter_tuple (show s1.heap.IsTuple a us.toArray from pl) ⟨_, _, _, _, H1, rfl, I1.kept (t' := s1.toks) fun b o z => Heap.get?_push_of_some _ z, turn_tuple a _, ⟨_, Heap.get?_push_size _ rfl, rfl, rfl⟩, fresh, q1⟩
/-- a range of ints -/
def rangeD (lo hi : Int) : List D := (List.range (hi - lo).toNat).map fun i => .int (lo + (i : Nat))
theorem range_iter {K : PySem.W.Frag} {Y β : List Addr} {S : Store} {H : Hp} (lo : Int) (n : Nat) : IterOk K G Y β S H (Itr lo n) ((List.range n).map fun i => .int (lo + (i : Nat))) fun _ => True :=
  ⟨fun Z β' S' H' l _ i d hd => by
    rw [List.getElem?_map] at hd
    obtain ⟨j, hj, ed⟩ := Option.map_eq_some_iff.mp hd
    have hi : i < n := by
      have := (List.getElem?_eq_some_iff.mp hj).1
      simpa using this
    have ej : j = i := by
      have := (List.getElem?_eq_some_iff.mp hj).2
      simpa using this.symm
    subst ej
    refine ⟨hi, fun x H'' hx => ?_⟩
    obtain ⟨rfl, rfl⟩ := hx
    subst ed
    exact ⟨.refl l.ok, .int _⟩, fun Z β' S' H' l _ => by show n ≤ _; simp⟩
def sRange1 (tl : TLs) : TSr := fun ρ S Q => tl ρ S fun xs S1 => ∃ n : Int, xs = [.int n] ∧ -(2 ^ 62) ≤ n ∧ n < 2 ^ 62 ∧ Q (rangeD 0 n) (fun _ => True) S1
def sRange2 (tl : TLs) : TSr := fun ρ S Q => tl ρ S fun xs S1 => ∃ m n : Int, xs = [.int m, .int n] ∧ (-(2 ^ 62) ≤ m ∧ m < 2 ^ 62 ∧ -(2 ^ 62) ≤ n ∧ n < 2 ^ 62) ∧ Q (rangeD m n) (fun _ => True) S1
theorem _root_.L2.PI.imp {t t' : TI} (h : PI X tg e t) (i : ∀ σ H R, t' σ H R → t σ H R) : PI X tg e t' := ⟨fun pins s σ H R I q => h.run pins s σ H R I (i σ H R q)⟩
theorem Reps.one {K : PySem.W.Frag} {B : Hp} {β : List Addr} {vs : List V} {d : D} (h : Reps K B β vs [d]) : ∃ v, vs = [v] ∧ Rep K B β v d := by
  cases h with
  | cons h1 h2 =>
    cases h2
    exact ⟨_, rfl, h1⟩
theorem Reps.two {K : PySem.W.Frag} {B : Hp} {β : List Addr} {vs : List V} {d d2 : D} (h : Reps K B β vs [d, d2]) : ∃ v v2, vs = [v, v2] ∧ Rep K B β v d ∧ Rep K B β v2 d2 := by
  cases h with
  | cons h1 h2 =>
    obtain ⟨v2, rfl, h3⟩ := h2.one
    exact ⟨_, _, rfl, h1, h3⟩
variable {a b : Expr} {tl : TLs} {p : Pos}
theorem di_range1 (hg : Gl X "range") (hm : X.mg "range" = none) (ha : PA X [a] (tA X.K G tl)) (hs : starEach [a] X.env = [(false, eval a X.env)] := by rfl) : PI X tg (.Call (.Name "range" p) [a] [] pos) (tI X.K G (sRange1 tl)) :=
  (pi_range1 hg hm ha hs).imp fun σ H R ⟨Y, β, S, ρ, Q', rl, q, k⟩ => ⟨Y, β, S, ρ, _, rl, q, fun xs S1 vs β1 H1 s1 r1 ⟨n, ex, h1, h2, q1⟩ => by
    subst ex
    obtain ⟨v, rfl, r⟩ := r1.one
    cases r
    refine ⟨n, rfl, h1, h2, k _ _ _ _ _ _ s1 (range_iter 0 n.toNat) ?_⟩
    unfold rangeD at q1
    rwa [show (n - 0).toNat = n.toNat by omega] at q1⟩
theorem di_range2 (hg : Gl X "range") (hm : X.mg "range" = none) (ha : PA X [a, b] (tA X.K G tl)) (hs : starEach [a, b] X.env = [(false, eval a X.env), (false, eval b X.env)] := by rfl) (hs2 : starEach [b] X.env = [(false, eval b X.env)] := by rfl) :
    PI X tg (.Call (.Name "range" p) [a, b] [] pos) (tI X.K G (sRange2 tl)) :=
  (pi_range2 hg hm ha hs hs2).imp fun σ H R ⟨Y, β, S, ρ, Q', rl, q, k⟩ => ⟨Y, β, S, ρ, _, rl, q, fun xs S1 vs β1 H1 s1 r1 ⟨m, n, ex, h1, q1⟩ => by
    subst ex
    obtain ⟨v, v2, rfl, r, r'⟩ := r1.two
    cases r
    cases r'
    exact ⟨m, n, rfl, h1, k _ _ _ _ _ _ s1 (range_iter m (n - m).toNat) q1⟩⟩
end

/-! ### for -/
def sFor (ts : TSr) (t : Tg) (tb : TSd) : TSd := fun N ρ S => ts ρ S fun items stays S1 => ∃ I : Nat → Rho → Store → Prop, I 0 ρ S1 ∧ (∀ i ρ' S', I i ρ' S' → stays S') ∧
  (∀ i d ρ' S', items[i]? = some d → I i ρ' S' → ∃ ρ'', bindT t d ρ' = some ρ'' ∧ tb { N with nx := I (i + 1), ct := I (i + 1), bk := N.nx } ρ'' S') ∧ ∀ ρ' S', I items.length ρ' S' → N.nx ρ' S'
section
variable {X : Cx} {iter tg : Expr} {pos : Pos} {body : List Stmt} {ts : TSr} {t : Tg} {tb : TSd}
theorem ds_for (hp : PassesOwn (model X.prog X.w) X.A X.env X.xe) (hc : X.calm = true) (hi : PI X tg iter (tI X.K G ts)) (hg : PG X tg (toG X.K t)) (hb : PSs X body (tS X.K G tb))
    (hs : ∀ x, foldedSetIterable iter X.env x = pure x := by intro _; rfl) : PS X (.For tg iter body [] pos) (tS X.K G (sFor ts t tb)) := by
  refine (ps_for hp hc hi hg hb hs).imp fun D' σ H ⟨Y, β, S, ρ, N, rl, q, l⟩ => ⟨Y, β, S, ρ, _, rl, q, fun items stays S1 β1 H1 J s1 io ⟨I, i0, ist, istep, iend⟩ => ?_⟩
  refine ⟨fun i m σ' H' => m = items.length - i ∧ i ≤ items.length ∧ ∃ β' S' ρ', Step X.K G Y β1 S1 H1 β' S' H' ∧ Rel X.K G Y β' S' ρ' σ' H' ∧ I i ρ' S', ⟨items.length, by simp, Nat.zero_le _, β1, S1, ρ, .refl s1.ok, rl.step s1, i0⟩, ?_⟩
  rintro i m σ' H' ⟨rfl, hi', β', S', ρ', st, r', inv⟩
  by_cases hlt : i < items.length
  · have hx : items[i]? = some items[i] := List.getElem?_eq_getElem hlt
    obtain ⟨g1, g2⟩ := io.go _ _ _ _ st.lat (ist _ _ _ inv) i _ hx
    refine .inr ⟨g1, fun σ3 H3 => ∃ β3 S3 ρ3, Step _ _ Y β1 S1 H1 β3 S3 H3 ∧ Rel _ _ Y β3 S3 ρ3 σ3 H3 ∧ I (i + 1) ρ3 S3, fun σ3 H3 ⟨β3, S3, ρ3, a1, a2, a3⟩ => ⟨items.length - (i + 1), by omega, rfl, hlt, β3, S3, ρ3, a1, a2, a3⟩, fun x H'' hy => ?_⟩
    obtain ⟨s2, rx⟩ := g2 x H'' hy
    obtain ⟨ρ2, hb2, hbody⟩ := istep i _ ρ' S' hx inv
    obtain ⟨σ2, hset, r2, _⟩ := bind_ok hb2 (r'.step s2) rx
    refine hset _ ⟨Y, β', S', ρ2, _, r2, hbody, ?_⟩
    have s3 := st.trans s2
    exact ⟨fun ρ4 S4 σ4 β4 H4 s4 r4 q4 => ⟨β4, S4, ρ4, s3.trans s4, r4, q4⟩, fun d S4 v β4 H4 s4 => l.rt d S4 v β4 H4 ((s1.trans s3).trans s4),
      fun ρ4 S4 σ4 β4 H4 s4 r4 q4 => l.nx ρ4 S4 σ4 β4 H4 ((s1.trans s3).trans s4) r4 q4, fun ρ4 S4 σ4 β4 H4 s4 r4 q4 => ⟨β4, S4, ρ4, s3.trans s4, r4, q4⟩⟩
  · have e : i = items.length := by omega
    subst e
    exact .inl ⟨io.stop _ _ _ _ st.lat (ist _ _ _ inv), l.nx ρ' S' σ' β' H' (s1.trans st) r' (iend ρ' S' inv)⟩
end
end NC

set_option Elab.async false
set_option linter.all false
set_option maxRecDepth 100000
set_option maxHeartbeats 1000000
/-! NC4: comprehensions, stores, methods, defs. -/
namespace NC
open PySem PySem.Spec PyProof.Rows L2
open Evl (Ex)

section
variable {K : PySem.W.Frag} {Y β : List Addr} {S : Store} {H : Hp} {a : Addr}
theorem hid_more : hid (a :: Y) β S H = fun b => if b = a then none else hid Y β S H b := by
  funext b
  unfold hid
  by_cases h : b = a
  · rw [if_pos h, if_pos (.inl (by simp [h]))]
  · rw [if_neg h]
    have e : (b ∈ a :: Y ∨ ∃ (n : Nat) (o : SO), β[n]? = some b ∧ S[n]? = some (some o)) ↔ (b ∈ Y ∨ ∃ (n : Nat) (o : SO), β[n]? = some b ∧ S[n]? = some (some o)) := by simp [h]
    by_cases q : b ∈ Y ∨ ∃ (n : Nat) (o : SO), β[n]? = some b ∧ S[n]? = some (some o)
    · rw [if_pos q, if_pos (e.mpr q)]
    · rw [if_neg q, if_neg fun z => q (e.mp z)]
theorem hid_upd {o : HO} : hid (a :: Y) β S (upd H a o) = hid (a :: Y) β S H := by
  rw [hid_more, hid_more]
  funext b
  by_cases h : b = a
  · rw [if_pos h, if_pos h]
  · rw [if_neg h, if_neg h]
    unfold hid
    rw [upd_ne h]
theorem Ok.unseen (o : Ok K G Y β S H) (hp : H a = none) : ∀ w, w ∈ G.w → a ∉ w.Y := fun w hw hm => o.xtrk a ((o.gh w hw).ext a hm).1 hp
theorem Ok.touch (o : Ok K G (a :: Y) β S H) (hg : ∀ w, w ∈ G.w → a ∉ w.Y) {u : HO} (hu : H a = some u ∧ (∀ ps, u ≠ .tbl ps) ∧ ∀ c q, u ≠ LamX.CodeO c q) (ob : HO) : Ok K G (a :: Y) β S (upd H a ob) := by
  have tr : ∀ b, H b ≠ none → upd H a ob b ≠ none := fun b h => by
    by_cases e : b = a
    · subst e
      rw [upd_same]
      simp
    · rw [upd_ne e]
      exact h
  refine ⟨o.len, o.nd, o.out, fun b hb => tr b (o.trk b hb), fun b hb => tr b (o.xtrk b hb), fun n so e => ?_, fun w hw => ?_, o.tb.upd (.inr hu)⟩
  rotate_left
  · have z := o.gh w hw
    exact ⟨z.pre, by rw [hid_upd]; exact z.ex, fun b hb => ⟨(z.ext b hb).1, (z.ext b hb).2.trans (.inl (upd_ne (show b ≠ a from fun e => hg w hw (e ▸ hb))))⟩, fun b h => tr b (z.trk b h)⟩
  obtain ⟨b, e1, r⟩ := o.obj n so e
  refine ⟨b, e1, ?_⟩
  rw [hid_upd]
  refine r.keep (Ex.refl _) (.refl _) fun _ => upd_ne fun e2 => ?_
  exact o.out b (List.mem_of_getElem? e1) (by simp [e2])
theorem Ok.open (o : Ok K G Y β S H) (hp : H a = none) (ob : HO) : Ok K G (a :: Y) β S (upd H a ob) ∧ Ex (hid Y β S H) (hid (a :: Y) β S (upd H a ob)) := by
  have ne : ∀ b, H b ≠ none → b ≠ a := fun b h e => h (e ▸ hp)
  have ex : Ex (hid Y β S H) (hid (a :: Y) β S (upd H a ob)) := fun b u h => by
    have hb : b ≠ a := ne b (by rw [hid_ex b u h]; simp)
    rw [hid_upd, hid_more]
    show (if b = a then none else hid Y β S H b) = some u
    rw [if_neg hb]
    exact h
  refine ⟨⟨o.len, o.nd, fun b hb hm => ?_, fun b hb => ?_, fun b hb => ?_, fun n so e => ?_, fun w hw => ?_, ⟨(o.tb.upd (o := .tup []) (.inl hp)).tabs, fun p hp => List.mem_cons_of_mem _ (o.tb.hid p hp)⟩⟩, ex⟩
  rotate_right
  · have z := o.gh w hw
    refine ⟨z.pre, z.ex.trans ex, fun b hb => ⟨List.mem_cons_of_mem _ (z.ext b hb).1, (z.ext b hb).2.trans (.inl (upd_ne (show b ≠ a from fun e => o.unseen hp w hw (e ▸ hb))))⟩, fun b h => ?_⟩
    rw [upd_ne (ne b (z.trk b h))]
    exact z.trk b h
  · rcases List.mem_cons.mp hm with h | h
    · exact ne b (o.trk b hb) h
    · exact o.out b hb h
  · rw [upd_ne (ne b (o.trk b hb))]
    exact o.trk b hb
  · rcases List.mem_cons.mp hb with h | h
    · rw [h, upd_same]
      simp
    · rw [upd_ne (ne b (o.xtrk b h))]
      exact o.xtrk b h
  · obtain ⟨b, e1, r⟩ := o.obj n so e
    exact ⟨b, e1, r.keep ex (.refl _) fun h => upd_ne (ne b h)⟩
theorem Ok.noTab (o : Ok K G Y β S H) {u : HO} (hu : H a = some u) (n : ∀ ps, u ≠ .tbl ps) : ∀ p ∈ G.T, p.1 ≠ a := fun p hp e => by
  obtain ⟨ps, h1, _⟩ := o.tb.tabs p hp
  rw [e, hu] at h1
  exact n ps (Option.some.inj h1)
theorem Ok.close (o : Ok K G (a :: Y) β S H) (hg : ∀ w, w ∈ G.w → a ∉ w.Y) {u : HO} (hu : H a = some u) (hn : ∀ ps, u ≠ .tbl ps) : Ok K G Y β S H ∧ Ex (hid (a :: Y) β S H) (hid Y β S H) := by
  have ex : Ex (hid (a :: Y) β S H) (hid Y β S H) := fun b u h => by
    rw [hid_more] at h
    have h' : (if b = a then none else hid Y β S H b) = some u := h
    by_cases e : b = a
    · rw [if_pos e] at h'
      cases h'
    · rwa [if_neg e] at h'
  refine ⟨⟨o.len, o.nd, fun b hb hm => o.out b hb (by simp [hm]), o.trk, fun b hb => o.xtrk b (by simp [hb]), fun n so e => ?_, fun w hw => ?_, ⟨o.tb.tabs, fun p hp => (List.mem_cons.mp (o.tb.hid p hp)).elim (fun e => (o.noTab hu hn p hp e).elim) id⟩⟩, ex⟩
  rotate_left
  · have z := o.gh w hw
    refine ⟨z.pre, z.ex.trans ex, fun b hb => ⟨?_, (z.ext b hb).2⟩, z.trk⟩
    rcases List.mem_cons.mp (z.ext b hb).1 with e | e
    · exact (hg w hw (e ▸ hb)).elim
    · exact e
  obtain ⟨b, e1, r⟩ := o.obj n so e
  exact ⟨b, e1, r.keep ex (.refl _) fun _ => rfl⟩
/-- a hidden list is taken into the store -/
theorem Ok.adopt (o : Ok K G (a :: Y) β S H) (hg : ∀ w, w ∈ G.w → a ∉ w.Y) (hY : a ∉ Y) {vs : List V} {ds : List D} (h : H a = some (.lst vs)) (r : Reps K (hid (a :: Y) β S H) β vs ds) :
    Ok K G Y (β ++ [a]) (S ++ [some (.lst ds)]) H ∧ Ex (hid (a :: Y) β S H) (hid Y (β ++ [a]) (S ++ [some (.lst ds)]) H) := by
  have hb : a ∉ β := fun hm => o.out a hm (by simp)
  have ex : Ex (hid (a :: Y) β S H) (hid Y (β ++ [a]) (S ++ [some (.lst ds)]) H) := fun b u h => by
    unfold hid at h ⊢
    split at h
    · cases h
    · rename_i hn
      rw [if_neg]
      · exact h
      · rintro (h' | ⟨m, o', e1, e2⟩)
        · exact hn (.inl (by simp [h']))
        · by_cases hm : m < β.length
          · rw [List.getElem?_append_left hm] at e1
            rw [List.getElem?_append_left (by rw [← o.len]; exact hm)] at e2
            exact hn (.inr ⟨m, o', e1, e2⟩)
          · rw [List.getElem?_append_right (by omega)] at e1
            have e3 : b = a := by
              have := List.mem_of_getElem? e1
              simpa using this
            exact hn (.inl (by simp [e3]))
  have pre : Pre β (β ++ [a]) := ⟨[a], rfl⟩
  refine ⟨⟨by simp [o.len], ?_, fun b hm => ?_, fun b hm => ?_, fun b hb => o.xtrk b (by simp [hb]), fun m o' e => ?_, fun w hw => ?_, ⟨o.tb.tabs, fun p hp => (List.mem_cons.mp (o.tb.hid p hp)).elim (fun e => (o.noTab h (fun _ z => (by cases z)) p hp e).elim) id⟩⟩, ex⟩
  rotate_right
  · have z := o.gh w hw
    refine ⟨z.pre.trans pre, z.ex.trans ex, fun b hb => ⟨?_, (z.ext b hb).2⟩, z.trk⟩
    rcases List.mem_cons.mp (z.ext b hb).1 with e | e
    · exact (hg w hw (e ▸ hb)).elim
    · exact e
  · rw [List.nodup_append]
    refine ⟨o.nd, by simp, fun b hb' c hc => ?_⟩
    have e3 : c = a := by simpa using hc
    rw [e3]
    intro e4
    exact hb (e4 ▸ hb')
  · rcases List.mem_append.mp hm with h' | h'
    · exact fun q => o.out b h' (by simp [q])
    · have e3 : b = a := by simpa using h'
      rw [e3]
      exact hY
  · rcases List.mem_append.mp hm with h' | h'
    · exact o.trk b h'
    · have e3 : b = a := by simpa using h'
      rw [e3, h]
      simp
  · by_cases hm : m < S.length
    · rw [List.getElem?_append_left hm] at e
      obtain ⟨b, e1, r'⟩ := o.obj m o' e
      exact ⟨b, pre.get e1, r'.keep ex pre fun _ => rfl⟩
    · rw [List.getElem?_append_right (by omega)] at e
      have hm' : m - S.length = 0 := by
        have := (List.getElem?_eq_some_iff.mp e).1
        simp at this
        omega
      rw [hm'] at e
      cases e
      refine ⟨a, ?_, vs, h, r.mono ex pre⟩
      rw [List.getElem?_append_right (by rw [o.len]; omega), o.len, hm']
      rfl
end

/-! ### list comprehensions -/
/-- what the turns of a comprehension come to -/
def lcW (ts : TSr) (t : Tg) (tt : TB) (te : TD) (vs : List Nat) (ρ : Rho) (S : Store) (R : List D → Store → Prop) : Prop := ts ρ S fun items stays S1 => ∃ I : Nat → List D → Store → Prop, I 0 [] S1 ∧ (∀ i acc S', I i acc S' → stays S') ∧ items.length ≤ sizeLine ∧
  (∀ i d acc S', items[i]? = some d → I i acc S' → ∃ ρ2, bindT t d (wipeD ρ vs) = some ρ2 ∧ tt ρ2 S' fun b S2 => if b = true then te ρ2 S2 fun y S3 => I (i + 1) (acc ++ [y]) S3 else I (i + 1) acc S2) ∧ ∀ acc S', I items.length acc S' → R acc S'
def eLc (ts : TSr) (t : Tg) (tt : TB) (te : TD) (vs : List Nat) : TD := fun ρ S Q => lcW ts t tt te vs ρ S fun acc S' => Q (.lst acc) S'
def eLcM (ts : TSr) (t : Tg) (tt : TB) (te : TD) (vs : List Nat) : TD := fun ρ S Q => lcW ts t tt te vs ρ S fun acc S' => Q (.ref S'.length) (S' ++ [some (.lst acc)])
def bYes : TB := fun _ S Q => Q true S
section
variable {K : PySem.W.Frag}
theorem lc_core' {ts : TSr} {t : Tg} {tt : TB} {te : TD} {vs : List Nat} {σ : L2.St} {H : Hp} {Q : VK} {Y β : List Addr} {S : Store} {ρ : Rho} {R : List D → Store → Prop} (hv : ∀ i ∈ t.slots, i ∈ vs) (rl : Rel K G Y β S ρ σ H) (h : lcW ts t tt te vs ρ S R)
    (k : ∀ (acc : List D) (S' : Store) (us : List V) (p : Addr) (β' : List Addr) (H' : Hp), Ok K G (p :: Y) β' S' H' → Pre β β' → Ex (hid Y β S H) (hid (p :: Y) β' S' H') → (∀ a ∈ Y, Kept H H' a) → (∀ a, H a ≠ none → H' a ≠ none) → p ∉ Y → (∀ w, w ∈ G.w → p ∉ w.Y) →
      H' p = some (.lst us) → Reps K (hid (p :: Y) β' S' H') β' us acc → R acc S' → Q (.ref p) H') :
    tLc (tI K G ts) (toG K t) (tT K G tt) (tE K G te) vs σ H Q := by
  refine ⟨Y, β, S, ρ, _, rl, h, fun items stays S1 β1 H1 J s1 io ⟨I, i0, ist, hlen, istep, iend⟩ => fun p hp => ?_⟩
  have hpY : p ∉ Y := fun hm => s1.ok.xtrk p hm hp
  obtain ⟨ok0, ex0⟩ := s1.ok.open hp (.lst [])
  have hgp := s1.ok.unseen hp
  have ne1 : ∀ b, H1 b ≠ none → b ≠ p := fun b h e => h (e ▸ hp)
  refine ⟨fun i m H' => m = items.length - i ∧ i ≤ items.length ∧ ∃ β' S' acc us, Lat K G Y β1 S1 H1 (p :: Y) β' S' H' ∧ (∀ a ∈ Y, Kept H1 H' a) ∧ (∀ a, H1 a ≠ none → H' a ≠ none) ∧ H' p = some (.lst us) ∧ Reps K (hid (p :: Y) β' S' H') β' us acc ∧ acc.length ≤ i ∧ I i acc S',
    ⟨items.length, by simp, Nat.zero_le _, β1, S1, [], [], ⟨ok0, .refl _, ex0⟩, fun a ha => .inl (upd_ne (ne1 a (s1.ok.xtrk a ha))), fun a ha => by rw [upd_ne (ne1 a ha)]; exact ha, upd_same, .nil, Nat.zero_le _, i0⟩, ?_⟩
  rintro i m H' ⟨rfl, hi, β', S', acc, us, lt, hx, htr, hpv, rp, hal, inv⟩
  by_cases hlt : i < items.length
  · have hit : items[i]? = some items[i] := List.getElem?_eq_getElem hlt
    obtain ⟨g1, g2⟩ := io.go _ _ _ _ lt (ist _ _ _ inv) i _ hit
    refine .inr ⟨g1, fun H3 => ∃ β' S' acc us, Lat K G Y β1 S1 H1 (p :: Y) β' S' H3 ∧ (∀ a ∈ Y, Kept H1 H3 a) ∧ (∀ a, H1 a ≠ none → H3 a ≠ none) ∧ H3 p = some (.lst us) ∧ Reps K (hid (p :: Y) β' S' H3) β' us acc ∧ acc.length ≤ i + 1 ∧ I (i + 1) acc S',
      fun H3 h3 => ⟨items.length - (i + 1), by omega, rfl, hlt, h3⟩, fun x H2 hy => ?_⟩
    obtain ⟨s2, rx⟩ := g2 x H2 hy
    obtain ⟨ρ2, hb2, hbody⟩ := istep i _ acc S' hit inv
    -- the frame's values, at this turn
    have rl1 : Rel K G (p :: Y) β' S' ρ σ H2 := ⟨s2.ok, rl.len, fun j d e => let ⟨v, e1, q⟩ := rl.get j d e; ⟨v, e1, (((s1.rep q).mono lt.ex lt.pre)).mono s2.ex s2.pre⟩⟩
    obtain ⟨σ2, hset, r2, hw⟩ := bind_ok hb2 (rl1.wipe vs) rx
    refine hset _ ⟨?_, p :: Y, β', S', ρ2, _, r2, hbody, fun b S3 β3 H3 s3 q3 => ?_⟩
    · rw [hw vs hv, wipe_wipe fun u hu => hu]
    · have s23 := s2.trans s3
      have hp3 : ∀ {β4 : List Addr} {S4 : Store} {H4 : Hp}, Step K G (p :: Y) β' S' H' β4 S4 H4 → H4 p = some (.lst us) := fun s4 => (s4.ext p (by simp)).at hpv fun _ z => (by cases z)
      cases b with
      | true =>
        refine ⟨p :: Y, β3, S3, ρ2, _, r2.step s3, q3, fun y S4 v β4 H4 s4 r4 q4 => ?_⟩
        have s24 := s23.trans s4
        refine ⟨us, hp3 s24, by have := rp.len; omega, β4, S4, acc ++ [y], us ++ [v], ⟨s24.ok.touch hgp ⟨hp3 s24, fun _ z => (by cases z), fun _ _ => code_lst⟩ _, lt.pre.trans s24.pre, ?_⟩, fun a ha => ?_, fun a ha => ?_, upd_same, ?_, by simp; omega, q4⟩
        · rw [hid_upd]
          exact lt.ex.trans s24.ex
        · exact ((hx a ha).trans (s24.ext a (by simp [ha]))).trans (.inl (upd_ne (fun e : a = p => hpY (e ▸ ha))))
        · by_cases e : a = p
          · rw [e, upd_same]
            simp
          · rw [upd_ne e]
            exact s24.trk a (htr a ha)
        · rw [hid_upd]
          exact (s24.reps rp).append (.cons r4 .nil)
      | false =>
        exact ⟨β3, S3, acc, us, ⟨s23.ok, lt.pre.trans s23.pre, lt.ex.trans s23.ex⟩, fun a ha => (hx a ha).trans (s23.ext a (by simp [ha])), fun a ha => s23.trk a (htr a ha), hp3 s23, s23.reps rp, by omega, q3⟩
  · have e : i = items.length := by omega
    subst e
    refine .inl ⟨io.stop _ _ _ _ lt (ist _ _ _ inv), ?_⟩
    exact k acc S' us p β' H' lt.ok (s1.pre.trans lt.pre) (s1.ex.trans lt.ex) (fun a ha => (s1.ext a ha).trans (hx a ha)) (fun a ha => htr a (s1.trk a ha)) hpY hgp hpv rp (iend _ _ inv)
theorem lc_lift {ts : TSr} {t : Tg} {tt : TB} {te : TD} {vs : List Nat} (hv : ∀ i ∈ t.slots, i ∈ vs) {σ : L2.St} {H : Hp} {Q : VK} (h : tE K G (eLc ts t tt te vs) σ H Q) : tLc (tI K G ts) (toG K t) (tT K G tt) (tE K G te) vs σ H Q := by
  obtain ⟨Y, β, S, ρ, Q', rl, q, k⟩ := h
  refine lc_core' hv rl q fun acc S' us p β' H' ok pre ex hx htr hpY hgp hpv rp hq => ?_
  obtain ⟨ok', ex'⟩ := ok.close hgp hpv fun _ z => (by cases z)
  have hl : hid Y β' S' H' p = some (.lst us) := by
    rw [hid_of hpY fun n o e1 _ => ok.out p (List.mem_of_getElem? e1) (by simp)]
    exact hpv
  exact k _ S' _ β' H' ⟨pre, ex.trans ex', hx, htr, ok'⟩ (.lst hl (rp.mono ex' (.refl _))) hq
theorem lcM_lift {ts : TSr} {t : Tg} {tt : TB} {te : TD} {vs : List Nat} (hv : ∀ i ∈ t.slots, i ∈ vs) {σ : L2.St} {H : Hp} {Q : VK} (h : tE K G (eLcM ts t tt te vs) σ H Q) : tLc (tI K G ts) (toG K t) (tT K G tt) (tE K G te) vs σ H Q := by
  obtain ⟨Y, β, S, ρ, Q', rl, q, k⟩ := h
  refine lc_core' hv rl q fun acc S' us p β' H' ok pre ex hx htr hpY hgp hpv rp hq => ?_
  obtain ⟨ok', ex'⟩ := ok.adopt hgp hpY hpv rp
  have hl : S'.length = β'.length := ok.len.symm
  refine k _ _ _ (β' ++ [p]) H' ⟨pre.trans ⟨[p], rfl⟩, ex.trans ex', hx, htr, ok'⟩ (.ref ?_) hq
  rw [hl, List.getElem?_append_right (Nat.le_refl _), Nat.sub_self]
  rfl
end
section
variable {X : Cx} {elt tg iter e : Expr} {ifs : List Expr} {scope : Scope} {own : List (Str × Nat)} {pos spos : Pos} {ts : TSr} {t : Tg} {tt : TB} {te ta : TD} {vs : List Nat}
theorem dts_nil : PTs X [] (tT X.K G bYes) := ⟨fun pins s σ H Q I ⟨Y, β, S, ρ, Q', rl, q, k⟩ => pts_nil.run pins s σ H Q I (k true S β H (.refl rl.ok) q)⟩
theorem dts_one {c : Expr} (h : PT X c (tT X.K G tt)) : PTs X [c] (tT X.K G tt) := pts_one h
theorem de_lcOf (h : PE X e (tLc (tI X.K G ts) (toG X.K t) (tT X.K G tt) (tE X.K G te) vs)) (hv : ∀ i ∈ t.slots, i ∈ vs) : PE X e (tE X.K G (eLc ts t tt te vs)) := h.imp fun _ _ _ q => lc_lift hv q
theorem de_lcMOf (h : PE X e (tLc (tI X.K G ts) (toG X.K t) (tT X.K G tt) (tE X.K G te) vs)) (hv : ∀ i ∈ t.slots, i ∈ vs) : PE X e (tE X.K G (eLcM ts t tt te vs)) := h.imp fun _ _ _ q => lcM_lift hv q

/-! ### stores -/
def sAsg (t : Tg) (ta : TD) : TSd := fun N ρ S => ta ρ S fun d S1 => ∃ ρ', bindT t d ρ = some ρ' ∧ N.nx ρ' S1
variable {st : Stmt}
theorem asg_lift {te' : TE} (i : ∀ σ H Q, tE X.K G ta σ H Q → te' σ H Q) {D' : Ends} {σ : L2.St} {H : Hp} (h : tS X.K G (sAsg t ta) D' σ H) : tAsg te' (toG X.K t) D' σ H := by
  obtain ⟨Y, β, S, ρ, N, rl, q, l⟩ := h
  refine i σ H _ ⟨Y, β, S, ρ, _, rl, q, fun d S1 v β1 H1 s1 r1 ⟨ρ', hb, hn⟩ => ?_⟩
  obtain ⟨σ', hset, r', _⟩ := bind_ok hb (rl.step s1) r1
  exact hset _ (l.nx ρ' S1 σ' β1 H1 s1 r' hn)
theorem ds_asgOf {te' : TE} (h : PS X st (tAsg te' (toG X.K t))) (i : ∀ σ H Q, tE X.K G ta σ H Q → te' σ H Q) : PS X st (tS X.K G (sAsg t ta)) := h.imp fun _ _ _ q => asg_lift i q
theorem ds_asg (h : PS X st (tAsg (tE X.K G ta) (toG X.K t))) : PS X st (tS X.K G (sAsg t ta)) := ds_asgOf h fun _ _ _ q => q
/-- a, b = x, y -/
def sPar (i j : Nat) (tl : TLs) : TSd := fun N ρ S => tl ρ S fun ds S1 => ∃ d e, ds = [d, e] ∧ N.nx ((ρ.set i (some d)).set j (some e)) S1
theorem ds_par {i j : Nat} {tl : TLs} (h : PS X st (tPar i j (tA X.K G tl))) : PS X st (tS X.K G (sPar i j tl)) := h.imp fun D' σ H ⟨Y, β, S, ρ, N, rl, q, l⟩ =>
  ⟨Y, β, S, ρ, _, rl, q, fun ds S1 vs β1 H1 s1 r1 ⟨d, e, ed, hn⟩ => by
    subst ed
    obtain ⟨v, w, rfl, rv, rw'⟩ := r1.two
    exact ⟨v, w, rfl, l.nx _ S1 _ β1 H1 s1 (((rl.step s1).set rv i).set rw' j) hn⟩⟩
/-- xs[i] = e, xs a list of the store -/
def sPut (to ti ta : TD) : TSd := fun N ρ S => ta ρ S fun d S1 => to ρ S1 fun o S2 => ti ρ S2 fun k S3 => ∃ n i ds j, o = .ref n ∧ k = .int i ∧ S3[n]? = some (some (.lst ds)) ∧ ixN ds.length i = some j ∧ N.nx ρ (S3.set n (some (.lst (ds.set j d))))
theorem ds_put {to ti : TD} (h : PS X st (tAsg (tE X.K G ta) (gSub (tE X.K G to) (tE X.K G ti) rSetL))) : PS X st (tS X.K G (sPut to ti ta)) := h.imp fun D' σ H ⟨Y, β, S, ρ, N, rl, q, l⟩ =>
  ⟨Y, β, S, ρ, _, rl, q, fun d S1 v β1 H1 s1 r1 q1 => ⟨Y, β1, S1, ρ, _, rl.step s1, q1, fun o S2 ov β2 H2 s2 r2 q2 => ⟨Y, β2, S2, ρ, _, (rl.step s1).step s2, q2, fun k S3 kv β3 H3 s3 r3 ⟨n, i, ds, j, eo, ek, hs, hj, hn⟩ => by
    subst eo
    subst ek
    cases r3
    obtain ⟨a, e1, us, hu, ru⟩ := s3.ok.obj n _ hs
    cases (s3.rep r2) with
    | ref e2 =>
      rw [e1] at e2
      cases e2
      have s4 := s3.ok.put hs e1 (ru.set (s3.rep (s2.rep r1)) j)
      exact ⟨a, us, i, j, rfl, rfl, hu, by rw [ru.len]; exact hj, l.nx ρ _ σ β3 _ (((s1.trans s2).trans s3).trans s4) ((((rl.step s1).step s2).step s3).step s4) hn⟩⟩⟩⟩

/-! ### methods of built-in types -/
def tyM (T : String) : D → Prop
  | .lst _ => T = "list"
  | .str _ => T = "str"
  | .int _ => T = "int"
  | .dic _ => T = "dict"
  | .dit _ => T = "dict"
  | _ => False
theorem tyM_ok {K : PySem.W.Frag} {Y β : List Addr} {S : Store} {H : Hp} {T : String} {v : V} {d : D} (o : Ok K G Y β S H) (r : Rep K (hid Y β S H) β v d) (h : tyM T (drf S d)) : tyV K T v H := by
  have r' := o.drf r
  generalize drf S d = e at h r'
  cases e with
  | lst xs =>
    cases r' with
    | lst h1 h2 => exact .inl ⟨h, _, .inl (.inl h1)⟩
  | str x => cases r'; exact h
  | int i => cases r'; exact h
  | dic ks =>
    cases r' with
    | dic h1 h2 => exact .inr (.inr (.inl ⟨h, .inl ⟨_, h1⟩⟩))
  | dit ks =>
    cases r' with
    | dit h1 h2 => exact .inr (.inr (.inl ⟨h, .inr ⟨_, h1⟩⟩))
  | _ => exact h.elim
abbrev RDm := D → List D → Store → QD → Prop
def lm (K : PySem.W.Frag) (G : Gh) (r : RDm) : V → List V → Hp → VK → Prop := fun v vs H Q => ∃ Y β S x xs Q', Ok K G Y β S H ∧ Rep K (hid Y β S H) β v x ∧ Reps K (hid Y β S H) β vs xs ∧ r x xs S Q' ∧ out K G Y β S H Q' Q
def eM (T : String) (r : RDm) (to : TD) (tl : TLs) : TD := fun ρ S Q => to ρ S fun x S1 => tyM T (drf S1 x) ∧ tl ρ S1 fun xs S2 => r x xs S2 Q
theorem de_mOf {T : String} {r : RDm} {to : TD} {tl : TLs} (h : PE X e (tBM X.K T (lm X.K G r) (tE X.K G to) (tA X.K G tl))) : PE X e (tE X.K G (eM T r to tl)) := h.imp fun σ H Q ⟨Y, β, S, ρ, Q', rl, q, k⟩ =>
  ⟨Y, β, S, ρ, _, rl, q, fun x S1 v β1 H1 s1 r1 ⟨ty, q1⟩ => ⟨tyM_ok s1.ok r1 ty, Y, β1, S1, ρ, _, rl.step s1, q1, fun xs S2 vs β2 H2 s2 r2 q2 =>
    ⟨Y, β2, S2, x, xs, Q', s2.ok, s2.rep r1, r2, q2, fun z S3 w β3 H3 s3 r3 q3 => k z S3 w β3 H3 ((s1.trans s2).trans s3) r3 q3⟩⟩⟩
theorem de_m0Of {T : String} {r : RDm} {to : TD} (h : PE X e (tBM0 X.K T (lm X.K G r) (tE X.K G to))) : PE X e (tE X.K G (eM T r to aNil)) := h.imp fun σ H Q ⟨Y, β, S, ρ, Q', rl, q, k⟩ =>
  ⟨Y, β, S, ρ, _, rl, q, fun x S1 v β1 H1 s1 r1 ⟨ty, q1⟩ => ⟨tyM_ok s1.ok r1 ty, Y, β1, S1, x, [], Q', s1.ok, r1, .nil, q1, fun z S3 w β3 H3 s3 r3 q3 => k z S3 w β3 H3 (s1.trans s3) r3 q3⟩⟩
end
end NC

set_option Elab.async false
set_option linter.all false
set_option maxRecDepth 100000
set_option maxHeartbeats 1000000
/-! NC5: defs and their calls (nothing is shown by repr around them), the end of a law. -/
namespace NC
open PySem PySem.Spec PyProof.Rows L2
open Evl (Ex)

/-- the def at f keeps sp where no repr is under way -/
structure FnG (P : Program) (w : World) (K : PySem.W.Frag) (mg : Str → Option Value) (base : Heap) (CX : CXT) (k : Nat) (f : Addr) (fd : FuncData) (ps : List Str) (sp : Sp) : Prop where
  many : ∀ vs H Q E, sp vs H Q E → vs.length = ps.length
  go : ∀ (A : Around) (outer : List Env) (s : Shared) (H : Hp) (args : Args) (us : List Value) (vs : List V) (Q : VK) (E : XK),
    Room k A → A.guards = some [] → Env0 P w K mg base A outer s H → BindsTo s fd args (ps.zip us) → Vals vs us → sp vs H Q E →
    codeAny (model P w) A (.call (.ref f) args) (CR CX outer P w H s Q E) s
section
variable {P : Program} {w : World} {K : PySem.W.Frag} {mg : Str → Option Value} {base : Heap} {CX : CXT} {k : Nat} {f : Addr} {fd : FuncData} {ps : List Str} {sp sp' : Sp}
theorem _root_.L2.FnOk.toG (F : FnOk P w K mg base CX k f fd ps sp) : FnG P w K mg base CX k f fd ps sp :=
  ⟨F.len, fun A outer s H args us vs Q E hr _ => F.run A outer s H args us vs Q E hr⟩
theorem FnG.up (F : FnG P w K mg base CX k f fd ps sp) {j : Nat} (h : k ≤ j) : FnG P w K mg base CX j f fd ps sp :=
  ⟨F.many, fun A outer s H args us vs Q E hr => F.go A outer s H args us vs Q E (hr.mono h)⟩
theorem FnG.imp (F : FnG P w K mg base CX k f fd ps sp) (i : ∀ vs H Q E, sp' vs H Q E → sp vs H Q E) : FnG P w K mg base CX k f fd ps sp' :=
  ⟨fun vs H Q E q => F.many vs H Q E (i vs H Q E q), fun A outer s H args us vs Q E hr g e b v q => F.go A outer s H args us vs Q E hr g e b v (i vs H Q E q)⟩

/-- a def by its body -/
theorem fnG_of {N : List Str} {x qual : Str} {st : Stmt} (F : Fun K x qual st f fd) (Sc : FnScope N ps (defScope st)) (hl : ∀ vs H Q E, sp vs H Q E → vs.length = ps.length)
    (body : ∀ (cdv : Value) (A : Around) (outer : List Env) (s : Shared) (H : Hp) (vs : List V) (Q : VK) (E : XK), Room k (A.deeper (envOfC qual (defScope st) s.heap.objs.size f cdv)) → A.guards = some [] → sp vs H Q E →
      ∃ t, PSs (cxOf CX P w K mg base N qual (defScope st) f cdv A outer s H E) (defBody st) t ∧ t { nx := fun _ H' => Q .non H', rt := Q } (L2.start N vs) H) :
    FnG P w K mg base CX (k + 1) f fd ps sp := by
  obtain ⟨oc, od, kV, doc, pm, an, cdv, ct, osl, rfl, lk, hcd⟩ := F.ex
  refine ⟨hl, ?_⟩
  intro A outer s H args us vs Q E room grd e0 bnd rel hsp
  have size := hl _ _ _ _ hsp
  have kin : K.In s.heap := e0.mod.kin.keeps fun b o z => (e0.bs b o z).1
  have lim := e0.mod.nolimit.keeps (h' := s.heap) fun b o z => (e0.bs b o z).1
  have kinds : ∀ y ∈ ps.zip us, (defScope st).names.lookup y.1 = some .local ∨
      ((defScope st).names.lookup y.1 = some .cell ∧ ((cellsFrom (s.heap.objs.size + 1) (defScope st).names []).lookup y.1).isSome = true) := by
    rintro ⟨n, v⟩ hy
    cases Sc.par n (List.of_mem_zip hy).1 with
    | inl q => exact .inl q
    | inr q => exact .inr ⟨q, PySem.W.cellsFrom_some _ _ _ (.inl q)⟩
  apply codeAny_call_function room.depth (kin _ _ lk) rfl Sc.co Sc.gen rfl (PySem.W.codeRec_of kin hcd)
  apply bnd
  refine wpAny_newFunctionEnv_cells Sc.kind kinds ?_
  rintro env rfl s1 x
  refine ⟨lim.keeps x.toInCall.keep, codeAny_func ?_⟩
  obtain ⟨t, ht, hq⟩ := body cdv A outer s H vs Q E (room.deeper _) grd hsp
  have I := inv_start (CX := CX) (E := E) (f := f) (cd := cdv) (qual := qual) Sc room.hd e0 size rel x
  refine wpAny_mono (ht.run [] s1 (L2.start N vs) H _ I hq) ?_ fun e s' z => z
  rintro fl s' hs
  cases fl with
  | ret u =>
    obtain ⟨v, σ', H', J, rv, q⟩ := hs
    exact ⟨v, H', J.os, J.bare, J.base, J.hok, rv, q⟩
  | next =>
    obtain ⟨σ', H', J, q⟩ := hs
    exact ⟨.non, H', J.os, J.bare, J.base, J.hok, rfl, q⟩
  | brk => exact (hs.choose_spec.choose_spec.2).elim
  | cont => exact (hs.choose_spec.choose_spec.2).elim
end

/-! ### a def's promise over data -/
def lsp (K : PySem.W.Frag) (T : List (Addr × Str)) (r : RDs) : Sp := fun vs H Q _ => ls K ⟨[], T⟩ r vs H Q
/-- the values at the entry -/
def startD (n : Nat) (xs : List D) : Rho := xs.map some ++ List.replicate (n - xs.length) none
theorem start_rel {K : PySem.W.Frag} {Y β : List Addr} {S : Store} {H : Hp} {N : List Str} {vs : List V} {xs : List D} (o : Ok K G Y β S H) (r : Reps K (hid Y β S H) β vs xs) : Rel K G Y β S (startD N.length xs) (L2.start N vs) H := by
  refine ⟨o, ?_, fun i d e => ?_⟩
  · unfold startD L2.start
    rw [List.length_append, List.length_append, List.length_map, List.length_map, List.length_replicate, List.length_replicate, r.len]
  · unfold startD at e
    by_cases hi : i < xs.length
    · rw [List.getElem?_append_left (by simpa using hi), List.getElem?_map] at e
      obtain ⟨d', e1, e2⟩ := Option.map_eq_some_iff.mp e
      cases e2
      obtain ⟨v, e3, q⟩ := r.get e1
      refine ⟨v, ?_, q⟩
      unfold L2.start
      rw [List.getElem?_append_left (by rw [List.length_map, r.len]; exact hi), List.getElem?_map, e3]
      rfl
    · rw [List.getElem?_append_right (by simpa using hi), List.getElem?_replicate] at e
      split at e <;> cases e
section
variable {P : Program} {w : World} {K : PySem.W.Frag} {mg : Str → Option Value} {base : Heap} {k : Nat} {f : Addr} {fd : FuncData} {ps N : List Str} {r : RDs} {x qual : Str} {st : Stmt} {tb : TSd} {T : List (Addr × Str)}
/-- what a body comes to, called with xs -/
def runD (n : Nat) (tb : TSd) : RDs := fun xs S Q => tb { nx := fun _ S' => Q .non S', rt := Q } (startD n xs) S
theorem def_ok (F : Fun K x qual st f fd) (Sc : FnScope N ps (defScope st)) (hl : ∀ xs S Q, r xs S Q → xs.length = ps.length)
    (hb : ∀ (cdv : Value) (A : Around) (outer : List Env) (s : Shared) (H : Hp) (E : XK), Room k (A.deeper (envOfC qual (defScope st) s.heap.objs.size f cdv)) → A.guards = some [] →
      PSs (cxOf CX0 P w K mg base N qual (defScope st) f cdv A outer s H E).nox (defBody st) (tS K ⟨[], T⟩ tb))
    (hr : ∀ xs S Q, r xs S Q → runD N.length tb xs S Q) : FnG P w K mg base CX0 (k + 1) f fd ps (lsp K T r) := by
  refine fnG_of F Sc (fun vs H Q E h => ?_) fun cdv A outer s H vs Q E room grd h => ⟨tS K ⟨[], T⟩ tb, (hb cdv A outer s H E room grd).nox, ?_⟩
  · obtain ⟨Y, β, S, xs, Q', o, rr, q, _⟩ := h
    rw [rr.len]
    exact hl _ _ _ q
  · obtain ⟨Y, β, S, xs, Q', o, rr, q, kk⟩ := h
    exact ⟨Y, β, S, _, _, start_rel o rr, hr xs S Q' q, ⟨fun ρ' S' σ' β' H' s' r' q' => kk .non S' .non β' H' s' .non q', fun d S' v β' H' s' r' q' => kk d S' v β' H' s' r' q', fun _ _ _ _ _ _ _ z => z.elim, fun _ _ _ _ _ _ _ z => z.elim⟩⟩
end

theorem _root_.L2.PK.imp' {X : Cx} {kws : List Keyword} {t t' : TA} (h : PK X kws t) (i : ∀ σ H Q, t' σ H Q → t σ H Q) : PK X kws t' := ⟨fun pos pins s σ H Q I q => h.run pos pins s σ H Q I (i σ H Q q)⟩
theorem dk_cons {X : Cx} {e : Expr} {kws : List Keyword} {nm : Option Str} {kpos : Pos} {ta : TD} {tl : TLs} (ha : PE X e (tE X.K G ta)) (hr : PK X kws (tA X.K G tl)) : PK X (⟨nm, e, kpos⟩ :: kws) (tA X.K G (aCons ta tl)) :=
  (pk_cons ha hr).imp' fun σ H Q ⟨Y, β, S, ρ, Q', rl, q, k⟩ => ⟨Y, β, S, ρ, _, rl, q, fun x S1 v β1 H1 s1 r1 q1 =>
    ⟨Y, β1, S1, ρ, _, rl.step s1, q1, fun xs S2 vs β2 H2 s2 r2 q2 => k (x :: xs) S2 (v :: vs) β2 H2 (s1.trans s2) (.cons (s2.rep r1) r2) q2⟩⟩
/-! ### calls -/
section
variable {X : Cx} {CX : CXT} {k : Nat} {f : Addr} {fd : FuncData} {ps : List Str} {sp : Sp} {dvs : List V} {ds : List Value} {E : XK} {x : Str} {p pos : Pos} {e : Expr} {es : List Expr} {t tk : TA} {kws : List Keyword} {ks : List Str}
theorem runG {pins : List (Addr × Obj)} {σ : L2.St} {H : Hp} {s : Shared} {Q : VK} {us : List Value} {vs : List V} {kw : List (Str × Value)} {as : List Value} (F : FnG X.prog X.w X.K X.mg X.base CX k f fd ps sp) (hr : Room k X.A) (hg : X.A.guards = some [])
    (hb : BindsTo s fd ⟨us, kw⟩ (ps.zip as)) (hx : Passes CX X E) (I : Inv X pins σ H s) (r : Vals vs as) (h : sp vs H Q E) : wpAny (model X.prog X.w) X.A (call (.ref f) us kw) (EP X pins σ Q) X.xe s := by
  apply wpAny_call
  refine codeAny_mono (F.go X.A X.stack s H ⟨us, kw⟩ as vs Q E hr hg I.env0 hb r h) ?_
  rintro (err | fl) s' hq
  · exact hx pins σ H s err s' I hq
  · cases fl with
    | ret u => exact I.after hq
    | next => exact hq.elim
    | brk => exact hq.elim
    | cont => exact hq.elim
def tCallG (sp : Sp) (dvs : List V) (E : XK) (t : TA) : TE := fun σ H Q => t σ H fun vs H1 => sp (vs ++ dvs) H1 Q E
theorem pe_callG (F : FnG X.prog X.w X.K X.mg X.base CX k f fd ps sp) (hr : Room k X.A) (hgd : X.A.guards = some []) (hg : Gl X x) (hm : X.mg x = some (.ref f)) (hk : PySem.W.keepIn X.K (.ref f) = true) (hb : Binds X.K fd ps ds) (hd : Vals dvs ds) (hx : Passes CX X E)
    (ha : PA X (e :: es) t) (hdb : (x == ("__debug__" : Str)) = false := by decide) (he : starEach (e :: es) X.env = (false, eval e X.env) :: starEach es X.env := by rfl) (hpl : (backTo pos (starEach es X.env)).any (·.1) = false := by rfl) :
    PE X (.Call (.Name x p) (e :: es) [] pos) (tCallG sp dvs E t) := by
  constructor
  intro pins s σ H Q I h
  apply wpAny_Call_Name_kw
  refine ld_glob I hg hm ?_ hdb
  apply PySem.W.callWith_K (h₀ := X.base) I.ok.mod.kin hk _ he hpl
  refine thn (ha.run pos pins s σ H _ I h) ?_
  rintro us s1 ⟨vs, H1, I1, r, q⟩
  have r2 := r.append hd
  exact ⟨I1.kIn, runG F hr hgd (hb s1 us I1.kIn (by rw [← r2.length]; exact F.many _ _ _ _ q)) hx I1 r2 q⟩
theorem pe_callG0 (F : FnG X.prog X.w X.K X.mg X.base CX k f fd ps sp) (hr : Room k X.A) (hgd : X.A.guards = some []) (hg : Gl X x) (hm : X.mg x = some (.ref f)) (hk : PySem.W.keepIn X.K (.ref f) = true) (hb : Binds X.K fd ps ds) (hd : Vals dvs ds) (hx : Passes CX X E)
    (hdb : (x == ("__debug__" : Str)) = false := by decide) : PE X (.Call (.Name x p) [] [] pos) (tCallG sp dvs E tNil) := by
  constructor
  intro pins s σ H Q I h
  apply wpAny_Call_Name_kw
  refine ld_glob I hg hm ?_ hdb
  apply PySem.W.callWith_K0 I.kIn hk
  have r2 : Vals ([] ++ dvs) ([] ++ ds) := Vals.append .nil hd
  exact runG F hr hgd (hb s [] I.kIn (by rw [← r2.length]; exact F.many _ _ _ _ h)) hx I r2 h
def tCallGK (sp : Sp) (gV : List V → List V → List V) (E : XK) (t tk : TA) : TE := fun σ H Q => t σ H fun vs H1 => tk σ H1 fun zs H2 => sp (gV vs zs) H2 Q E
theorem pe_callGK {g : List Value → List Value → List Value} {gV : List V → List V → List V} (F : FnG X.prog X.w X.K X.mg X.base CX k f fd ps sp) (hr : Room k X.A) (hgd : X.A.guards = some []) (hg : Gl X x) (hm : X.mg x = some (.ref f)) (hk : PySem.W.keepIn X.K (.ref f) = true)
    (hb : KBinds X.K fd ps ks g gV) (hx : Passes CX X E) (ha : PA X (e :: es) t) (hkw : PK X kws tk) (hall : (backToKw pos (keywordEach kws X.env)).all (·.1.isSome) = true := by rfl)
    (hks : (backToKw pos (keywordEach kws X.env)).filterMap (·.1) = ks := by rfl) (hdb : (x == ("__debug__" : Str)) = false := by decide) (he : starEach (e :: es) X.env = (false, eval e X.env) :: starEach es X.env := by rfl)
    (hpl : ((backTo pos (starEach (e :: es) X.env)).any (·.1) || (backToKw pos (keywordEach kws X.env)).any (·.1.isNone)) = false := by rfl) : PE X (.Call (.Name x p) (e :: es) kws pos) (tCallGK sp gV E t tk) := by
  constructor
  intro pins s σ H Q I h
  apply wpAny_Call_Name_kw
  refine ld_glob I hg hm ?_ hdb
  refine PySem.W.callWith_KW (h₀ := X.base) I.ok.mod.kin hk hall ?_ hpl he
  refine thn (ha.run pos pins s σ H _ I h) ?_
  rintro us s1 ⟨vs, H1, I1, r, q⟩
  refine thn (hkw.run pos pins s1 σ H1 _ I1 q) ?_
  rintro ws s2 ⟨zs, H2, I2, rz, q2⟩
  refine ⟨I2.kIn, ?_⟩
  rw [hks]
  have r2 := hb.rel r rz
  exact runG F hr hgd (hb.to s2 us ws I2.kIn (by rw [← r2.length]; exact F.many _ _ _ _ q2)) hx I2 r2 q2
/-- keywords too: n values by place, then those named ks; perm: for each parameter its place among all of them -/
def pick {α : Type} (perm : List Nat) (xs : List α) (z : α) : List α := perm.map fun i => xs.getD i z
structure KwB (K : PySem.W.Frag) (fd : FuncData) (ps : List Str) (n : Nat) (ks : List Str) (perm : List Nat) : Prop where
  to : ∀ (s : Shared) (us ws : List Value), K.In s.heap → us.length = n → ws.length = ks.length → BindsTo s fd ⟨us, ks.zip ws⟩ (ps.zip (pick perm (us ++ ws) .none))
def tCallKw (sp : Sp) (n m : Nat) (perm : List Nat) (E : XK) (t tk : TA) : TE := fun σ H Q => t σ H fun vs H1 => tk σ H1 fun zs H2 => vs.length = n ∧ zs.length = m ∧ sp (pick perm (vs ++ zs) .non) H2 Q E
theorem Vals.pick {vs : List V} {us : List Value} (r : Vals vs us) (perm : List Nat) : Vals (pick perm vs .non) (pick perm us .none) := by
  unfold NC.pick
  induction perm with
  | nil => exact .nil
  | cons i l ih =>
    refine .cons ?_ ih
    by_cases h : i < vs.length
    · have h' : i < us.length := by rw [← r.length]; exact h
      obtain ⟨u, e, q⟩ := r.get (List.getElem?_eq_getElem h)
      rw [List.getElem?_eq_getElem h'] at e
      cases e
      simpa [List.getD_eq_getElem?_getD, h, h'] using q
    · have h' : ¬ i < us.length := by rw [← r.length]; exact h
      have e1 : vs.getD i .non = .non := by simp [List.getD_eq_getElem?_getD, List.getElem?_eq_none (Nat.le_of_not_lt h)]
      have e2 : us.getD i .none = .none := by simp [List.getD_eq_getElem?_getD, List.getElem?_eq_none (Nat.le_of_not_lt h')]
      show RelV (vs.getD i .non) (us.getD i .none)
      rw [e1, e2]
      rfl
variable {n : Nat} {perm : List Nat}
theorem pe_callKw (F : FnG X.prog X.w X.K X.mg X.base CX k f fd ps sp) (hr : Room k X.A) (hgd : X.A.guards = some []) (hg : Gl X x) (hm : X.mg x = some (.ref f)) (hk : PySem.W.keepIn X.K (.ref f) = true)
    (hb : KwB X.K fd ps n ks perm) (hx : Passes CX X E) (ha : PA X (e :: es) t) (hkw : PK X kws tk) (hall : (backToKw pos (keywordEach kws X.env)).all (·.1.isSome) = true := by rfl)
    (hks : (backToKw pos (keywordEach kws X.env)).filterMap (·.1) = ks := by rfl) (hdb : (x == ("__debug__" : Str)) = false := by decide) (he : starEach (e :: es) X.env = (false, eval e X.env) :: starEach es X.env := by rfl)
    (hpl : ((backTo pos (starEach (e :: es) X.env)).any (·.1) || (backToKw pos (keywordEach kws X.env)).any (·.1.isNone)) = false := by rfl) : PE X (.Call (.Name x p) (e :: es) kws pos) (tCallKw sp n ks.length perm E t tk) := by
  constructor
  intro pins s σ H Q I h
  apply wpAny_Call_Name_kw
  refine ld_glob I hg hm ?_ hdb
  refine PySem.W.callWith_KW (h₀ := X.base) I.ok.mod.kin hk hall ?_ hpl he
  refine thn (ha.run pos pins s σ H _ I h) ?_
  rintro us s1 ⟨vs, H1, I1, r, q⟩
  refine thn (hkw.run pos pins s1 σ H1 _ I1 q) ?_
  rintro ws s2 ⟨zs, H2, I2, rz, l1, l2, q2⟩
  refine ⟨I2.kIn, ?_⟩
  rw [hks]
  have r2 : Vals (vs ++ zs) (us ++ ws) := r.append rz
  exact runG F hr hgd (hb.to s2 us ws I2.kIn (by rw [← r.length]; exact l1) (by rw [← rz.length]; exact l2)) hx I2 (Vals.pick r2 perm) q2
theorem pe_callKw0 (F : FnG X.prog X.w X.K X.mg X.base CX k f fd ps sp) (hr : Room k X.A) (hgd : X.A.guards = some []) (hg : Gl X x) (hm : X.mg x = some (.ref f)) (hk : PySem.W.keepIn X.K (.ref f) = true)
    (hb : KwB X.K fd ps 0 ks perm) (hx : Passes CX X E) (hkw : PK X kws tk) (hall : (backToKw pos (keywordEach kws X.env)).all (·.1.isSome) = true := by rfl)
    (hks : (backToKw pos (keywordEach kws X.env)).filterMap (·.1) = ks := by rfl) (hdb : (x == ("__debug__" : Str)) = false := by decide)
    (hpl : ((backTo pos (starEach [] X.env)).any (·.1) || (backToKw pos (keywordEach kws X.env)).any (·.1.isNone)) = false := by rfl) : PE X (.Call (.Name x p) [] kws pos) (tCallKw sp 0 ks.length perm E tNil tk) := by
  constructor
  intro pins s σ H Q I h
  apply wpAny_Call_Name_kw
  refine ld_glob I hg hm ?_ hdb
  refine PySem.W.callWith_KW0 (h₀ := X.base) I.ok.mod.kin hk hall ?_ hpl
  refine thn (hkw.run pos pins s σ H _ I h) ?_
  rintro ws s2 ⟨zs, H2, I2, rz, l1, l2, q2⟩
  refine ⟨I2.kIn, ?_⟩
  rw [hks]
  exact runG F hr hgd (hb.to s2 [] ws I2.kIn rfl (by rw [← rz.length]; exact l2)) hx I2 (Vals.pick (vs := [] ++ zs) (us := [] ++ ws) rz perm) q2

/-! ### over data -/
variable {r : RDs} {tl tk' : TLs}
def eCall (r : RDs) (tl : TLs) : TD := fun ρ S Q => tl ρ S fun xs S1 => r xs S1 Q
theorem de_call (F : FnG X.prog X.w X.K X.mg X.base CX0 k f fd ps (lsp X.K G.T r)) (hr : Room k X.A) (hgd : X.A.guards = some []) (hg : Gl X x) (hm : X.mg x = some (.ref f)) (hk : PySem.W.keepIn X.K (.ref f) = true) (hb : Binds X.K fd ps [])
    (ha : PA X (e :: es) (tA X.K G tl)) (hdb : (x == ("__debug__" : Str)) = false := by decide) (he : starEach (e :: es) X.env = (false, eval e X.env) :: starEach es X.env := by rfl) (hpl : (backTo pos (starEach es X.env)).any (·.1) = false := by rfl) :
    PE X (.Call (.Name x p) (e :: es) [] pos) (tE X.K G (eCall r tl)) :=
  (pe_callG F hr hgd hg hm hk hb .nil pass0 ha hdb he hpl).imp fun σ H Q ⟨Y, β, S, ρ, Q', rl, q, kk⟩ => ⟨Y, β, S, ρ, _, rl, q, fun xs S1 vs β1 H1 s1 r1 q1 => by
    show lsp X.K G.T r (vs ++ []) H1 Q E0
    rw [List.append_nil]
    exact ⟨Y, β1, S1, xs, Q', s1.ok.free, r1, q1, fun z S3 w β3 H3 s3 r3 q3 => kk z S3 w β3 H3 (s1.trans (s3.back s1.ok)) r3 q3⟩⟩
theorem de_call0 (F : FnG X.prog X.w X.K X.mg X.base CX0 k f fd ps (lsp X.K G.T r)) (hr : Room k X.A) (hgd : X.A.guards = some []) (hg : Gl X x) (hm : X.mg x = some (.ref f)) (hk : PySem.W.keepIn X.K (.ref f) = true) (hb : Binds X.K fd ps [])
    (hdb : (x == ("__debug__" : Str)) = false := by decide) : PE X (.Call (.Name x p) [] [] pos) (tE X.K G (eCall r aNil)) :=
  (pe_callG0 F hr hgd hg hm hk hb .nil pass0 hdb).imp fun σ H Q ⟨Y, β, S, ρ, Q', rl, q, kk⟩ => ⟨Y, β, S, [], Q', rl.ok.free, .nil, q, fun z S3 w β3 H3 s3 r3 q3 => kk z S3 w β3 H3 (s3.back rl.ok) r3 q3⟩
def eCallKw (r : RDs) (n m : Nat) (perm : List Nat) (tl tk' : TLs) : TD := fun ρ S Q => tl ρ S fun xs S1 => tk' ρ S1 fun ys S2 => xs.length = n ∧ ys.length = m ∧ r (pick perm (xs ++ ys) .non) S2 Q
theorem Reps.pick {K : PySem.W.Frag} {B : Hp} {β : List Addr} {vs : List V} {us : List D} (r : Reps K B β vs us) (perm : List Nat) : Reps K B β (pick perm vs .non) (pick perm us .non) := by
  unfold NC.pick
  induction perm with
  | nil => exact .nil
  | cons i l ih =>
    refine .cons ?_ ih
    by_cases h : i < us.length
    · have h' : i < vs.length := by rw [r.len]; exact h
      obtain ⟨u, e, q⟩ := r.get (List.getElem?_eq_getElem h)
      rw [List.getElem?_eq_getElem h'] at e
      cases e
      simpa [List.getD_eq_getElem?_getD, h, h'] using q
    · have h' : ¬ i < vs.length := by rw [r.len]; exact h
      have e1 : vs.getD i .non = .non := by simp [List.getD_eq_getElem?_getD, List.getElem?_eq_none (Nat.le_of_not_lt h')]
      have e2 : us.getD i .non = .non := by simp [List.getD_eq_getElem?_getD, List.getElem?_eq_none (Nat.le_of_not_lt h)]
      show Rep K B β (vs.getD i .non) (us.getD i .non)
      rw [e1, e2]
      exact .non
theorem de_callKw (F : FnG X.prog X.w X.K X.mg X.base CX0 k f fd ps (lsp X.K G.T r)) (hr : Room k X.A) (hgd : X.A.guards = some []) (hg : Gl X x) (hm : X.mg x = some (.ref f)) (hk : PySem.W.keepIn X.K (.ref f) = true)
    (hb : KwB X.K fd ps n ks perm) (ha : PA X (e :: es) (tA X.K G tl)) (hkw : PK X kws (tA X.K G tk')) (hall : (backToKw pos (keywordEach kws X.env)).all (·.1.isSome) = true := by rfl)
    (hks : (backToKw pos (keywordEach kws X.env)).filterMap (·.1) = ks := by rfl) (hdb : (x == ("__debug__" : Str)) = false := by decide) (he : starEach (e :: es) X.env = (false, eval e X.env) :: starEach es X.env := by rfl)
    (hpl : ((backTo pos (starEach (e :: es) X.env)).any (·.1) || (backToKw pos (keywordEach kws X.env)).any (·.1.isNone)) = false := by rfl) : PE X (.Call (.Name x p) (e :: es) kws pos) (tE X.K G (eCallKw r n ks.length perm tl tk')) :=
  (pe_callKw F hr hgd hg hm hk hb pass0 ha hkw hall hks hdb he hpl).imp fun σ H Q ⟨Y, β, S, ρ, Q', rl, q, kk⟩ => ⟨Y, β, S, ρ, _, rl, q, fun xs S1 vs β1 H1 s1 r1 q1 =>
    ⟨Y, β1, S1, ρ, _, rl.step s1, q1, fun ys S2 us β2 H2 s2 r2 ⟨l1, l2, q2⟩ => ⟨by rw [r1.len]; exact l1, by rw [r2.len]; exact l2,
      Y, β2, S2, _, Q', s2.ok.free, Reps.pick ((s2.reps r1).append r2) perm, q2, fun z S3 w β3 H3 s3 r3 q3 => kk z S3 w β3 H3 ((s1.trans s2).trans (s3.back s2.ok)) r3 q3⟩⟩⟩
theorem de_callKw0 (F : FnG X.prog X.w X.K X.mg X.base CX0 k f fd ps (lsp X.K G.T r)) (hr : Room k X.A) (hgd : X.A.guards = some []) (hg : Gl X x) (hm : X.mg x = some (.ref f)) (hk : PySem.W.keepIn X.K (.ref f) = true)
    (hb : KwB X.K fd ps 0 ks perm) (hkw : PK X kws (tA X.K G tk')) (hall : (backToKw pos (keywordEach kws X.env)).all (·.1.isSome) = true := by rfl)
    (hks : (backToKw pos (keywordEach kws X.env)).filterMap (·.1) = ks := by rfl) (hdb : (x == ("__debug__" : Str)) = false := by decide)
    (hpl : ((backTo pos (starEach [] X.env)).any (·.1) || (backToKw pos (keywordEach kws X.env)).any (·.1.isNone)) = false := by rfl) : PE X (.Call (.Name x p) [] kws pos) (tE X.K G (eCallKw r 0 ks.length perm aNil tk')) :=
  (pe_callKw0 F hr hgd hg hm hk hb pass0 hkw hall hks hdb hpl).imp fun σ H Q ⟨Y, β, S, ρ, Q', rl, q, kk⟩ => ⟨Y, β, S, ρ, _, rl, q, fun ys S2 us β2 H2 s2 r2 ⟨l1, l2, q2⟩ => ⟨rfl, by rw [r2.len]; exact l2,
      Y, β2, S2, _, Q', s2.ok.free, Reps.pick (vs := [] ++ us) (us := [] ++ ys) r2 perm, q2, fun z S3 w β3 H3 s3 r3 q3 => kk z S3 w β3 H3 (s2.trans (s3.back s2.ok)) r3 q3⟩⟩
theorem dk_nil : PK X [] (tA X.K G aNil) := pk_nil.imp' fun σ H Q ⟨Y, β, S, ρ, Q', rl, q, k⟩ => k [] S [] β H (.refl rl.ok) .nil q
end
end NC

set_option Elab.async false
set_option linter.all false
set_option maxRecDepth 100000
set_option maxHeartbeats 1000000
/-! NC6: the operators over data. -/
namespace NC
open PySem PySem.Spec PyProof.Rows L2
open Evl (Ex)

theorem ok_lst {K : PySem.W.Frag} {Y β : List Addr} {S : Store} {H : Hp} (o : Ok K G Y β S H) {v : V} {d : D} {xs : List D} (r : Rep K (hid Y β S H) β v d) (h : drf S d = .lst xs) :
    ∃ a vs, v = .ref a ∧ H a = some (.lst vs) ∧ Reps K (hid Y β S H) β vs xs := by
  cases d with
  | ref n =>
    have hs := drf_back h
    obtain ⟨a, e1, vs, h1, h2⟩ := o.obj n _ hs
    cases r with
    | ref e2 =>
      rw [e1] at e2
      cases e2
      exact ⟨a, vs, rfl, h1, h2⟩
  | lst ys =>
    have e : ys = xs := by
      have h' : D.lst ys = D.lst xs := h
      cases h'
      rfl
    subst e
    cases r with
    | lst h1 h2 => exact ⟨_, _, rfl, hid_ex _ _ h1, h2⟩
  | _ => simp [NC.drf] at h
theorem ok_tup {K : PySem.W.Frag} {Y β : List Addr} {S : Store} {H : Hp} (o : Ok K G Y β S H) {v : V} {d : D} {xs : List D} (r : Rep K (hid Y β S H) β v d) (h : drf S d = .tup xs) :
    ∃ a vs, v = .ref a ∧ hid Y β S H a = some (.tup vs) ∧ Reps K (hid Y β S H) β vs xs := by
  cases d with
  | ref n =>
    simp only [NC.drf] at h
    split at h <;> cases h
  | tup ys =>
    have e : ys = xs := by
      have h' : D.tup ys = D.tup xs := h
      cases h'
      rfl
    subst e
    cases r with
    | tup h1 h2 => exact ⟨_, _, rfl, h1, h2⟩
  | _ => simp [NC.drf] at h
/-- any sequence: where it stands, its items by the unchanging part -/
theorem ok_seq {K : PySem.W.Frag} {Y β : List Addr} {S : Store} {H : Hp} (o : Ok K G Y β S H) {v : V} {d : D} {xs : List D} (r : Rep K (hid Y β S H) β v d) (h : seqOf (drf S d) = some xs) :
    ∃ a vs, v = .ref a ∧ (SqL K H a vs ∨ SqT K H a vs) ∧ Reps K (hid Y β S H) β vs xs := by
  cases hd : drf S d with
  | lst ys =>
    rw [hd] at h
    cases h
    obtain ⟨a, vs, e, h1, h2⟩ := ok_lst o r hd
    exact ⟨a, vs, e, .inl (.inl (.inl h1)), h2⟩
  | tup ys =>
    rw [hd] at h
    cases h
    obtain ⟨a, vs, e, h1, h2⟩ := ok_tup o r hd
    exact ⟨a, vs, e, .inr (.inl (.inl (hid_ex _ _ h1))), h2⟩
  | ro ys =>
    rw [hd] at h
    cases h
    cases d with
    | ref n =>
      simp only [NC.drf] at hd
      split at hd <;> cases hd
    | ro zs =>
      have h' : zs = xs := by
        have h'' : D.ro zs = D.ro xs := hd
        cases h''
        rfl
      subst h'
      cases r with
      | ro h1 h2 => exact ⟨_, _, rfl, .inl (Evl.ex_l hid_ex h1), h2⟩
    | _ => simp [NC.drf] at hd
  | _ => rw [hd] at h; cases h

/-! ### data as the library's trees -/
def keyP : Key → PyData
  | .inl i => .int i
  | .inr x => .str x
mutual
def pd : D → PyData
  | .non => .none
  | .bl b => .bool b
  | .int i => .int i
  | .str x => .str x
  | .lst xs => .list (pds xs)
  | .tup xs => .tuple (pds xs)
  | .ro xs => .list (pds xs)
  | .dic kvs => .dict (pdk kvs)
  | .dit kvs => .dict (pdt kvs)
  | .ref _ => .none
def pds : List D → List PyData
  | [] => []
  | d :: ds => pd d :: pds ds
def pdk : List (Key × D) → List (PyData × PyData)
  | [] => []
  | (k, d) :: ds => (keyP k, pd d) :: pdk ds
def pdt : List (List Key × D) → List (PyData × PyData)
  | [] => []
  | (k, d) :: ds => (.tuple (k.map keyP), pd d) :: pdt ds
end
theorem pds_map : ∀ ds : List D, pds ds = ds.map pd
  | [] => rfl
  | d :: ds => by unfold pds; rw [pds_map ds]; rfl
/- plain data: nothing, truths, ints, texts, lists and tuples of them, at most n deep -/
mutual
def fl : Nat → D → Bool
  | _, .non => true
  | _, .bl _ => true
  | _, .int _ => true
  | _, .str x => PyData.strOk x
  | n + 1, .lst xs => fls n xs
  | n + 1, .tup xs => fls n xs
  | _, _ => false
def fls : Nat → List D → Bool
  | _, [] => true
  | n, d :: ds => fl n d && fls n ds
end
theorem fls_all : ∀ {n : Nat} {ds : List D}, fls n ds = true ↔ ∀ d ∈ ds, fl n d = true
  | n, [] => by simp [fls]
  | n, d :: ds => by simp [fls, fls_all (n := n) (ds := ds)]
section
variable {K : PySem.W.Frag} {H : Hp} {β : List Addr}
mutual
theorem fl_dp : ∀ {n : Nat} {d : D} {v : V}, fl n d = true → Rep K H β v d → Dp K H v (pd d) ∧ (pd d).canLay0 = true ∧ (pd d).depth ≤ n
  | n, .non, _, h, r => by cases r; exact ⟨.non, rfl, Nat.zero_le _⟩
  | n, .bl b, _, h, r => by cases r; exact ⟨.bl b, rfl, Nat.zero_le _⟩
  | n, .int i, _, h, r => by cases r; exact ⟨.int i, rfl, Nat.zero_le _⟩
  | n, .str x, _, h, r => by cases r; exact ⟨.str x, by simpa [fl, pd, PyData.canLay0] using h, Nat.zero_le _⟩
  | 0, .lst xs, _, h, r => by simp [fl] at h
  | 0, .tup xs, _, h, r => by simp [fl] at h
  | n + 1, .lst xs, _, h, r => by
    cases r with
    | lst h1 h2 =>
      obtain ⟨a, b, c⟩ := fls_dp (n := n) (by simpa [fl] using h) h2
      exact ⟨.lst (.inl (.inl h1)) a, by simpa [pd, PyData.canLay0] using b, by simp only [pd, PyData.depth]; omega⟩
  | n + 1, .tup xs, _, h, r => by
    cases r with
    | tup h1 h2 =>
      obtain ⟨a, b, c⟩ := fls_dp (n := n) (by simpa [fl] using h) h2
      exact ⟨.tup (.inl (.inl h1)) a, by simpa [pd, PyData.canLay0] using b, by simp only [pd, PyData.depth]; omega⟩
  | n, .ro xs, _, h, r => by cases n <;> simp [fl] at h
  | n, .dic xs, _, h, r => by cases n <;> simp [fl] at h
  | n, .dit xs, _, h, r => by cases n <;> simp [fl] at h
  | n, .ref m, _, h, r => by cases n <;> simp [fl] at h
theorem fls_dp : ∀ {n : Nat} {ds : List D} {vs : List V}, fls n ds = true → Reps K H β vs ds → DpAll K H vs (pds ds) ∧ PyData.canLayAll0 (pds ds) = true ∧ PyData.depthAll (pds ds) ≤ n
  | n, [], _, h, r => by cases r; exact ⟨.nil, rfl, Nat.zero_le _⟩
  | n, d :: ds, _, h, r => by
    cases r with
    | cons r1 r2 =>
      have h' : fl n d = true ∧ fls n ds = true := by simpa [fls] using h
      obtain ⟨a, b, c⟩ := fl_dp h'.1 r1
      obtain ⟨a', b', c'⟩ := fls_dp h'.2 r2
      exact ⟨.cons a a', by simp [pds, PyData.canLayAll0, b, b'], by simp only [pds, PyData.depthAll]; omega⟩
end
end
theorem shaped_fl {K : PySem.W.Frag} {H : Hp} {β : List Addr} {d : D} {v : V} (h : fl 60 d = true) (r : Rep K H β v d) : SeqAt.shaped (pd d) = true := by
  obtain ⟨_, b, c⟩ := fl_dp h r
  unfold SeqAt.shaped
  rw [b]
  simp
  omega
/-- == of plain data -/
def eqd (x y : D) : Bool := PyData.eqv (pd x) (pd y)
def eqds (xs ys : List D) : Bool := PyData.eqvAll (pds xs) (pds ys)
/-- the answers of == -/
inductive EqR : D → D → Bool → Prop
  | data {x y : D} : fl 60 x = true → fl 60 y = true → EqR x y (eqd x y)
  | len {xs ys : List D} : xs.length ≠ ys.length → EqR (.lst xs) (.lst ys) false
def rEqD2 : RD2 := fun x y S Q => ∃ b, EqR (drf S x) (drf S y) b ∧ Q (.bl b) S
def rNeD2 : RD2 := fun x y S Q => ∃ b, EqR (drf S x) (drf S y) b ∧ Q (.bl (!b)) S
section
variable {X : Cx}
theorem lists_of {pins : List (Addr × Obj)} {σ : L2.St} {H : Hp} {s : Shared} {a : Addr} {xs : List V} (I : L2.Inv X pins σ H s) (h : H a = some (.lst xs)) : ∃ its : Array Value, s.heap.IsList a its ∧ its.size = xs.length := by
  obtain ⟨its, r, pl, _⟩ := I.list (.inl (.inl h))
  exact ⟨_, pl.isList, by simpa using r.length.symm⟩
theorem op_eq' (hu : X.A.units + 64 < cLine) : OpR X (compareOp .Eq) (l2 X.K G rEqD2) := by
  intro pins s σ H x y v u Q I rx ry ⟨Y, β, S, dx, dy, Q', o, r1, r2, ⟨b, h, q⟩, k⟩
  have e1 := o.drf r1
  have e2 := o.drf r2
  have fin := k _ S _ β H (.refl o) (.bl b) q
  generalize drf S dx = x' at h e1
  generalize drf S dy = y' at h e2
  cases h with
  | data f1 f2 => exact op_eqD hu pins s σ H x y v u Q I rx ry ⟨_, _, (fl_dp f1 e1).1, (fl_dp f2 e2).1, shaped_fl f1 e1, shaped_fl f2 e2, fin⟩
  | len hl =>
    cases e1 with
    | lst h1 h1' =>
      cases e2 with
      | lst h2 h2' =>
        cases rx
        cases ry
        obtain ⟨i1, l1, n1⟩ := lists_of I h1
        obtain ⟨i2, l2, n2⟩ := lists_of I h2
        exact SeqAt.eq_list_lengthsAt l1 l2 (by rw [n1, n2, h1'.len, h2'.len]; simpa using hl) (by omega) ⟨.bl false, H, I, rfl, fin⟩
theorem op_ne' (hu : X.A.units + 64 < cLine) : OpR X (compareOp .NotEq) (l2 X.K G rNeD2) := by
  intro pins s σ H x y v u Q I rx ry ⟨Y, β, S, dx, dy, Q', o, r1, r2, ⟨b, h, q⟩, k⟩
  have e1 := o.drf r1
  have e2 := o.drf r2
  have fin := k _ S _ β H (.refl o) (.bl (!b)) q
  generalize drf S dx = x' at h e1
  generalize drf S dy = y' at h e2
  cases h with
  | data f1 f2 => exact op_neD hu pins s σ H x y v u Q I rx ry ⟨_, _, (fl_dp f1 e1).1, (fl_dp f2 e2).1, shaped_fl f1 e1, shaped_fl f2 e2, fin⟩
  | len hl =>
    cases e1 with
    | lst h1 h1' =>
      cases e2 with
      | lst h2 h2' =>
        cases rx
        cases ry
        obtain ⟨i1, l1, n1⟩ := lists_of I h1
        obtain ⟨i2, l2, n2⟩ := lists_of I h2
        refine SeqAt.RcNeAt.lists_lengths l1 l2 (by rw [n1, n2, h1'.len, h2'.len]; simpa using hl) (by omega) _ _ _ _ ⟨.bl true, H, I, rfl, fin⟩
/-! in, not in -/
def itemsD : D → Option (List D)
  | .lst xs => some xs
  | .tup xs => some xs
  | _ => none
def rInD2 : RD2 := fun x y S Q => ∃ ys, itemsD (drf S y) = some ys ∧ fl 60 (drf S x) = true ∧ fls 59 ys = true ∧ Q (.bl (ys.any fun z => eqd z (drf S x))) S
def rNiD2 : RD2 := fun x y S Q => ∃ ys, itemsD (drf S y) = some ys ∧ fl 60 (drf S x) = true ∧ fls 59 ys = true ∧ Q (.bl (!ys.any fun z => eqd z (drf S x))) S
theorem any_pds {p : PyData → Bool} : ∀ ds : List D, (pds ds).any p = ds.any fun z => p (pd z)
  | [] => rfl
  | d :: ds => by simp [pds, any_pds ds]
theorem in_at {pins : List (Addr × Obj)} {σ : L2.St} {H : Hp} {s : Shared} {β : List Addr} {x y : V} {v u : Value} {dx dy : D} {ys : List D} (hu : X.A.units + 65 < cLine) (I : L2.Inv X pins σ H s) (rx : RelV x v) (ry : RelV y u) (e1 : Rep X.K H β x dx) (e2 : Rep X.K H β y dy)
    (hi : itemsD dy = some ys) (f1 : fl 60 dx = true) (f2 : fls 59 ys = true) :
    (∀ {E : Value → Shared → Prop} {Q : Value → Shared → Prop}, Q (.bool (ys.any fun z => eqd z dx)) s → wpAny (model X.prog X.w) X.A (compareOp .In v u) Q E s) ∧
    (∀ {E : Value → Shared → Prop} {Q : Value → Shared → Prop}, Q (.bool (!ys.any fun z => eqd z dx)) s → wpAny (model X.prog X.w) X.A (compareOp .NotIn v u) Q E s) := by
  obtain ⟨d1, c1, p1⟩ := fl_dp f1 e1
  obtain ⟨as, ra⟩ := Dp.reads I _ _ _ d1 rx
  have room : ∀ xs : List PyData, X.A.units + 1 + min (PyData.depthAll xs) (pd dx).depth < cLine := fun xs => by omega
  have hany : ∀ xs : List D, ((pds xs).any fun z => PyData.eqv z (pd dx)) = xs.any fun z => eqd z dx := fun xs => any_pds xs
  cases dy with
  | lst zs =>
    cases hi
    have f3 : fl 60 (.lst ys) = true := by simpa [fl] using f2
    obtain ⟨d2, c2, p2⟩ := fl_dp f3 e2
    obtain ⟨bs, rb⟩ := Dp.reads I _ _ _ d2 ry
    have c2' : PyData.canLayAll0 (pds ys) = true := by simpa [pd, PyData.canLay0] using c2
    exact ⟨fun q => SeqAt.in_list_reads rb ra c2' c1 (room _) (by rw [hany]; exact q), fun q => SeqAt.notIn_list_reads rb ra c2' c1 (room _) (by rw [hany]; exact q)⟩
  | tup zs =>
    cases hi
    have f3 : fl 60 (.tup ys) = true := by simpa [fl] using f2
    obtain ⟨d2, c2, p2⟩ := fl_dp f3 e2
    obtain ⟨bs, rb⟩ := Dp.reads I _ _ _ d2 ry
    have c2' : PyData.canLayAll0 (pds ys) = true := by simpa [pd, PyData.canLay0] using c2
    exact ⟨fun q => SeqAt.in_tuple_reads rb ra c2' c1 (room _) (by rw [hany]; exact q), fun q => SeqAt.notIn_tuple_reads rb ra c2' c1 (room _) (by rw [hany]; exact q)⟩
  | _ => cases hi
theorem op_in' (hu : X.A.units + 65 < cLine) : OpR X (compareOp .In) (l2 X.K G rInD2) := by
  intro pins s σ H x y v u Q I rx ry ⟨Y, β, S, dx, dy, Q', o, r1, r2, ⟨ys, hi, f1, f2, q⟩, k⟩
  exact (in_at hu I rx ry (o.drf r1) (o.drf r2) hi f1 f2).1 ⟨.bl _, H, I, rfl, k _ S _ β H (.refl o) (.bl _) q⟩
theorem op_ni' (hu : X.A.units + 65 < cLine) : OpR X (compareOp .NotIn) (l2 X.K G rNiD2) := by
  intro pins s σ H x y v u Q I rx ry ⟨Y, β, S, dx, dy, Q', o, r1, r2, ⟨ys, hi, f1, f2, q⟩, k⟩
  exact (in_at hu I rx ry (o.drf r1) (o.drf r2) hi f1 f2).2 ⟨.bl _, H, I, rfl, k _ S _ β H (.refl o) (.bl _) q⟩

/-! ints -/
def r2I (P : Int → Int → Prop) (g : Int → Int → D) : RD2 := fun x y S Q => ∃ i j, x = .int i ∧ y = .int j ∧ P i j ∧ Q (g i j) S
theorem op_int2 {f : Value → Value → Sem Value} {P : Int → Int → Prop} {gV : Int → Int → V} {g : Int → Int → D} (h : OpR X f (rI P gV)) (hr : ∀ i j B β, Rep X.K B β (gV i j) (g i j)) : OpR X f (l2 X.K G (r2I P g)) := by
  intro pins s σ H x y v u Q I rx ry ⟨Y, β, S, dx, dy, Q', o, r1, r2, ⟨i, j, ex, ey, p, q⟩, k⟩
  subst ex
  subst ey
  cases r1
  cases r2
  exact h pins s σ H _ _ v u Q I rx ry ⟨i, j, rfl, rfl, p, k _ S _ β H (.refl o) (hr i j _ _) q⟩
theorem op_int0 {f : Value → Value → Sem Value} {gV : Int → Int → V} {g : Int → Int → D} (h : OpR X f (rI0 gV)) (hr : ∀ i j B β, Rep X.K B β (gV i j) (g i j)) : OpR X f (l2 X.K G (r2I (fun _ _ => True) g)) := by
  intro pins s σ H x y v u Q I rx ry ⟨Y, β, S, dx, dy, Q', o, r1, r2, ⟨i, j, ex, ey, p, q⟩, k⟩
  subst ex
  subst ey
  cases r1
  cases r2
  exact h pins s σ H _ _ v u Q I rx ry ⟨i, j, rfl, rfl, k _ S _ β H (.refl o) (hr i j _ _) q⟩
abbrev T2 : Int → Int → Prop := fun _ _ => True
abbrev rSub : RD2 := r2I T2 fun i j => .int (i - j)
abbrev rLt : RD2 := r2I T2 fun i j => .bl (decide (i < j))
abbrev rLe : RD2 := r2I T2 fun i j => .bl (decide (i ≤ j))
abbrev rGt : RD2 := r2I T2 fun i j => .bl (decide (j < i))
abbrev rGe : RD2 := r2I T2 fun i j => .bl (decide (j ≤ i))
abbrev rDiv : RD2 := r2I CDivW fun i j => .int (i / j)
abbrev rMod : RD2 := r2I (fun _ j => 0 < j) fun i j => .int (i % j)
abbrev rPow : RD2 := r2I CPow fun i j => .int (i ^ j.toNat)
abbrev rMul : RD2 := r2I CMulW fun i j => .int (i * j)
theorem o_sub : OpR X (binaryOp .Sub) (l2 X.K G rSub) := op_int0 op_sub fun _ _ _ _ => .int _
theorem o_lt : OpR X (compareOp .Lt) (l2 X.K G rLt) := op_int0 op_lt fun _ _ _ _ => .bl _
theorem o_le : OpR X (compareOp .LtE) (l2 X.K G rLe) := op_int0 op_le fun _ _ _ _ => .bl _
theorem o_gt : OpR X (compareOp .Gt) (l2 X.K G rGt) := op_int0 op_gt fun _ _ _ _ => .bl _
theorem o_ge : OpR X (compareOp .GtE) (l2 X.K G rGe) := op_int0 op_ge fun _ _ _ _ => .bl _
theorem o_div : OpR X (binaryOp .FloorDiv) (l2 X.K G rDiv) := op_int2 op_fdivW fun _ _ _ _ => .int _
theorem o_mod : OpR X (binaryOp .Mod) (l2 X.K G rMod) := op_int2 op_mod fun _ _ _ _ => .int _
theorem o_pow : OpR X (binaryOp .Pow) (l2 X.K G rPow) := op_int2 op_pow fun _ _ _ _ => .int _
/-- * : one factor below 2^64, or both below a million bits together -/
def CMul3 (i j : Int) : Prop := CMul i j ∨ CMulW i j
abbrev rMulI : RD2 := r2I CMul3 fun i j => .int (i * j)
theorem o_mul : OpR X (binaryOp .Mult) (l2 X.K G rMulI) := op_int2 (opI fun _ _ _ _ _ _ _ hc q => mul_int q (hc.elim CMul.ok CMulW.ok)) fun _ _ _ _ => .int _
theorem o_neg : UnR X (unaryOp .USub) (l1 X.K G fun x S Q => ∃ i, x = .int i ∧ Q (.int (-i)) S) := by
  intro pins s σ H x v Q I rx ⟨Y, β, S, dx, Q', o, r1, ⟨i, ex, q⟩, k⟩
  subst ex
  cases r1
  exact un_neg pins s σ H _ v Q I rx ⟨i, rfl, k _ S _ β H (.refl o) (.int _) q⟩
/-! + -/
def rAdd : RD2 := fun x y S Q => match drf S x, drf S y with
  | .int i, .int j => Q (.int (i + j)) S
  | .str a, .str b => a.length + b.length ≤ sizeLine ∧ Q (.str (a ++ b)) S
  | .lst a, .lst b => a.length + b.length ≤ sizeLine ∧ Q (.lst (a ++ b)) S
  | _, _ => False
theorem o_add : OpR X (binaryOp .Add) (l2 X.K G rAdd) := by
  intro pins s σ H x y v u Q I rx ry ⟨Y, β, S, dx, dy, Q', o, r1, r2, h, k⟩
  have e1 := o.drf r1
  have e2 := o.drf r2
  unfold rAdd at h
  generalize hx : drf S dx = x' at h e1
  generalize hy : drf S dy = y' at h e2
  cases x' <;> cases y' <;> try exact h.elim
  · cases e1
    cases e2
    exact op_add pins s σ H _ _ v u Q I rx ry ⟨_, _, rfl, rfl, k _ S _ β H (.refl o) (.int _) h⟩
  · cases e1
    cases e2
    exact op_add_str pins s σ H _ _ v u Q I rx ry ⟨_, _, rfl, rfl, h.1, k _ S _ β H (.refl o) (.str _) h.2⟩
  · rename_i xs ys
    obtain ⟨a, us, rfl, h1, q1⟩ := ok_lst o r1 hx
    obtain ⟨b, ws, rfl, h2, q2⟩ := ok_lst o r2 hy
    exact op_cat pins s σ H _ _ v u Q I rx ry ⟨a, b, us, ws, rfl, rfl, h1, h2, by rw [q1.len, q2.len]; exact h.1, fun p hp => k _ S _ β _ (o.new _ hp) (o.newLst hp (q1.append q2)) h.2⟩
end
end NC

set_option Elab.async false
set_option linter.all false
set_option maxRecDepth 100000
set_option maxHeartbeats 1000000
/-! NC7: items, slices, built-ins over data. -/
namespace NC
open PySem PySem.Spec PyProof.Rows L2
open Evl (Ex)

theorem Reps.atI {K : PySem.W.Frag} {B : Hp} {β : List Addr} {vs : List V} {xs : List D} {i : Int} {d : D} (r : Reps K B β vs xs) (h : atI xs i = some d) : ∃ v, L2.atI vs i = some v ∧ Rep K B β v d := by
  unfold L2.atI at h ⊢
  rw [r.len]
  obtain ⟨j, e1, e2⟩ := Option.bind_eq_some_iff.mp h
  obtain ⟨v, e3, q⟩ := r.get e2
  exact ⟨v, by rw [e1]; exact e3, q⟩
section
variable {X : Cx}
/-! items -/
def rIx2 : RD2 := fun x y S Q => ∃ xs i d, seqOf (drf S x) = some xs ∧ y = .int i ∧ atI xs i = some d ∧ Q d S
theorem o_ix : IxR X (l2 X.K G rIx2) := by
  intro value slice pins s σ H x y v u Q I rx ry ⟨Y, β, S, dx, dy, Q', o, r1, r2, ⟨xs, i, d, hx, ey, hd, q⟩, k⟩ hs
  subst ey
  cases r2
  obtain ⟨a, vs, rfl, hk, rs⟩ := ok_seq o r1 hx
  obtain ⟨w, e, rw'⟩ := rs.atI hd
  have fin := k d S w β H (.refl o) rw' q
  rcases hk with hk | hk
  · exact ix_list value slice pins s σ H _ _ v u Q I rx ry ⟨a, vs, i, w, rfl, rfl, hk, e, fin⟩ hs
  · exact ix_tup value slice pins s σ H _ _ v u Q I rx ry ⟨a, vs, i, w, rfl, rfl, hk, e, fin⟩ hs
/-! slices -/
abbrev TOd := Rho → Store → (Option Int → Store → Prop) → Prop
def tOd (K : PySem.W.Frag) (G : Gh) (t : TOd) : TO := fun σ H Q => ∃ Y β S ρ Q', Rel K G Y β S ρ σ H ∧ t ρ S Q' ∧ ∀ d S' β' H', Step K G Y β S H β' S' H' → Q' d S' → Q d H'
def oNone : TOd := fun _ S Q => Q none S
def oSome (t : TD) : TOd := fun ρ S Q => t ρ S fun x S1 => ∃ i, x = .int i ∧ Q (some i) S1
theorem do_none : PO X none (tOd X.K G oNone) := ⟨fun pins s σ H Q I ⟨Y, β, S, ρ, Q', rl, q, k⟩ => po_none.run pins s σ H Q I (k none S β H (.refl rl.ok) q)⟩
theorem do_some {e : Expr} {ta : TD} (h : PE X e (tE X.K G ta)) : PO X (some e) (tOd X.K G (oSome ta)) := ⟨fun pins s σ H Q I ⟨Y, β, S, ρ, Q', rl, q, k⟩ => (po_some h).run pins s σ H Q I
  ⟨Y, β, S, ρ, _, rl, q, fun x S1 v β1 H1 s1 r1 ⟨i, ex, q1⟩ => by
    subst ex
    cases r1
    exact ⟨i, rfl, k _ S1 β1 H1 s1 q1⟩⟩⟩
def cutD (xs : List D) (lo hi : Option Int) : List D := (xs.drop (HT.sIx xs.length 0 lo)).take (HT.sIx xs.length xs.length hi - HT.sIx xs.length 0 lo)
theorem Reps.cut {K : PySem.W.Frag} {B : Hp} {β : List Addr} {vs : List V} {xs : List D} {lo hi : Option Int} (r : Reps K B β vs xs) : Reps K B β (cutV vs lo hi) (cutD xs lo hi) := by
  unfold cutV cutD
  rw [r.len]
  exact (r.drop _).take _
abbrev RDsl := D → Option Int → Option Int → Store → QD → Prop
def lsl (K : PySem.W.Frag) (G : Gh) (r : RDsl) : V → Option Int → Option Int → Hp → VK → Prop := fun v lo hi H Q => ∃ Y β S x Q', Ok K G Y β S H ∧ Rep K (hid Y β S H) β v x ∧ r x lo hi S Q' ∧ out K G Y β S H Q' Q
def rCut : RDsl := fun x lo hi S Q => match drf S x with
  | .lst xs => Q (.lst (cutD xs lo hi)) S
  | .ro xs => Q (.lst (cutD xs lo hi)) S
  | .tup xs => Q (.tup (cutD xs lo hi)) S
  | _ => False
theorem cut_whole {xs : List D} {lo hi : Option Int} (h : HT.sIx xs.length 0 lo = 0 ∧ HT.sIx xs.length xs.length hi = xs.length) : cutD xs lo hi = xs := by
  unfold cutD
  rw [h.1, h.2, List.drop_zero, Nat.sub_zero, List.take_length]
theorem o_cut : SlR X (lsl X.K G rCut) := by
  intro pins s σ H x v vl vu lo hi sl Q I rx hs pl pu ⟨Y, β, S, dx, Q', o, r1, h, k⟩
  unfold rCut at h
  cases hx : drf S dx with
  | lst xs =>
    rw [hx] at h
    obtain ⟨a, vs, rfl, h1, rs⟩ := ok_lst o r1 hx
    exact sl_list pins s σ H _ v vl vu lo hi sl Q I rx hs pl pu ⟨a, vs, rfl, .inl (.inl h1), fun p hp => k _ S _ β _ (o.new _ hp) (o.newLst hp rs.cut) h⟩
  | ro xs =>
    rw [hx] at h
    obtain ⟨a, vs, rfl, h1, rs⟩ := ok_seq o r1 (by rw [hx]; rfl)
    have h1' : SqL X.K H a vs := by
      rcases h1 with h1 | h1
      · exact h1
      · cases dx with
        | ref n =>
          simp only [NC.drf] at hx
          split at hx <;> cases hx
        | ro zs =>
          cases r1 with
          | ro q1 q2 =>
            obtain ⟨i1, v1, p1, _⟩ := I.list (Evl.ex_l hid_ex q1)
            obtain ⟨i2, v2, p2, _⟩ := I.tuple h1
            obtain ⟨o1, _, e1, c1, _, _⟩ := p1
            obtain ⟨o2, e2, c2, _⟩ := p2
            rw [e1] at e2
            cases e2
            exact absurd (c1.symm.trans c2) (by simp)
        | _ => simp [NC.drf] at hx
    exact sl_list pins s σ H _ v vl vu lo hi sl Q I rx hs pl pu ⟨a, vs, rfl, h1', fun p hp => k _ S _ β _ (o.new _ hp) (o.newLst hp rs.cut) h⟩
  | tup xs =>
    rw [hx] at h
    obtain ⟨a, vs, rfl, h1, rs⟩ := ok_tup o r1 hx
    refine sl_tupA pins s σ H _ v vl vu lo hi sl Q I rx hs pl pu ⟨a, vs, rfl, .inl (.inl (hid_ex _ _ h1)), fun hw => ?_, fun hw p hp => k _ S _ β _ (o.new _ hp) (o.newTup hp rs.cut) h⟩
    rw [rs.len] at hw
    have h : Q' (.tup (cutD xs lo hi)) S := h
    rw [cut_whole hw] at h
    exact k _ S _ β H (.refl o) (.tup h1 rs) h
  | _ => rw [hx] at h; exact h.elim
def eCut (ta : TD) (lo hi : TOd) : TD := fun ρ S Q => ta ρ S fun x S1 => lo ρ S1 fun l S2 => hi ρ S2 fun u S3 => rCut x l u S3 Q
theorem de_cut {e : Expr} {lo hi : Option Expr} {p2 pos : Pos} {ta : TD} {tl th : TOd} (he : PE X e (tE X.K G ta)) (hl : PO X lo (tOd X.K G tl)) (hu : PO X hi (tOd X.K G th)) : PE X (.Subscript e (.Slice lo hi none p2) pos) (tE X.K G (eCut ta tl th)) :=
  (pe_slice o_cut he hl hu).imp fun σ H Q ⟨Y, β, S, ρ, Q', rl, q, k⟩ => ⟨Y, β, S, ρ, _, rl, q, fun x S1 v β1 H1 s1 r1 q1 => ⟨Y, β1, S1, ρ, _, rl.step s1, q1, fun l S2 β2 H2 s2 q2 => ⟨Y, β2, S2, ρ, _, (rl.step s1).step s2, q2, fun u S3 β3 H3 s3 q3 =>
    ⟨Y, β3, S3, x, Q', s3.ok, s3.rep (s2.rep r1), q3, fun d S4 w β4 H4 s4 r4 q4 => k d S4 w β4 H4 (((s1.trans s2).trans s3).trans s4) r4 q4⟩⟩⟩⟩

/-! built-ins by values -/
def rLen : RDs := fun xs S Q => match xs with
  | [x] => match drf S x with
    | .str z => z.length ≤ sizeLine ∧ Q (.int z.length) S
    | d => ∃ ys, seqOf d = some ys ∧ Q (.int ys.length) S
  | _ => False
theorem c_len : CallR X (.builtin "len") (ls X.K G rLen) := by
  intro pins s σ H xs us Q I rv ⟨Y, β, S, ds, Q', o, rs, h, k⟩
  cases ds with
  | nil => exact h.elim
  | cons d ds =>
    cases ds with
    | cons _ _ => exact h.elim
    | nil =>
      obtain ⟨v, rfl, r⟩ := rs.one
      have seq : ∀ ys, seqOf (drf S d) = some ys → Q' (.int ys.length) S → wpAny (model X.prog X.w) X.A (call (.builtin "len") us) (EP X pins σ Q) X.xe s := fun ys hy q => by
        obtain ⟨a, ws, rfl, hk, rr⟩ := ok_seq o r hy
        exact call_len_seq pins s σ H _ us Q I rv ⟨a, ws, rfl, hk, by rw [rr.len]; exact k _ S _ β H (.refl o) (.int _) q⟩
      unfold rLen at h
      cases hd : drf S d with
      | str z =>
        simp only [hd] at h
        have e1 := o.drf r
        rw [hd] at e1
        cases e1
        exact call_len_str pins s σ H _ us Q I rv ⟨z, rfl, h.1, k _ S _ β H (.refl o) (.int _) h.2⟩
      | _ =>
        simp only [hd] at h
        obtain ⟨ys, hy, q⟩ := h
        exact seq ys (by rw [hd]; exact hy) q
def rInt1 : RDs := fun xs S Q => match xs with
  | [.int i] => Q (.int i) S
  | [.bl b] => Q (.int (if b then 1 else 0)) S
  | _ => False
theorem c_int : CallR X (.type "int") (ls X.K G rInt1) := by
  intro pins s σ H xs us Q I rv ⟨Y, β, S, ds, Q', o, rs, h, k⟩
  unfold rInt1 at h
  split at h
  · obtain ⟨v, rfl, r⟩ := rs.one
    cases r
    exact call_int1 pins s σ H _ us Q I rv (.inl ⟨_, rfl, k _ S _ β H (.refl o) (.int _) h⟩)
  · obtain ⟨v, rfl, r⟩ := rs.one
    cases r
    exact call_int1 pins s σ H _ us Q I rv (.inr ⟨_, rfl, k _ S _ β H (.refl o) (.int _) h⟩)
  · exact h.elim
def rAbs : RDs := fun xs S Q => match xs with
  | [.int i] => Q (.int (if i < 0 then -i else i)) S
  | _ => False
theorem c_abs : CallR X (.builtin "abs") (ls X.K G rAbs) := by
  intro pins s σ H xs us Q I rv ⟨Y, β, S, ds, Q', o, rs, h, k⟩
  unfold rAbs at h
  split at h
  · obtain ⟨v, rfl, r⟩ := rs.one
    cases r
    exact call_abs pins s σ H _ us Q I rv ⟨_, rfl, k _ S _ β H (.refl o) (.int _) h⟩
  · exact h.elim
def rTuple : RDs := fun xs S Q => match xs with
  | [x] => ∃ ys, itemsD (drf S x) = some ys ∧ Q (.tup ys) S
  | _ => False
theorem c_tuple : CallR X (.type "tuple") (ls X.K G rTuple) := by
  intro pins s σ H xs us Q I rv ⟨Y, β, S, ds, Q', o, rs, h, k⟩
  unfold rTuple at h
  split at h
  · rename_i d
    obtain ⟨v, rfl, r⟩ := rs.one
    obtain ⟨ys, hy, q⟩ := h
    cases hd : drf S d with
    | lst zs =>
      rw [hd] at hy
      cases hy
      obtain ⟨a, ws, rfl, h1, rr⟩ := ok_lst o r hd
      exact call_tuple_of pins s σ H _ us Q I rv ⟨a, ws, rfl, .inl ⟨.inl (.inl h1), fun p hp => k _ S _ β _ (o.new _ hp) (o.newTup hp rr) q⟩⟩
    | tup zs =>
      rw [hd] at hy
      cases hy
      obtain ⟨a, ws, rfl, h1, rr⟩ := ok_tup o r hd
      exact call_tuple_of pins s σ H _ us Q I rv ⟨a, ws, rfl, .inr ⟨.inl (.inl (hid_ex _ _ h1)), k _ S _ β H (.refl o) (.tup h1 rr) q⟩⟩
    | _ => rw [hd] at hy; cases hy
  · exact h.elim
def rList : RDs := fun xs S Q => match xs with
  | [x] => ∃ ys, seqOf (drf S x) = some ys ∧ Q (.lst ys) S
  | _ => False
def rListM : RDs := fun xs S Q => match xs with
  | [x] => ∃ ys, seqOf (drf S x) = some ys ∧ Q (.ref S.length) (S ++ [some (.lst ys)])
  | _ => False
theorem c_list : CallR X (.type "list") (ls X.K G rList) := by
  intro pins s σ H xs us Q I rv ⟨Y, β, S, ds, Q', o, rs, h, k⟩
  unfold rList at h
  split at h
  · obtain ⟨v, rfl, r⟩ := rs.one
    obtain ⟨ys, hy, q⟩ := h
    obtain ⟨a, ws, rfl, hk, rr⟩ := ok_seq o r hy
    exact call_list_of pins s σ H _ us Q I rv ⟨a, ws, rfl, hk, fun p hp => k _ S _ β _ (o.new _ hp) (o.newLst hp rr) q⟩
  · exact h.elim
theorem c_listM : CallR X (.type "list") (ls X.K G rListM) := by
  intro pins s σ H xs us Q I rv ⟨Y, β, S, ds, Q', o, rs, h, k⟩
  unfold rListM at h
  split at h
  · obtain ⟨v, rfl, r⟩ := rs.one
    obtain ⟨ys, hy, q⟩ := h
    obtain ⟨a, ws, rfl, hk, rr⟩ := ok_seq o r hy
    exact call_list_of pins s σ H _ us Q I rv ⟨a, ws, rfl, hk, fun p hp => k _ _ _ _ _ (o.alloc hp rr) (o.allocRep (H' := H)) q⟩
  · exact h.elim
theorem Reps.bls {K : PySem.W.Frag} {B : Hp} {β : List Addr} : ∀ {bs : List Bool} {vs : List V}, Reps K B β vs (bs.map D.bl) → vs = bs.map V.bl
  | [], _, h => by cases h; rfl
  | b :: bs, _, h => by
    cases h with
    | cons h1 h2 =>
      cases h1
      rw [Reps.bls h2]
      rfl
def rAll2 : RDs := fun xs S Q => match xs with
  | [x] => ∃ bs : List Bool, drf S x = .lst (bs.map D.bl) ∧ Q (.bl (bs.all id)) S
  | _ => False
def rAny2 : RDs := fun xs S Q => match xs with
  | [x] => ∃ bs : List Bool, drf S x = .lst (bs.map D.bl) ∧ Q (.bl (bs.any id)) S
  | _ => False
theorem c_all (hc : X.calm = true) : CallR X (.builtin "all") (ls X.K G rAll2) := by
  intro pins s σ H xs us Q I rv ⟨Y, β, S, ds, Q', o, rs, h, k⟩
  unfold rAll2 at h
  split at h
  · obtain ⟨v, rfl, r⟩ := rs.one
    obtain ⟨bs, hb, q⟩ := h
    obtain ⟨a, ws, rfl, h1, rr⟩ := ok_lst o r hb
    have e := rr.bls
    subst e
    exact cr_all hc pins s σ H _ us Q I rv ⟨a, bs, rfl, .inl (.inl h1), k _ S _ β H (.refl o) (.bl _) q⟩
  · exact h.elim
theorem c_any (hc : X.calm = true) : CallR X (.builtin "any") (ls X.K G rAny2) := by
  intro pins s σ H xs us Q I rv ⟨Y, β, S, ds, Q', o, rs, h, k⟩
  unfold rAny2 at h
  split at h
  · obtain ⟨v, rfl, r⟩ := rs.one
    obtain ⟨bs, hb, q⟩ := h
    obtain ⟨a, ws, rfl, h1, rr⟩ := ok_lst o r hb
    have e := rr.bls
    subst e
    exact cr_any hc pins s σ H _ us Q I rv ⟨a, bs, rfl, .inl (.inl h1), k _ S _ β H (.refl o) (.bl _) q⟩
  · exact h.elim

/-! isinstance of built-in types -/
def tyD : D → Option String
  | .non => some "NoneType"
  | .bl _ => some "bool"
  | .int _ => some "int"
  | .str _ => some "str"
  | .lst _ => some "list"
  | .ro _ => some "list"
  | .tup _ => some "tuple"
  | .dic _ => some "dict"
  | .dit _ => some "dict"
  | .ref _ => none
def isiD (d : D) (T : String) : Option Bool := (tyD d).bind fun t => kitB t T
theorem ty_ok {Y β : List Addr} {S : Store} {H : Hp} {K : PySem.W.Frag} {v : V} {d : D} {t : String} (o : Ok K G Y β S H) (r : Rep K (hid Y β S H) β v d) (h : tyD (drf S d) = some t) : TyX K H v (.type t) := by
  have r' := o.drf r
  generalize drf S d = e at h r'
  cases e with
  | non => cases h; cases r'; exact .base .non
  | bl b => cases h; cases r'; exact .base (.bl b)
  | int i => cases h; cases r'; exact .base (.int i)
  | str x => cases h; cases r'; exact .base (.str x)
  | lst xs =>
    cases h
    cases r' with
    | lst h1 h2 => exact .base (.lst h1)
  | ro xs =>
    cases h
    cases r' with
    | ro h1 h2 =>
      rcases h1 with (h1 | ⟨_, h1⟩) | ⟨ob, _, _, e1, e2, _⟩
      · exact .base (.lst h1)
      · exact .base (.frz h1)
      · exact .kList e1 e2
  | tup xs =>
    cases h
    cases r' with
    | tup h1 h2 => exact .base (.tup h1)
  | dic ks =>
    cases h
    cases r' with
    | dic h1 h2 => exact .base (.dK h1)
  | dit ks =>
    cases h
    cases r' with
    | dit h1 h2 => exact .base (.dT h1)
  | ref n => cases h
def eIsi (T : String) (ta : TD) : TD := fun ρ S Q => ta ρ S fun x S1 => ∃ b, isiD (drf S1 x) T = some b ∧ Q (.bl b) S1
def eIsi2 (T1 T2 : String) (ta : TD) : TD := fun ρ S Q => ta ρ S fun x S1 => ∃ b c, isiD (drf S1 x) T1 = some b ∧ isiD (drf S1 x) T2 = some c ∧ Q (.bl (b || c)) S1
variable {e f : Expr} {es : List Expr} {ta : TD} {p pos : Pos}
theorem de_isi {T : String} (h : PE X e (tCB (rIsi X.K) (tCons (tE X.K G ta) (tCons (tC (.ty T)) tNil)))) : PE X e (tE X.K G (eIsi T ta)) := h.imp fun σ H Q ⟨Y, β, S, ρ, Q', rl, q, k⟩ => ⟨Y, β, S, ρ, _, rl, q, fun x S1 v β1 H1 s1 r1 ⟨b, hb, q1⟩ => by
  obtain ⟨t, e1, e2⟩ := Option.bind_eq_some_iff.mp hb
  exact ⟨v, .ty T, _, _, b, rfl, .ty T, ty_ok s1.ok r1 e1, kit_ty e2, k _ S1 _ β1 H1 s1 (.bl _) q1⟩⟩
theorem de_isi2 {T1 T2 : String} (h : PE X e (tCB (rIsiT X.K) (tCons (tE X.K G ta) (tCons (tTup (tCons (tC (.ty T1)) (tCons (tC (.ty T2)) tNil))) tNil)))) : PE X e (tE X.K G (eIsi2 T1 T2 ta)) := h.imp fun σ H Q ⟨Y, β, S, ρ, Q', rl, q, k⟩ => ⟨Y, β, S, ρ, _, rl, q, fun x S1 v β1 H1 s1 r1 ⟨b, c, hb, hc, q1⟩ => by
  obtain ⟨t, e1, e2⟩ := Option.bind_eq_some_iff.mp hb
  obtain ⟨t', e1', e3⟩ := Option.bind_eq_some_iff.mp hc
  rw [e1] at e1'
  cases e1'
  refine ⟨by show 2 ≤ sizeLine; decide, fun p hp => ?_⟩
  have st := s1.ok.new (.tup [.ty T1, .ty T2]) hp
  refine ⟨v, p, _, _, [.type T1, .type T2], b || c, rfl, upd_same, .cons (.ty T1) (.cons (.ty T2) .nil), ty_ok st.ok (st.rep r1) e1, ?_, k _ S1 _ β1 _ (s1.trans st) (.bl _) q1⟩
  refine kitAny_cons (kit_ty e2) (fun hb => kitAny_cons (kit_ty e3) (fun hc => ?_) fun hc => ?_) fun hb => ?_
  · rw [hb, hc]
    exact kitAny_nil
  · rw [hb, hc]
    rfl
  · rw [hb]
    rfl⟩

/-! how many unlike tuples of ints -/
def tupI (ks : List Int) : D := .tup (ks.map D.int)
def rLenSet : RD1 := fun x S Q => ∃ kss : List (List Int), drf S x = .lst (kss.map tupI) ∧ kss.length < 64 ∧ ∀ L : List (List Int), L.Nodup → (∀ y, y ∈ L ↔ y ∈ kss) → Q (.int L.length) S
theorem Reps.int' {K : PySem.W.Frag} {B : Hp} {β : List Addr} : ∀ {ns : List Int} {vs : List V}, Reps K B β vs (ns.map D.int) → vs = ns.map V.int
  | [], _, h => by cases h; rfl
  | b :: bs, _, h => by
    cases h with
    | cons h1 h2 =>
      cases h1
      rw [Reps.int' h2]
      rfl
theorem tups_of {K : PySem.W.Frag} {B : Hp} {β : List Addr} : ∀ {kss : List (List Int)} {vs : List V}, Reps K B β vs (kss.map tupI) → ∃ ks : List (Addr × List Int), vs = ks.map (fun p => V.ref p.1) ∧ ks.map (·.2) = kss ∧ ∀ p ∈ ks, SqT K B p.1 (p.2.map V.int)
  | [], _, h => by cases h; exact ⟨[], rfl, rfl, fun p hp => nomatch hp⟩
  | k :: kss, _, h => by
    cases h with
    | cons h1 h2 =>
      obtain ⟨ks, rfl, e2, h3⟩ := tups_of h2
      cases h1 with
      | tup h4 h5 =>
        rename_i a ws
        have e := h5.int'
        subst e
        refine ⟨(a, k) :: ks, rfl, by simp [e2], fun p hp => ?_⟩
        rcases List.mem_cons.mp hp with z | z
        · rw [z]
          exact .inl (.inl h4)
        · exact h3 p z
def rLenSetV (K : PySem.W.Frag) (P : Program) (w : World) : List V → Hp → VK → Prop := fun xs H Q => ∃ (a : Addr) (L : List (Addr × List Int)), xs = [V.ref a] ∧ H a = some (SetTO P w a L) ∧ (∀ p ∈ L, SqT K H p.1 (p.2.map V.int)) ∧ ((L.map (·.2)).Nodup → Q (.int L.length) H)
theorem c_lenSet : CallR X (.builtin "len") (rLenSetV X.K X.prog X.w) := by
  intro pins s σ H xs us Q I rv ⟨a, L, ex, ha, hk, q⟩
  subst ex
  have R0 : SetT0 X.prog X.w s.heap a L := (I.hok a _ ha).1
  obtain ⟨es, ep, t, R⟩ := R0.full fun p hp => I.isT (hk p hp)
  rw [Vals.ref1 rv]
  obtain ⟨o, ho, hex, hd⟩ := R.ob
  have hsz := R.size
  have hfew := R.few
  exact call_len_set ho hex hd R.fits (by rw [hsz]; omega) ⟨.int L.length, H, I.tok _, ⟨_, by rw [hsz]⟩, q R.nd⟩
theorem de_lenSet (h : PE X e (tCB (rLenSetV X.K X.prog X.w) (tCons (tCB (rSetOfT X.K X.prog X.w) (tCons (tE X.K G ta) tNil)) tNil))) : PE X e (tE X.K G (eUn rLenSet ta)) := h.imp fun σ H Q ⟨Y, β, S, ρ, Q', rl, q, k⟩ => ⟨Y, β, S, ρ, _, rl, q, fun x S1 v β1 H1 s1 r1 ⟨kss, hx, hl, q1⟩ => by
  obtain ⟨a, ws, rfl, h1, rr⟩ := ok_lst s1.ok r1 hx
  obtain ⟨ks, rfl, e2, h3⟩ := tups_of rr
  refine ⟨a, ks, rfl, .inl (.inl h1), fun p hp => Evl.ex_t hid_ex (h3 p hp), by rw [← e2, List.length_map] at hl; exact hl, fun b L hb l1 l2 => ?_⟩
  have st := s1.ok.new (SetTO X.prog X.w b L) hb
  refine ⟨b, L, rfl, upd_same, fun p hp => Evl.ex_t (Ex.trans st.ex hid_ex) (h3 p (l1 p hp)), fun nd => ?_⟩
  refine k _ S1 _ β1 _ (s1.trans st) (.int _) ?_
  have := q1 (L.map (·.2)) nd fun y => ⟨fun hy => ?_, fun hy => ?_⟩
  · rwa [List.length_map] at this
  · obtain ⟨p, hp, rfl⟩ := List.mem_map.mp hy
    rw [← e2]
    exact List.mem_map_of_mem (l1 p hp)
  · rw [← e2] at hy
    obtain ⟨p, hp, rfl⟩ := List.mem_map.mp hy
    exact l2 p hp⟩

/-! enumerate of a list -/
def enumD (xs : List D) : List D := xs.mapIdx fun i d => .tup [.int i, d]
def sEnum (ta : TD) : TSr := fun ρ S Q => aCons ta aNil ρ S fun ds S1 => ∃ d xs, ds = [d] ∧ drf S1 d = .lst xs ∧ Q (enumD xs) (fun S' => drf S' d = drf S1 d) S1
theorem enum_iter {K : PySem.W.Frag} {Y β : List Addr} {S : Store} {H : Hp} {a : Addr} {d : D} {xs : List D} (r : Rep K (hid Y β S H) β (.ref a) d) (h : drf S d = .lst xs) : IterOk K G Y β S H (Ite K a) (enumD xs) fun S' => drf S' d = drf S d := by
  refine ⟨fun Z β' S' H' l st i t ht => ?_, fun Z β' S' H' l st => ?_⟩
  · obtain ⟨b, vs, eb, h1, rr⟩ := ok_lst l.ok (r.mono l.ex l.pre) (st.trans h)
    cases eb
    have hi : i < xs.length := by
      have := (List.getElem?_eq_some_iff.mp ht).1
      simpa [enumD] using this
    have et : t = .tup [.int i, xs[i]] := by
      have := (List.getElem?_eq_some_iff.mp ht).2
      simpa [enumD] using this.symm
    obtain ⟨v, e1, rv⟩ := rr.get (List.getElem?_eq_getElem hi)
    have sq : SqL K H' a vs := .inl (.inl h1)
    refine ⟨⟨vs, v, sq, e1⟩, fun x H'' hy => ?_⟩
    obtain ⟨T, y, rfl, hT, rfl, hy⟩ := hy
    have := hy vs sq
    rw [e1] at this
    cases this
    subst et
    exact ⟨l.ok.new _ hT, l.ok.newTup hT (.cons (.int _) (.cons rv .nil))⟩
  · obtain ⟨b, vs, eb, h1, rr⟩ := ok_lst l.ok (r.mono l.ex l.pre) (st.trans h)
    cases eb
    exact ⟨vs, .inl (.inl h1), by rw [rr.len]; simp [enumD]⟩
theorem di_enum {elts : List Expr} {kk : Nat} {tpos : Pos} (hg : Gl X "enumerate") (hm : X.mg "enumerate" = none) (ha : PE X e (tE X.K G ta)) (hs1 : starEach [e] X.env = (false, eval e X.env) :: starEach [] X.env := by rfl) (hs : starEach [e] X.env = [(false, eval e X.env)] := by rfl) :
    PI X (.Tuple elts kk tpos) (.Call (.Name "enumerate" p) [e] [] pos) (tI X.K G (sEnum ta)) :=
  (pi_enum hg hm (da_cons ha da_nil hs1) hs).imp fun σ H R ⟨Y, β, S, ρ, Q', rl, q, k⟩ => ⟨Y, β, S, ρ, fun ds S1 => ∃ d xs, ds = [d] ∧ drf S1 d = .lst xs ∧ Q' (enumD xs) (fun S' => drf S' d = drf S1 d) S1, rl, q, fun ds S1 vs β1 H1 s1 r1 ⟨d, xs, ed, hd, q1⟩ => by
    subst ed
    obtain ⟨v, rfl, r⟩ := r1.one
    obtain ⟨a, ws, rfl, h1, rr⟩ := ok_lst s1.ok r hd
    exact ⟨a, ws, rfl, .inl (.inl h1), k _ _ _ _ _ _ s1 (enum_iter r hd) q1⟩⟩
end
end NC

set_option Elab.async false
set_option linter.all false
set_option maxRecDepth 100000
set_option maxHeartbeats 1000000
/-! NC8: repr over data. -/
namespace NC
open PySem PySem.Spec PyProof.Rows L2
open Evl (Ex)

section
variable {P : Program} {w : World} {h : Heap}
/-- a value that reads as d, and how it is shown -/
def Shw (P : Program) (w : World) (h : Heap) (v : Value) (d : PyData) : Prop :=
  ∃ as bs, Reads h v d as ∧ ReadAtMost h d.depth bs ∧ ReprK P w bs h d.depth v d.shown ∧ ∀ a, v = .ref a → ∃ T idr, ShowsBy P w h a d T idr
def ShwAll (P : Program) (w : World) (h : Heap) (vs : List Value) (ds : List PyData) : Prop :=
  ∃ as bs, ReadsAll h vs ds as ∧ ReadAtMost h (PyData.depthAll ds) bs ∧ ReprAllK P w bs h (PyData.depthAll ds) vs (PyData.shownAll ds)
theorem shwAll_nil : ShwAll P w h [] [] := ⟨_, [], .nil, fun _ h => (nomatch h), by simp only [PyData.shownAll]; exact .nil⟩
theorem shwAll_cons {v : Value} {d : PyData} {vs : List Value} {ds : List PyData} (x : Shw P w h v d) (y : ShwAll P w h vs ds) : ShwAll P w h (v :: vs) (d :: ds) := by
  obtain ⟨as, bs, r, hb, hk, _⟩ := x
  obtain ⟨as', bs', r', hb', hk'⟩ := y
  refine ⟨_, bs ++ bs', .cons r r', ?_, ?_⟩
  · simp only [PyData.depthAll]
    exact (hb.mono (Nat.le_max_left _ _)).append (hb'.mono (Nat.le_max_right _ _))
  · simp only [PyData.depthAll, PyData.shownAll]
    exact .cons ((hk.more fun b hb => List.mem_append_left _ hb).level_le (Nat.le_max_left _ _)) (hk'.more_le (fun b hb => List.mem_append_right _ hb) (Nat.le_max_right _ _))
theorem shw_list {a : Addr} {o : Obj} {l : List Value} {n : Nat} {xs : List PyData} (h1 : h.get? a = some o) (h2 : o.cls = .type "list") (h3 : o.data = .seq l.toArray n) (y : ShwAll P w h l xs)
    (hz : (PyData.shown (.list xs)).length ≤ sizeLine) : Shw P w h (.ref a) (.list xs) := by
  obtain ⟨as, bs, r', hb, hk⟩ := y
  have r : Reads h (.ref a) (.list xs) (a :: as) := .list h1 h2 h3 r'
  have hna : a ∉ bs := not_mem_of_deeper r (by simp only [PyData.depth]; omega) hb
  refine ⟨_, a :: bs, r, ReadAtMost.cons r (by simp only [PyData.depth]; omega) hb, ?_, ?_⟩
  · simp only [PyData.depth, PyData.shown]
    cases l with
    | nil =>
      cases r'
      simp only [PyData.shownAll, listText_nil]
      exact ReprK.listEmpty h1 h2 h3
    | cons x l => exact ReprK.list h1 h2 h3 hna (by simpa using hk.length_eq) (fun i y e => hk.item i y (by simpa using e))
  · intro b eb
    cases eb
    refine ⟨"list", "list.__repr__", F.slot_list_repr.toG, F.slot_list_str, F.slot_list_format, fun s hk0 => ⟨o, hk0 _ _ h1, h2⟩, fun A E s Q hg hu hk0 hQ => ?_⟩
    simp only [PyData.depth] at hu
    simp only [PyData.shown] at hQ hz
    cases l with
    | nil =>
      cases r'
      simp only [PyData.shownAll, listText_nil] at hQ
      exact call_list_repr_empty ⟨o, hk0 _ _ h1, h2⟩ (hk0 _ _ h1) h3 (hQ s.heap _ _ fun _ _ e => e)
    | cons x l => exact call_list_reprK h1 h2 h3 hna (by simpa using hk.length_eq) (fun i y e => hk.item i y (by simpa using e)) hg (fun b _ => Clear.nil b) hu hk0 hQ hz
theorem shw_tuple {a : Addr} {o : Obj} {l : List Value} {n : Nat} {xs : List PyData} (h1 : h.get? a = some o) (h2 : o.cls = .type "tuple") (h3 : o.data = .seq l.toArray n) (y : ShwAll P w h l xs)
    (hz : (PyData.shown (.tuple xs)).length ≤ sizeLine) : Shw P w h (.ref a) (.tuple xs) := by
  obtain ⟨as, bs, r', hb, hk⟩ := y
  have r : Reads h (.ref a) (.tuple xs) as := .tuple h1 h2 h3 r'
  have hna : a ∉ bs := not_mem_of_deeper r (by simp only [PyData.depth]; omega) hb
  refine ⟨_, a :: bs, r, ReadAtMost.cons r (by simp only [PyData.depth]; omega) hb, ?_, ?_⟩
  · simp only [PyData.depth, PyData.shown]
    exact ReprK.tuple h1 h2 h3 hna hk
  · intro b eb
    cases eb
    refine ⟨"tuple", "tuple.__repr__", F.slot_tuple_repr, F.slot_tuple_str, F.slot_tuple_format, fun s hk0 => ⟨o, hk0 _ _ h1, h2⟩, fun A E s Q hg hu hk0 hQ => ?_⟩
    simp only [PyData.depth] at hu
    simp only [PyData.shown] at hQ hz
    exact call_tuple_reprK h1 h2 h3 hna hk hg (fun b _ => Clear.nil b) hu hk0 hQ hz
theorem shw_dict {a : Addr} {o : Obj} {es : List DictEntry} {n : Nat} {kvs : List (PyData × PyData)} (h1 : h.get? a = some o) (h2 : o.cls = .type "dict") (h3 : o.data = .dict es.toArray n) (hsys : (a == sysModules) = false)
    (y : ShwAll P w h (es.map (·.key)) (kvs.map (·.1))) (z : ShwAll P w h (es.map (·.val)) (kvs.map (·.2)))
    (hz : (PyData.shown (.dict kvs)).length ≤ sizeLine) : Shw P w h (.ref a) (.dict kvs) := by
  obtain ⟨as, b1, r1, hb1, k1⟩ := y
  obtain ⟨as', b2, r2, hb2, k2⟩ := z
  have r : Reads h (.ref a) (.dict kvs) _ := .dict h1 h2 h3 r1 r2
  have hb : ReadAtMost h (PyData.depthKv kvs) (b1 ++ b2) := (hb1.mono (PyData.depthAll_keys_le kvs)).append (hb2.mono (PyData.depthAll_vals_le kvs))
  have hna : a ∉ b1 ++ b2 := not_mem_of_deeper r (by simp only [PyData.depth]; omega) hb
  have hE := ReprEntriesK.of_two (prog := P) (w := w) es _ _ (k1.more_le (fun b hb => List.mem_append_left _ hb) (PyData.depthAll_keys_le kvs)) (k2.more_le (fun b hb => List.mem_append_right _ hb) (PyData.depthAll_vals_le kvs))
  refine ⟨_, a :: (b1 ++ b2), r, ReadAtMost.cons r (by simp only [PyData.depth]; omega) hb, ?_, ?_⟩
  · simp only [PyData.depth, PyData.shown, PyData.shownKv_eq]
    exact ReprK.dict h1 h2 h3 hsys hna hE
  · intro b eb
    cases eb
    refine ⟨"dict", "dict.__repr__", F.slot_dict_repr, F.slot_dict_str, F.slot_dict_format, fun s hk0 => ⟨o, hk0 _ _ h1, h2⟩, fun A E s Q hg hu hk0 hQ => ?_⟩
    simp only [PyData.depth] at hu
    simp only [PyData.shown, PyData.shownKv_eq] at hQ hz
    exact call_dict_reprK h1 h2 h3 hsys hna hE hg (fun b _ => Clear.nil b) hu hk0 hQ hz
theorem shw_int {i : Int} {t : Tok} (hs : i.natAbs.log2 < 1920) : Shw P w h (.int i t) (.int i) :=
  ⟨_, [], .int i t, fun _ h => (nomatch h), by simp only [PyData.shown]; exact .of_is (ReprIs.int t hs) _ _ _, fun a e => nomatch e⟩
theorem shw_str {x : Str} {t : Tok} (hz : (reprText x).length ≤ sizeLine) : Shw P w h (.str x t) (.str x) :=
  ⟨_, [], .str x t, fun _ h => (nomatch h), by simp only [PyData.shown]; exact .of_is (ReprIs.str x t hz) _ _ _, fun a e => nomatch e⟩
theorem shw_none : Shw P w h .none .none := ⟨_, [], .none, fun _ h => (nomatch h), by simp only [PyData.shown]; exact .of_is ReprIs.none _ _ _, fun a e => nomatch e⟩
theorem shw_bool (b : Bool) : Shw P w h (.bool b) (.bool b) := ⟨_, [], .bool b, fun _ h => (nomatch h), by simp only [PyData.shown]; exact .of_is (ReprIs.bool b) _ _ _, fun a e => nomatch e⟩
end
/- what can be shown, to depth n -/
def kshw : Key → Bool
  | .inl i => decide (i.natAbs.log2 < 1920)
  | .inr _ => true
mutual
def shw : Nat → D → Bool
  | _, .non => true
  | _, .bl _ => true
  | _, .int i => decide (i.natAbs.log2 < 1920)
  | _, .str _ => true
  | n + 1, .lst xs => shws n xs
  | n + 1, .tup xs => shws n xs
  | n + 1, .dic kvs => shwk n kvs
  | n + 2, .dit kvs => shwt (n + 1) kvs
  | _, _ => false
def shws : Nat → List D → Bool
  | _, [] => true
  | n, d :: ds => shw n d && shws n ds
def shwk : Nat → List (Key × D) → Bool
  | _, [] => true
  | n, (k, d) :: ds => kshw k && shw n d && shwk n ds
def shwt : Nat → List (List Key × D) → Bool
  | _, [] => true
  | n, (k, d) :: ds => k.all kshw && shw n d && shwt n ds
end
/-- the text of a datum -/
def shn (d : D) : Str := (pd d).shown
section
variable {X : Cx} {pins : List (Addr × Obj)} {σ : L2.St} {H : Hp} {s : Shared} {β : List Addr}
theorem pdk_fst : ∀ kvs : List (Key × D), (pdk kvs).map (·.1) = kvs.map fun p => keyP p.1
  | [] => rfl
  | (k, d) :: r => by simp [pdk, pdk_fst r]
theorem pdk_snd : ∀ kvs : List (Key × D), (pdk kvs).map (·.2) = pds (kvs.map (·.2))
  | [] => rfl
  | (k, d) :: r => by simp [pdk, pds, pdk_snd r]
theorem pdt_fst : ∀ kvs : List (List Key × D), (pdt kvs).map (·.1) = kvs.map fun p => PyData.tuple (p.1.map keyP)
  | [] => rfl
  | (k, d) :: r => by simp [pdt, pdt_fst r]
theorem pdt_snd : ∀ kvs : List (List Key × D), (pdt kvs).map (·.2) = pds (kvs.map (·.2))
  | [] => rfl
  | (k, d) :: r => by simp [pdt, pds, pdt_snd r]
theorem shw_key {h : Heap} {k : Key} {v : Value} (hk : keyIs k v = true) (hs : kshw k = true) (hz : (keyP k).shown.length ≤ sizeLine) : Shw X.prog X.w h v (keyP k) := by
  rcases keyIs_shape hk with ⟨i, t, rfl, rfl⟩ | ⟨x, t, rfl, rfl⟩
  · exact shw_int (by simpa [kshw] using hs)
  · exact shw_str (by simpa only [keyP, PyData.shown] using hz)
theorem shown_mem {d : PyData} {ds : List PyData} (h : d ∈ ds) : d.shown ∈ PyData.shownAll ds := by
  induction ds with
  | nil => exact nomatch h
  | cons x ds ih =>
    simp only [PyData.shownAll]
    rcases List.mem_cons.mp h with e | e
    · rw [e]; exact List.mem_cons_self ..
    · exact List.mem_cons_of_mem _ (ih e)
mutual
theorem rep_shw (I : L2.Inv X pins σ H s) : ∀ {n : Nat} {d : D} {v : V} {u : Value}, shw n d = true → Rep X.K H β v d → RelV v u → (pd d).shown.length ≤ sizeLine → Shw X.prog X.w s.heap u (pd d) ∧ (pd d).depth ≤ n
  | n, .non, _, _, h, r, rv, hz => by cases r; cases rv; exact ⟨shw_none, Nat.zero_le _⟩
  | n, .bl b, _, _, h, r, rv, hz => by cases r; cases rv; exact ⟨shw_bool b, Nat.zero_le _⟩
  | n, .int i, _, _, h, r, rv, hz => by
    cases r
    obtain ⟨t, rfl⟩ := rv
    exact ⟨shw_int (by simpa [shw] using h), Nat.zero_le _⟩
  | n, .str x, _, _, h, r, rv, hz => by
    cases r
    obtain ⟨t, rfl⟩ := rv
    exact ⟨shw_str (by simpa only [pd, PyData.shown] using hz), Nat.zero_le _⟩
  | 0, .lst xs, _, _, h, r, rv, hz => by simp [shw] at h
  | 0, .tup xs, _, _, h, r, rv, hz => by simp [shw] at h
  | 0, .dic xs, _, _, h, r, rv, hz => by simp [shw] at h
  | 0, .dit xs, _, _, h, r, rv, hz => by simp [shw] at h
  | 1, .dit xs, _, _, h, r, rv, hz => by simp [shw] at h
  | n + 1, .lst xs, _, _, h, r, rv, hz => by
    cases r with
    | lst h1 h2 =>
      cases rv
      obtain ⟨its, rr, ⟨o, m, e1, e2, e3, e4⟩, _⟩ := I.list (.inl (.inl h1))
      have hz' : (listText (PyData.shownAll (pds xs))).length ≤ sizeLine := by simpa only [pd, PyData.shown] using hz
      obtain ⟨a, b⟩ := reps_shw I (n := n) (by simpa [shw] using h) h2 rr fun t ht => Nat.le_trans (listText_mem_le ht) hz'
      refine ⟨?_, by simp only [pd, PyData.depth]; omega⟩
      simp only [pd]
      exact shw_list e1 e2 e4 a (by simpa only [pd] using hz)
  | n + 1, .tup xs, _, _, h, r, rv, hz => by
    cases r with
    | tup h1 h2 =>
      cases rv
      obtain ⟨its, rr, ⟨o, e1, e2, m, e4⟩, _⟩ := I.tuple (.inl (.inl h1))
      have hz' : (tupleText (PyData.shownAll (pds xs))).length ≤ sizeLine := by simpa only [pd, PyData.shown] using hz
      obtain ⟨a, b⟩ := reps_shw I (n := n) (by simpa [shw] using h) h2 rr fun t ht => Nat.le_trans (tupleText_mem_le ht) hz'
      refine ⟨?_, by simp only [pd, PyData.depth]; omega⟩
      simp only [pd]
      exact shw_tuple e1 e2 e4 a (by simpa only [pd] using hz)
  | n + 1, .dic kvs, _, _, h, r, rv, hz => by
    cases r with
    | dic h1 h2 =>
      cases rv
      obtain ⟨_, hsys, vs, kv, o, es, ep, e1, e2, e3, _, pr, _⟩ := I.hok _ _ h1
      have hz' : (dictText (PyData.shownKv (pdk kvs))).length ≤ sizeLine := by simpa only [pd, PyData.shown] using hz
      obtain ⟨a, b, c⟩ := repk_shw I (n := n) (by simpa [shw] using h) h2 kv pr (fun t ht => let ⟨p, hp, hl⟩ := PyData.shownKv_key_le _ t ht; Nat.le_trans hl (Nat.le_trans (dictText_mem_le hp) hz'))
        fun t ht => let ⟨p, hp, hl⟩ := PyData.shownKv_val_le _ t ht; Nat.le_trans hl (Nat.le_trans (dictText_mem_le hp) hz')
      refine ⟨?_, by simp only [pd, PyData.depth]; omega⟩
      simp only [pd]
      obtain ⟨es⟩ := es
      exact shw_dict e1 e2.1 e3 hsys a b (by simpa only [pd] using hz)
  | n + 2, .dit kvs, _, _, h, r, rv, hz => by
    cases r with
    | dit h1 h2 =>
      cases rv
      obtain ⟨_, hsys, xs, pp, o, es, ep, e1, e2, e3, e4, _⟩ := I.hok _ _ h1
      have hz' : (dictText (PyData.shownKv (pdt kvs))).length ≤ sizeLine := by simpa only [pd, PyData.shown] using hz
      obtain ⟨a, b, c⟩ := rept_shw I (n := n) (by simpa [shw] using h) h2 pp (fun t ht => let ⟨p, hp, hl⟩ := PyData.shownKv_key_le _ t ht; Nat.le_trans hl (Nat.le_trans (dictText_mem_le hp) hz'))
        fun t ht => let ⟨p, hp, hl⟩ := PyData.shownKv_val_le _ t ht; Nat.le_trans hl (Nat.le_trans (dictText_mem_le hp) hz')
      refine ⟨?_, by simp only [pd, PyData.depth]; omega⟩
      simp only [pd]
      obtain ⟨es⟩ := es
      have e4' : es = xs.map (entryOfKey (tupleKind (mixKind X.prog X.w))) := e4
      subst e4'
      exact shw_dict e1 e2.1 e3 hsys a b (by simpa only [pd] using hz)
  | n, .ro xs, _, _, h, r, _, _ => by cases n <;> simp [shw] at h
  | n, .ref m, _, _, h, r, _, _ => by cases n <;> simp [shw] at h
theorem reps_shw (I : L2.Inv X pins σ H s) : ∀ {n : Nat} {ds : List D} {vs : List V} {us : List Value}, shws n ds = true → Reps X.K H β vs ds → Vals vs us → (∀ t ∈ PyData.shownAll (pds ds), t.length ≤ sizeLine) →
    ShwAll X.prog X.w s.heap us (pds ds) ∧ PyData.depthAll (pds ds) ≤ n
  | n, [], _, _, h, r, rv, hz => by cases r; cases rv; exact ⟨shwAll_nil, Nat.zero_le _⟩
  | n, d :: ds, _, _, h, r, rv, hz => by
    cases r with
    | cons r1 r2 =>
      cases rv with
      | cons q1 q2 =>
        have h' : shw n d = true ∧ shws n ds = true := by simpa [shws] using h
        simp only [pds, PyData.shownAll] at hz
        obtain ⟨a, b⟩ := rep_shw I h'.1 r1 q1 (hz _ (List.mem_cons_self ..))
        obtain ⟨a', b'⟩ := reps_shw I h'.2 r2 q2 fun t ht => hz t (List.mem_cons_of_mem _ ht)
        exact ⟨shwAll_cons a a', by simp only [pds, PyData.depthAll]; omega⟩
theorem repk_shw (I : L2.Inv X pins σ H s) : ∀ {n : Nat} {ds : List (Key × D)} {kvs : List (Key × V)} {vs : List (Key × Value)} {es : List DictEntry}, shwk n ds = true → RepK X.K H β kvs ds → KV kvs vs → Pairs (mixKind X.prog X.w) es vs →
    (∀ t ∈ PyData.shownAll ((pdk ds).map (·.1)), t.length ≤ sizeLine) → (∀ t ∈ PyData.shownAll ((pdk ds).map (·.2)), t.length ≤ sizeLine) →
    ShwAll X.prog X.w s.heap (es.map (·.key)) ((pdk ds).map (·.1)) ∧ ShwAll X.prog X.w s.heap (es.map (·.val)) ((pdk ds).map (·.2)) ∧ PyData.depthKv (pdk ds) ≤ n
  | n, [], _, _, _, h, r, kv, pr, hz, hz' => by cases r; cases kv; cases pr; exact ⟨shwAll_nil, shwAll_nil, Nat.zero_le _⟩
  | n, (k, d) :: ds, _, _, _, h, r, kv, pr, hz, hz' => by
    cases r with
    | cons r1 r2 =>
      cases kv with
      | cons q1 q2 =>
        cases pr with
        | cons p1 p2 p3 =>
          have h' : (kshw k = true ∧ shw n d = true) ∧ shwk n ds = true := by simpa [shwk] using h
          simp only [pdk, List.map_cons, PyData.shownAll] at hz hz'
          obtain ⟨e1, e2⟩ := q1
          obtain ⟨a, b⟩ := rep_shw I h'.1.2 r1 e2 (hz' _ (List.mem_cons_self ..))
          obtain ⟨a1, a2, b'⟩ := repk_shw I h'.2 r2 q2 p3 (fun t ht => hz t (List.mem_cons_of_mem _ ht)) fun t ht => hz' t (List.mem_cons_of_mem _ ht)
          rw [← p2] at a
          rw [← e1] at p1
          refine ⟨shwAll_cons (shw_key (k := k) p1 h'.1.1 (hz _ (List.mem_cons_self ..))) a1, shwAll_cons a a2, ?_⟩
          have kd : (keyP k).depth = 0 := by cases k <;> rfl
          simp only [pdk, PyData.depthKv]
          omega
theorem rept_shw (I : L2.Inv X pins σ H s) : ∀ {n : Nat} {ds : List (List Key × D)} {kvs : List (List Key × V)} {xs : List (List Key × Addr × Value)}, shwt (n + 1) ds = true → RepT X.K H β kvs ds →
    Paired (fun (p : List Key × V) (q : List Key × Addr × Value) => p.1 = q.1 ∧ H q.2.1 = some (.tup (p.1.map kV)) ∧ RelV p.2 q.2.2) kvs xs →
    (∀ t ∈ PyData.shownAll ((pdt ds).map (·.1)), t.length ≤ sizeLine) → (∀ t ∈ PyData.shownAll ((pdt ds).map (·.2)), t.length ≤ sizeLine) →
    ShwAll X.prog X.w s.heap ((xs.map (entryOfKey (tupleKind (mixKind X.prog X.w)))).map (·.key)) ((pdt ds).map (·.1)) ∧ ShwAll X.prog X.w s.heap ((xs.map (entryOfKey (tupleKind (mixKind X.prog X.w)))).map (·.val)) ((pdt ds).map (·.2)) ∧ PyData.depthKv (pdt ds) ≤ n + 1
  | n, [], _, _, h, r, pp, hz, hz' => by cases r; cases pp; exact ⟨shwAll_nil, shwAll_nil, Nat.zero_le _⟩
  | n, (k, d) :: ds, _, _, h, r, pp, hz, hz' => by
    cases r with
    | cons r1 r2 =>
      cases pp with
      | cons q1 q2 =>
        have h' : (k.all kshw = true ∧ shw (n + 1) d = true) ∧ shwt (n + 1) ds = true := by simpa [shwt] using h
        simp only [pdt, List.map_cons, PyData.shownAll] at hz hz'
        obtain ⟨e1, e2, e3⟩ := q1
        obtain ⟨a, b⟩ := rep_shw I h'.1.2 r1 e3 (hz' _ (List.mem_cons_self ..))
        obtain ⟨a1, a2, b'⟩ := rept_shw I h'.2 r2 q2 (fun t ht => hz t (List.mem_cons_of_mem _ ht)) fun t ht => hz' t (List.mem_cons_of_mem _ ht)
        have hzk := hz _ (List.mem_cons_self ..)
        have hzk' : (tupleText (PyData.shownAll (k.map keyP))).length ≤ sizeLine := by simpa only [PyData.shown] using hzk
        obtain ⟨_, its, rr, o, f1, f2, m, f4⟩ := I.hok _ _ e2
        obtain ⟨c1, c2⟩ := keys_shw k h'.1.1 rr (fun t ht => Nat.le_trans (tupleText_mem_le ht) hzk')
        refine ⟨shwAll_cons (shw_tuple f1 f2 f4 c1 hzk) a1, shwAll_cons a a2, ?_⟩
        simp only [pdt, PyData.depthKv, PyData.depth]
        omega
theorem keys_shw : ∀ (ks : List Key) {us : List Value}, ks.all kshw = true → Vals (ks.map kV) us → (∀ t ∈ PyData.shownAll (ks.map keyP), t.length ≤ sizeLine) →
    ShwAll X.prog X.w s.heap us (ks.map keyP) ∧ PyData.depthAll (ks.map keyP) = 0
  | [], _, h, r, hz => by cases r; exact ⟨shwAll_nil, rfl⟩
  | k :: ks, _, h, r, hz => by
    have h' : kshw k = true ∧ ks.all kshw = true := by simpa using h
    cases r with
    | cons r1 r2 =>
      simp only [List.map_cons, PyData.shownAll] at hz
      obtain ⟨a, b⟩ := keys_shw ks h'.2 r2 fun t ht => hz t (List.mem_cons_of_mem _ ht)
      have kd : (keyP k).depth = 0 := by cases k <;> rfl
      refine ⟨shwAll_cons (shw_key ?_ h'.1 (hz _ (List.mem_cons_self ..))) a, by simp only [List.map_cons, PyData.depthAll]; omega⟩
      cases k with
      | inl i =>
        obtain ⟨t, rfl⟩ := r1
        exact keyIs_int i t
      | inr x =>
        obtain ⟨t, rfl⟩ := r1
        exact keyIs_str x t
end
/-- repr -/
def rRepr : RDs := fun xs S Q => match xs with
  | [x] => shw 60 (drf S x) = true ∧ (shn (drf S x)).length ≤ sizeLine ∧ Q (.str (shn (drf S x))) S
  | _ => False
theorem c_repr (hg : X.A.guards = some []) (hu : X.A.units + 64 < cLine) : CallR X (.builtin "repr") (ls X.K G rRepr) := by
  intro pins s σ H xs us Q I rv ⟨Y, β, S, ds, Q', o, rs, h, k⟩
  unfold rRepr at h
  split at h
  · rename_i x
    obtain ⟨v, rfl, r⟩ := rs.one
    obtain ⟨h1, h2, q⟩ := h
    have fin := k _ S _ β H (.refl o) (.str _) q
    have r' := o.drf r
    generalize drf S x = y at h1 h2 q fin r'
    cases rv with
    | cons rv rn =>
      cases rn
      obtain ⟨⟨as, bs, rd, _, _, hs⟩, hd⟩ := rep_shw I h1 r' rv h2
      have fin' : ∀ t s', L2.Inv X pins σ H s' → EP X pins σ Q (.str (shn y) t) s' := fun t s' I' => ⟨.str (shn y), H, I', ⟨t, rfl⟩, fin⟩
      cases hy : y with
      | non =>
        subst hy
        cases r'
        cases rv
        exact P.repr_of_none (fin' _ _ (I.tok _))
      | bl b =>
        subst hy
        cases r'
        cases rv
        exact P.repr_of_bool (fin' _ _ (I.tok _))
      | int i =>
        subst hy
        cases r'
        obtain ⟨t, rfl⟩ := rv
        exact P.repr_of_int (by simpa [shw] using h1) (fin' _ _ (I.tok _))
      | str z =>
        subst hy
        cases r'
        obtain ⟨t, rfl⟩ := rv
        exact P.repr_of_str (fin' _ _ (I.tok _)) h2
      | ref m => subst hy; simp [shw] at h1
      | ro m => subst hy; simp [shw] at h1
      | _ =>
        subst hy
        cases r'
        cases rv
        obtain ⟨T, idr, sh⟩ := hs _ rfl
        exact call_repr_slot (by omega) (sh.typeIs s fun _ _ e => e) sh.slotRepr (sh.call X.A.in1 _ s _ hg (by show X.A.units + 1 + _ < cLine; omega) (fun _ _ e => e) fun h' u tk hk => ⟨_, _, rfl, fin' _ _ (I.kept (t' := tk) hk)⟩)
  · exact h.elim
end
end NC

set_option Elab.async false
set_option linter.all false
set_option maxRecDepth 100000
set_option maxHeartbeats 1000000
/-! NC9: None tests, list methods, dict displays, a dict beside a list, chains. -/
namespace NC
open PySem PySem.Spec PyProof.Rows L2
open Evl (Ex)
open MeetsSeq SeqAt AutoSeq1

section
variable {X : Cx}
/-! is None -/
def isN : D → Bool
  | .non => true
  | _ => false
theorem isN_v {K : PySem.W.Frag} {B : Hp} {β : List Addr} {v : V} {d : D} (r : Rep K B β v d) : decide (v = .non) = isN d := by
  cases r <;> rfl
def rIs : RD2 := fun x y S Q => y = .non ∧ Q (.bl (isN x)) S
def rIsn : RD2 := fun x y S Q => y = .non ∧ Q (.bl (!isN x)) S
theorem o_is : OpR X (compareOp .Is) (l2 X.K G rIs) := by
  intro pins s σ H x y v u Q I rx ry ⟨Y, β, S, dx, dy, Q', o, r1, r2, ⟨ey, q⟩, k⟩
  subst ey
  cases r2
  exact op_isN pins s σ H _ _ v u Q I rx ry ⟨rfl, by rw [isN_v r1]; exact k _ S _ β H (.refl o) (.bl _) q⟩
theorem o_isn : OpR X (compareOp .IsNot) (l2 X.K G rIsn) := by
  intro pins s σ H x y v u Q I rx ry ⟨Y, β, S, dx, dy, Q', o, r1, r2, ⟨ey, q⟩, k⟩
  subst ey
  cases r2
  exact op_notN pins s σ H _ _ v u Q I rx ry ⟨rfl, by rw [isN_v r1]; exact k _ S _ β H (.refl o) (.bl _) q⟩
/-! chains -/
variable {a b c : Expr} {ta tb tc : TD} {pos : Pos}
theorem de_chain {op op' : CmpOp} {r r' : RD2} (ho : OpR X (compareOp op) (l2 X.K G r)) (ho' : OpR X (compareOp op') (l2 X.K G r')) (ha : PE X a (tE X.K G ta)) (hb : PE X b (tE X.K G tb)) (hc : PE X c (tE X.K G tc))
    (hm : lastMarks [op, op'] [b, c] = false := by with_unfolding_all rfl) : PE X (.Compare a [op, op'] [b, c] pos) (tE X.K G (eChain r r' ta tb tc)) :=
  (pe_chain ho ho' ha hb hc hm).imp fun σ H Q ⟨Y, β, S, ρ, Q', rl, q, k⟩ => ⟨Y, β, S, ρ, _, rl, q, fun x S1 v β1 H1 s1 r1 q1 =>
    ⟨Y, β1, S1, ρ, _, rl.step s1, q1, fun y S2 u β2 H2 s2 r2 q2 => ⟨Y, β2, S2, x, y, _, s2.ok, s2.rep r1, r2, q2, fun z S3 w β3 H3 s3 r3 ⟨kk, ez, q3⟩ => by
      subst ez
      cases r3
      refine ⟨kk, rfl, ?_⟩
      cases kk with
      | true => exact ⟨Y, β3, S3, ρ, _, ((rl.step s1).step s2).step s3, q3, fun w S4 wv β4 H4 s4 r4 q4 => ⟨Y, β4, S4, y, w, Q', s4.ok, s4.rep (s3.rep r2), r4, q4,
          fun d S5 dv β5 H5 s5 r5 q5 => k d S5 dv β5 H5 ((((s1.trans s2).trans s3).trans s4).trans s5) r5 q5⟩⟩
      | false => exact k _ S3 _ β3 H3 ((s1.trans s2).trans s3) (.bl _) q3⟩⟩⟩
/-! methods of a list of the store -/
def rApp : RDm := fun x xs S Q => ∃ n ys y, x = .ref n ∧ xs = [y] ∧ S[n]? = some (some (.lst ys)) ∧ ys.length < sizeLine ∧ Q .non (S.set n (some (.lst (ys ++ [y]))))
def rIns : RDm := fun x xs S Q => ∃ n ys i y, x = .ref n ∧ xs = [.int i, y] ∧ S[n]? = some (some (.lst ys)) ∧ ys.length < sizeLine ∧ 0 ≤ i ∧ i < 2 ^ 63 ∧ Q .non (S.set n (some (.lst (ys.take i.toNat ++ [y] ++ ys.drop i.toNat))))
def rPop0 : RDm := fun x xs S Q => ∃ n ys y, x = .ref n ∧ xs = [] ∧ S[n]? = some (some (.lst ys)) ∧ ys[ys.length - 1]? = some y ∧ Q y (S.set n (some (.lst ys.dropLast)))
theorem ref_at {K : PySem.W.Frag} {Y β : List Addr} {S : Store} {H : Hp} {n : Nat} {v : V} {ys : List D} (o : Ok K G Y β S H) (r : Rep K (hid Y β S H) β v (.ref n)) (h : S[n]? = some (some (.lst ys))) :
    ∃ a us, v = .ref a ∧ β[n]? = some a ∧ H a = some (.lst us) ∧ Reps K (hid Y β S H) β us ys := by
  obtain ⟨a, e1, us, h1, h2⟩ := o.obj n _ h
  cases r with
  | ref e2 =>
    rw [e1] at e2
    cases e2
    exact ⟨a, us, rfl, e1, h1, h2⟩
theorem m_app : MtR X "list.append" (lm X.K G rApp) := by
  intro pins s σ H x vs v us Q I rx rv ⟨Y, β, S, dx, xs, Q', o, r1, rs, ⟨n, ys, y, ex, exs, hS, hl, q⟩, k⟩
  subst ex
  subst exs
  obtain ⟨a, ws, rfl, e1, h1, rr⟩ := ref_at o r1 hS
  obtain ⟨w, rfl, rw1⟩ := rs.one
  have st := o.put hS e1 (rr.append (.cons rw1 .nil))
  exact mt_append pins s σ H _ _ v us Q I rx rv ⟨a, ws, w, rfl, rfl, h1, by rw [rr.len]; exact hl, k _ _ _ _ _ st .non q⟩
theorem m_ins : MtR X "list.insert" (lm X.K G rIns) := by
  intro pins s σ H x vs v us Q I rx rv ⟨Y, β, S, dx, xs, Q', o, r1, rs, ⟨n, ys, i, y, ex, exs, hS, hl, h0, h63, q⟩, k⟩
  subst ex
  subst exs
  obtain ⟨a, ws, rfl, e1, h1, rr⟩ := ref_at o r1 hS
  obtain ⟨w1, w2, rfl, ri, rw1⟩ := rs.two
  cases ri
  have st := o.put hS e1 (((rr.take i.toNat).append (.cons rw1 .nil)).append (rr.drop i.toNat))
  exact mt_insert pins s σ H _ _ v us Q I rx rv ⟨a, ws, i, w2, rfl, rfl, h1, by rw [rr.len]; exact hl, h0, h63, k _ _ _ _ _ st .non q⟩
theorem m_pop0 : MtR X "list.pop" (lm X.K G rPop0) := by
  intro pins s σ H x vs v us Q I rx rv ⟨Y, β, S, dx, xs, Q', o, r1, rs, ⟨n, ys, y, ex, exs, hS, hy, q⟩, k⟩
  subst ex
  subst exs
  obtain ⟨a, ws, rfl, e1, h1, rr⟩ := ref_at o r1 hS
  cases rs
  obtain ⟨w, ew, rw1⟩ := rr.get hy
  have rd : Reps X.K (hid Y β S H) β ws.dropLast ys.dropLast := by
    rw [List.dropLast_eq_take, List.dropLast_eq_take, rr.len]
    exact rr.take _
  have st := o.put hS e1 rd
  exact mt_pop pins s σ H _ _ v us Q I rx rv ⟨a, ws, w, rfl, rfl, h1, by rw [rr.len]; exact ew, k _ _ _ _ _ st (st.rep rw1) q⟩
/-! dict displays -/
theorem de_dnew : PE X (.Dict [] [] pos) (tE X.K G (eC (.dic []))) := pe_dnewK.imp fun σ H Q ⟨Y, β, S, ρ, Q', rl, q, k⟩ => fun p hp =>
  k _ S _ β _ (rl.ok.new _ hp) (.dic (rl.ok.new_at _ hp) .nil) q
/-- {key: value, ..}, keys ints or texts, written as constants -/
def putD (kvs : List (Key × D)) (k : Key) (v : D) : List (Key × D) :=
  if (kvs.any fun p => decide (p.1 = k)) = true then kvs.map (fun p => if p.1 = k then (p.1, v) else p) else kvs ++ [(k, v)]
def kD : Key → D
  | .inl i => .int i
  | .inr x => .str x
def dispD : List (Key × TD) → Rho → Store → (List D → Store → Prop) → Prop
  | [], _, S, Q => Q [] S
  | p :: ps, ρ, S, Q => p.2 ρ S fun d S1 => dispD ps ρ S1 fun ds S2 => Q (d :: ds) S2
def zipD (ps : List (Key × TD)) (ds : List D) : List (Key × D) := List.zipWith (fun p d => (p.1, d)) ps ds
def eDisp (ps : List (Key × TD)) : TD := fun ρ S Q => dispD ps ρ S fun ds S1 => Q (.dic ((zipD ps ds).foldl (fun acc kv => putD acc kv.1 kv.2) [])) S1
theorem RepK.any {K : PySem.W.Frag} {B : Hp} {β : List Addr} {p : Key → Bool} : ∀ {ds : List (Key × D)} {kvs : List (Key × V)}, RepK K B β kvs ds → (kvs.any fun x => p x.1) = ds.any fun x => p x.1
  | [], _, h => by cases h; rfl
  | d :: ds, _, h => by
    cases h with
    | cons h1 h2 => simp [RepK.any (p := p) h2]
theorem RepK.upd' {K : PySem.W.Frag} {B : Hp} {β : List Addr} {k : Key} {v : V} {d : D} (r : Rep K B β v d) : ∀ {ds : List (Key × D)} {kvs : List (Key × V)}, RepK K B β kvs ds →
    RepK K B β (kvs.map fun x => if x.1 = k then (x.1, v) else x) (ds.map fun x => if x.1 = k then (x.1, d) else x)
  | [], _, h => by cases h; exact .nil
  | (k', e) :: ds, _, h => by
    cases h with
    | cons h1 h2 =>
      rw [List.map_cons, List.map_cons]
      by_cases hk : k' = k
      · rw [if_pos hk, if_pos hk]
        exact .cons r (RepK.upd' r h2)
      · rw [if_neg hk, if_neg hk]
        exact .cons h1 (RepK.upd' r h2)
theorem RepK.snoc {K : PySem.W.Frag} {B : Hp} {β : List Addr} {k : Key} {v : V} {d : D} (r : Rep K B β v d) : ∀ {ds : List (Key × D)} {kvs : List (Key × V)}, RepK K B β kvs ds → RepK K B β (kvs ++ [(k, v)]) (ds ++ [(k, d)])
  | [], _, h => by cases h; exact .cons r .nil
  | _ :: ds, _, h => by
    cases h with
    | cons h1 h2 => exact .cons h1 (RepK.snoc r h2)
theorem RepK.put {K : PySem.W.Frag} {B : Hp} {β : List Addr} {k : Key} {v : V} {d : D} (r : Rep K B β v d) {ds : List (Key × D)} {kvs : List (Key × V)} (h : RepK K B β kvs ds) : RepK K B β (putK kvs k v) (putD ds k d) := by
  have e := h.any (p := fun x => decide (x = k))
  unfold putK putD
  by_cases q : (ds.any fun x => decide (x.1 = k)) = true
  · rw [if_pos (e.trans q), if_pos q]
    exact RepK.upd' r h
  · rw [if_neg (by rw [e]; exact q), if_neg q]
    exact RepK.snoc r h
theorem RepK.all {K : PySem.W.Frag} {B : Hp} {β : List Addr} : ∀ {ps : List (Key × TD)} {vs : List V} {ds : List D} {kvs : List (Key × V)} {kds : List (Key × D)}, Reps K B β vs ds → RepK K B β kvs kds →
    RepK K B β ((List.zipWith (fun (p : Key × TD) v => (p.1, v)) ps vs).foldl (fun acc kv => putK acc kv.1 kv.2) kvs) ((zipD ps ds).foldl (fun acc kv => putD acc kv.1 kv.2) kds)
  | [], _, _, _, _, r, h => by simpa [zipD] using h
  | p :: ps, _, _, _, _, r, h => by
    cases r with
    | nil => simpa [zipD] using h
    | cons r1 r2 => exact RepK.all (ps := ps) r2 (h.put r1)
theorem pairs_lift : ∀ {ps : List (Key × TD)} {Y β : List Addr} {S : Store} {ρ : Rho} {σ : L2.St} {H : Hp} {K : PySem.W.Frag} {Q : List (V × V) → Hp → Prop} {R : List D → Store → Prop}, Rel K G Y β S ρ σ H → dispD ps ρ S R →
    (∀ ds S' vs β' H', Step K G Y β S H β' S' H' → Reps K (hid Y β' S' H') β' vs ds → vs.length = ps.length → R ds S' → Q (List.zipWith (fun (p : Key × TD) v => (kV p.1, v)) ps vs) H') →
    tPairs (ps.map fun p => (tE K G (eC (kD p.1)), tE K G p.2)) σ H Q
  | [], Y, β, S, ρ, σ, H, K, Q, R, rl, h, k => k [] S [] β H (.refl rl.ok) .nil rfl h
  | (ky, t) :: ps, Y, β, S, ρ, σ, H, K, Q, R, rl, h, k => by
    refine ⟨Y, β, S, ρ, fun d S1 => d = kD ky ∧ S1 = S, rl, ⟨rfl, rfl⟩, fun d S1 v β1 H1 s1 r1 ⟨ed, eS⟩ => ?_⟩
    subst ed
    subst eS
    have ev : v = kV ky := by
      cases ky <;> cases r1 <;> rfl
    subst ev
    refine ⟨Y, β1, S1, ρ, _, rl.step s1, h, fun y S2 w β2 H2 s2 r2 q2 => pairs_lift (ps := ps) ((rl.step s1).step s2) q2 fun ds S3 vs β3 H3 s3 r3 hl q3 => ?_⟩
    exact k (y :: ds) S3 (w :: vs) β3 H3 ((s1.trans s2).trans s3) (.cons (s3.rep r2) r3) (by simp [hl]) q3
theorem de_disp {keys : List (Option Expr)} {values : List Expr} {ps : List (Key × TD)} (h : PPs X pos keys values (ps.map fun p => (tE X.K G (eC (kD p.1)), tE X.K G p.2))) (hall : keys.all (·.isSome) = true) (hl : keys.length = values.length) (h0 : keys ≠ [])
    (h15 : keys.length ≤ 15) (hn : ps.length ≤ 15) : PE X (.Dict keys values pos) (tE X.K G (eDisp ps)) :=
  (pe_disp h hall hl h0 h15).imp fun σ H Q ⟨Y, β, S, ρ, Q', rl, q, k⟩ => fun p hp => by
    have hpY : p ∉ Y := fun hm => rl.ok.xtrk p hm hp
    obtain ⟨ok0, ex0⟩ := rl.ok.open hp (.dK [])
    have ne1 : ∀ b, H b ≠ none → b ≠ p := fun b h e => h (e ▸ hp)
    have hgp := rl.ok.unseen hp
    have rl1 : Rel X.K G (p :: Y) β S ρ σ (upd H p (.dK [])) := ⟨ok0, rl.len, fun j d e => let ⟨v, e1, r⟩ := rl.get j d e; ⟨v, e1, r.mono ex0 (.refl _)⟩⟩
    refine pairs_lift rl1 q fun ds S1 vs β1 H1 s1 r1 hv q1 => ⟨(s1.ext p (by simp)).at upd_same fun _ z => (by cases z), List.zipWith (fun (p : Key × TD) v => (p.1, v)) ps vs, ?_, ?_, ?_⟩
    · rw [List.map_zipWith]
    · rw [List.length_zipWith]
      omega
    · have hpd : H1 p = some (.dK []) := (s1.ext p (by simp)).at upd_same fun _ z => (by cases z)
      have o1 := s1.ok.touch hgp ⟨hpd, fun _ z => (by cases z), fun _ _ => code_dK⟩ (.dK (mergeK [] (List.zipWith (fun (p : Key × TD) v => (p.1, v)) ps vs)))
      obtain ⟨ok', ex'⟩ := o1.close hgp upd_same fun _ z => (by cases z)
      have eh : hid (p :: Y) β1 S1 (upd H1 p (.dK (mergeK [] (List.zipWith (fun (p : Key × TD) v => (p.1, v)) ps vs)))) = hid (p :: Y) β1 S1 H1 := hid_upd
      have hl' : hid Y β1 S1 (upd H1 p (.dK (mergeK [] (List.zipWith (fun (p : Key × TD) v => (p.1, v)) ps vs)))) p = some (.dK (mergeK [] (List.zipWith (fun (p : Key × TD) v => (p.1, v)) ps vs))) := by
        rw [hid_of hpY fun n o e1 _ => s1.ok.out p (List.mem_of_getElem? e1) (by simp)]
        exact upd_same
      refine k _ S1 _ β1 _ ⟨s1.pre, ?_, fun a ha => ?_, fun a ha => ?_, ok'⟩ (.dic hl' (RepK.all (r1.mono (by rw [← eh]; exact ex') (.refl _)) .nil)) q1
      · exact (ex0.trans s1.ex).trans (by rw [← eh]; exact ex')
      · have e : a ≠ p := fun e => hpY (e ▸ ha)
        have k1 : Kept H (upd H p (.dK [])) a := .inl (upd_ne e)
        exact (k1.trans (s1.ext a (by simp [ha]))).trans (.inl (upd_ne e))
      · by_cases e : a = p
        · rw [e, upd_same]
          simp
        · rw [upd_ne e]
          exact s1.trk a (by rw [upd_ne e]; exact ha)
end
/-! a dict beside a list -/
section
variable {A : Around} {s : Shared} {prog : Program} {w : World}
theorem list_dict_declines (l b : Addr) (items : Array Value) (n n2 : Nat) (dd : Option Addr) (sl : Array (Option Value)) (es : Array DictEntry) :
    Meets (Builtin.«list.__eq__» ⟨[.ref l, .ref b], []⟩) (fun _ R s => s.heap.get? l = some { cls := .type "list", dict := dd, data := .seq items n, slots := sl } ∧ s.heap.get? b = some { cls := .type "dict", data := .dict es n2 } ∧ R (.ok (.ret .notImplemented)) s) :=
  .of_wp fun prog w A R s h => by obtain ⟨hp, g, d, tk, os⟩ := s; obtain ⟨hl, hb, h⟩ := h; have f1 := F.sub_dict_list; wp_walk using wpAny_loadPart' hl, wpAny_loadPart' hb; exact ⟨_, rfl, h⟩
theorem dict_list_declines {a b : Addr} {Q : Value → Shared → Prop} {E : Value → Shared → Prop} (ha : s.TypeIs (.ref a) "dict") (hb : s.TypeIs (.ref b) "list") (h : Q .notImplemented s) :
    wpAny (model prog w) A (call (.builtin "dict.__eq__") [.ref a, .ref b]) Q E s := by
  refine wpAny_call_entry F.slot_dict_eq ha F.entry_dict_eq ?_ (F.args_dict_eq_2 _ _)
  refine wpAny_bind (m := Builtin.Dict.dictSlotArgs "__eq__" ⟨[.ref a, .ref b], []⟩) ?_
  unfold Builtin.Dict.dictSlotArgs
  refine wpAny_bind (wpAny_notOrdered_dict ha ?_)
  refine wpAny_bind (m := pure _) (wpAny_pure (wpAny_pure ?_))
  refine wpAny_bind (wpAny_isInstance (T := "list") hb F.sub_list_dict ?_)
  exact wpAny_bind (wpAny_rule (wpAny_pure ⟨_, rfl, h⟩))
theorem eq_dict_list {a b : Addr} {oa : Obj} {items : Array Value} (ha : s.heap.get? a = some oa) (hx : oa.ExactDict) {es : Array DictEntry} {n : Nat} (hd : oa.data = .dict es n) (hb : s.heap.IsList b items) (hu : A.units < cLine) : RcAt A s (.ref a) (.ref b) false := fun prog w E Q h => by
  obtain ⟨⟨cls, dd, data, sl⟩, ho, hc, m, he⟩ := id hb
  simp only at hc he
  subst hc he
  have ta : s.TypeIs (.ref a) "dict" := ⟨oa, ha, hx.1⟩
  have tb : s.TypeIs (.ref b) "list" := ⟨_, ho, rfl⟩
  have ne : a ≠ b := fun e => by
    subst e
    rw [ho] at ha
    cases ha
    exact absurd hx.1 (by simp)
  obtain ⟨ac, ad, adt, asl⟩ := oa
  obtain ⟨x1, x2, x3⟩ := hx
  simp only at x1 x2 x3 hd
  subst x1 x2 x3 hd
  exact rc_eq_decline_or (k := false) ta tb (by decide) F.sub_list_dict F.slot_dict_eq F.slot_list_eq_refl
    (fun _ hq => dict_list_declines ta tb hq)
    (fun _ hq => call_meets F.slot_list_eq_refl tb F.entry_list_eq (F.args_list_eq_2 _ _) (list_dict_declines b a items m n dd sl es) ⟨ho, ha, hq⟩)
    (fun _ hq => wpAny_isSame_ref_other' ne ha ho (by simp) hq) (.inr hu) h
end
/-- the answers of == : plain data, lists of unlike lengths, a dict beside a list -/
def isDict : D → Bool
  | .dic _ => true
  | .dit _ => true
  | _ => false
inductive EqR3 : D → D → Bool → Prop
  | of {x y : D} {b : Bool} : EqR x y b → EqR3 x y b
  | dl {x : D} {ys : List D} : isDict x = true → EqR3 x (.lst ys) false
  | txt {x y : Str} : EqR3 (.str x) (.str y) (decide (x = y))
theorem dec_V {x y : Str} : decide (V.str x = V.str y) = decide (x = y) := by
  by_cases h : x = y
  · rw [h]
    simp
  · rw [decide_eq_false h, decide_eq_false fun e => h (V.str.inj e)]
inductive NeR3 : D → D → Bool → Prop
  | of {x y : D} {b : Bool} : EqR x y b → NeR3 x y b
  | txt {x y : Str} : NeR3 (.str x) (.str y) (decide (x = y))
def rNe3 : RD2 := fun x y S Q => ∃ b, NeR3 (drf S x) (drf S y) b ∧ Q (.bl (!b)) S
theorem op_ne3 {X : Cx} (hu : X.A.units + 64 < cLine) : OpR X (compareOp .NotEq) (l2 X.K G rNe3) := by
  intro pins s σ H x y v u Q I rx ry ⟨Y, β, S, dx, dy, Q', o, r1, r2, ⟨b, h, q⟩, k⟩
  have e1 := o.drf r1
  have e2 := o.drf r2
  generalize hx : drf S dx = x' at h e1
  generalize hy : drf S dy = y' at h e2
  cases h with
  | of h => exact op_ne' hu pins s σ H x y v u Q I rx ry ⟨Y, β, S, dx, dy, Q', o, r1, r2, ⟨b, by rw [hx, hy]; exact h, q⟩, k⟩
  | txt =>
    have fin := k _ S _ β H (.refl o) (.bl _) q
    cases e1
    cases e2
    exact op_ne pins s σ H _ _ v u Q I rx ry ⟨rfl, by rw [dec_V]; exact fin⟩
def rEq3 : RD2 := fun x y S Q => ∃ b, EqR3 (drf S x) (drf S y) b ∧ Q (.bl b) S
theorem op_eq3 {X : Cx} (hu : X.A.units + 64 < cLine) : OpR X (compareOp .Eq) (l2 X.K G rEq3) := by
  intro pins s σ H x y v u Q I rx ry ⟨Y, β, S, dx, dy, Q', o, r1, r2, ⟨b, h, q⟩, k⟩
  have e1 := o.drf r1
  have e2 := o.drf r2
  generalize hx : drf S dx = x' at h e1
  generalize hy : drf S dy = y' at h e2
  cases h with
  | of h => exact op_eq' hu pins s σ H x y v u Q I rx ry ⟨Y, β, S, dx, dy, Q', o, r1, r2, ⟨b, by rw [hx, hy]; exact h, q⟩, k⟩
  | txt =>
    have fin := k _ S _ β H (.refl o) (.bl _) q
    cases e1
    cases e2
    exact op_eq pins s σ H _ _ v u Q I rx ry ⟨rfl, by rw [dec_V]; exact fin⟩
  | dl hd =>
    have fin := k _ S _ β H (.refl o) (.bl false) q
    cases e2 with
    | lst h3 h4 =>
      cases ry
      obtain ⟨its, l, _⟩ := lists_of I h3
      cases x' with
      | dic ks =>
        cases e1 with
        | dic h1 h2 =>
          cases rx
          obtain ⟨_, _, _, _, ob, es, ep, g1, g2, g3, _⟩ := I.hok _ _ h1
          exact eq_dict_list g1 g2 g3 l (by omega) _ _ _ _ ⟨.bl false, H, I, rfl, fin⟩
      | dit ks =>
        cases e1 with
        | dit h1 h2 =>
          cases rx
          obtain ⟨_, _, _, _, ob, es, ep, g1, g2, g3, _⟩ := I.hok _ _ h1
          exact eq_dict_list g1 g2 g3 l (by omega) _ _ _ _ ⟨.bl false, H, I, rfl, fin⟩
      | _ => simp [isDict] at hd
end NC

set_option Elab.async false
set_option linter.all false
set_option maxRecDepth 100000
set_option maxHeartbeats 1000000
/-! NC10: a law's end. -/
namespace NC
open PySem PySem.Spec PyProof.Rows L2
open Evl (Ex)

theorem hid_nil {S : Store} {H : Hp} : hid [] [] S H = H := by
  funext b
  refine hid_of (by simp) fun n o e _ => ?_
  simp at e
theorem ok_nil {K : PySem.W.Frag} {H : Hp} : Ok K ⟨[], []⟩ [] [] [] H := ⟨rfl, List.nodup_nil, fun _ h => (nomatch h), fun _ h => (nomatch h), fun _ h => (nomatch h), fun n o e => by simp at e, fun w h => (nomatch h), ⟨fun p hp => (nomatch hp), fun p hp => (nomatch hp)⟩⟩
theorem Reps.ofInts {K : PySem.W.Frag} {B : Hp} {β : List Addr} : ∀ ns : List Int, Reps K B β (ns.map V.int) (ns.map D.int)
  | [] => .nil
  | n :: ns => .cons (.int n) (Reps.ofInts ns)
/-- what is asked of a law's def: at each script it answers True -/
def TrueAt (r : RDs) (n : Nat) : Prop := ∀ ns : List Int, ns.length ≤ n → r [.ro (ns.map D.int)] [] fun d _ => d = .bl true
theorem top_sp {K : PySem.W.Frag} {r : RDs} {n : Nat} (h : TrueAt r n) {H : Hp} {a : Addr} {ns : List Int} (hl : ns.length ≤ n) (hS : SqL K H a (ns.map V.int)) : lsp K [] r [.ref a] H (fun v _ => v = .bl true) fun _ _ _ => False := by
  refine ⟨[], [], [], [.ro (ns.map D.int)], _, ok_nil, .cons (.ro ?_ (Reps.ofInts ns)) .nil, h ns hl, fun d S v β H' _ r1 e => ?_⟩
  · rw [hid_nil]
    exact hS
  · subst e
    cases r1
    rfl
/-- the law's own call -/
theorem asked {P : Program} {w : World} {K : PySem.W.Frag} {mg mb : Str → Option Value} {k n : Nat} {fa a : Addr} {fd : FuncData} {x : Str} {r : RDs} {s : Shared} {vs : List Value} {ns : List Int}
    (kin : K.In s.heap) (gl : s.heap.Ns mainGlobals mg) (bl : s.heap.Ns builtinsNs mb) (bb : ∀ z : Str, z ≠ "__name__" → mb z = bootBuiltins z) (lim : s.heap.NoLimit) (gens : s.gens = #[])
    (ha : s.heap.get? a = some { cls := .type "list", data := .seq vs.toArray }) (isInts : IntsAre vs ns) (few : ns.length ≤ n) (small : n ≤ sizeLine) (room : Room k callerA)
    (F : ∀ base : Heap, K.In base → base.Ns mainGlobals mg → FnG P w K mg base CX0 k fa fd [x] (lsp K [] r)) (bind : ∀ (t : Shared) (u : Value), BindsTo t fd ⟨[u], []⟩ [(x, u)]) (ht : TrueAt r n) :
    codeAny (model P w) callerA (.call (.ref fa) ⟨[.ref a], []⟩) (fun z t => z = .ok (.ret (.bool true)) ∧ OldK s.heap t.heap ∧ t.os = s.os ∧ AllBare t.gens) s := by
  have size := isInts.length
  have vals := vals_ints isInts
  have one : ∀ H : Hp, Only H → SqL K H a (ns.map V.int) → HOk P w H s.heap → (∀ b, H b ≠ none → b = a ∧ K.lookup a = none) →
      codeAny (model P w) callerA (.call (.ref fa) ⟨[.ref a], []⟩) (fun z t => z = .ok (.ret (.bool true)) ∧ OldK s.heap t.heap ∧ t.os = s.os ∧ AllBare t.gens) s := by
    intro H only hS hok at_a
    -- what H doesn't track is in the base
    have keep : ∀ {b : Addr} {o : Obj}, s.heap.get? b = some o → (b = a → K.lookup a ≠ none ∨ o.cls ≠ .type "list") → (hidT s.heap H).get? b = some o := fun {b o} e hne => by
      refine hidT_get e (Classical.byContradiction fun q => ?_)
      obtain ⟨eb, kn⟩ := at_a b q
      subst eb
      rcases hne rfl with h | h
      · exact h kn
      · rw [ha] at e
        cases e
        exact h rfl
    have space : ∀ {b : Addr} {m : Str → Option Value}, s.heap.Ns b m → (hidT s.heap H).Ns b m := fun {b m} ⟨o, es, ep, e, d, q⟩ => by
      refine ⟨o, es, ep, keep e fun eb => .inr fun hc => ?_, d, q⟩
      subst eb
      rw [ha] at e
      cases e
      cases d
    have base_in : K.In (hidT s.heap H) := fun b o e => keep (kin b o e) fun eb => .inl (by rw [← eb, e]; simp)
    have module : Mod K mg (hidT s.heap H) := ⟨base_in, space gl, ⟨mb, space bl, bb⟩, by
      obtain ⟨mc, h1, h2⟩ := lim
      exact ⟨mc, space h1, h2⟩⟩
    have env : Env0 P w K mg (hidT s.heap H) callerA [] s H := ⟨rfl, module, fun b o e => of_hidT e, Nat.le_of_eq (hidT_size _ _), trivial, fun b hb => (List.not_mem_nil (show b ∈ ([] : List Addr) from hb)).elim, hok, .of_eq gens⟩
    refine codeAny_mono ((F _ base_in (space gl)).go callerA [] s H ⟨[.ref a], []⟩ [.ref a] [.ref a] _ _ room rfl env (bind s (.ref a)) (.cons rfl .nil) (top_sp ht few hS)) ?_
    rintro (err | fl) t ht
    · exact ht.elim
    · cases fl with
      | ret u =>
        obtain ⟨v, H', os, bare, un, hok', rv, ev⟩ := ht
        have ev' : v = .bl true := ev
        subst ev'
        have eu : u = Value.bool true := rv
        subst eu
        refine ⟨rfl, OldK.of_keep fun b o e => ?_, os, bare⟩
        rcases only b with hn | ⟨ob, xs, hf⟩
        · exact un.keep b o e hn (fun z => (List.not_mem_nil (show b ∈ ([] : List Addr) from z)).elim) (by simp)
        · have before := (hok b _ hf).1
          have after := (hok' b _ (un.frzs b ob _ hf)).1
          rw [e] at before
          cases before
          exact after
      | next => exact ht.elim
      | brk => exact ht.elim
      | cont => exact ht.elim
  cases hk : K.lookup a with
  | some o =>
    have e := kin a o hk
    rw [ha] at e
    cases e
    refine one (fun _ => none) (fun _ => .inl rfl) (.inr ⟨_, vs.toArray, _, hk, rfl, rfl, rfl, ?_, by simpa using vals⟩) (fun b u z => absurd (show (none : Option HO) = some u from z) (by simp)) fun b z => (z rfl).elim
    rw [List.size_toArray, size]
    exact Nat.le_trans few small
  | none =>
    have track : ∀ b u, upd (fun _ => none) a (.frz { cls := .type "list", data := .seq vs.toArray } (.lst (ns.map V.int))) b = some u → b = a ∧ u = .frz { cls := .type "list", data := .seq vs.toArray } (.lst (ns.map V.int)) := fun b u z => by
      by_cases eb : b = a
      · subst eb
        rw [upd_same] at z
        cases z
        exact ⟨rfl, rfl⟩
      · rw [upd_ne eb] at z
        cases z
    refine one (upd (fun _ => none) a (.frz { cls := .type "list", data := .seq vs.toArray } (.lst (ns.map V.int)))) (fun b => ?_) (.inl (.inr ⟨_, upd_same⟩)) (fun b u z => ?_) fun b z => ?_
    · by_cases eb : b = a
      · subst eb
        exact .inr ⟨_, _, upd_same⟩
      · exact .inl (upd_ne eb)
    · obtain ⟨rfl, rfl⟩ := track b u z
      exact ⟨ha, by rw [List.length_map]; exact Nat.le_trans few small, vs, _, vals, ha⟩
    · obtain ⟨u, hu⟩ := Option.ne_none_iff_exists'.mp z
      exact ⟨(track b u hu).1, hk⟩
/-- the goal that k_head leaves -/
theorem end_of {l : PySem.W.OpenLaw} {n k : Nat} {q : Program} {loose : List Str} {XP : (Str → Option Value) → Heap → Prop} {YP : World → Heap → Prop} {d : DefRec} {K : Params → PySem.W.Frag} {r : RDs} {x : Str}
    (most : l.most = some n) (small : n ≤ sizeLine) (nodef : d.params.defaults = []) (room : Room k callerA) (kin : ∀ (w : World) (h : Heap), YP w h → (K w.params).In h) (ht : TrueAt r n)
    (F : ∀ (w : World) (mg : Str → Option Value) (fa : Addr) (h : Heap), (K w.params).In h → h.Ns mainGlobals mg → mg d.name = some (.ref fa) →
      ∃ fd : FuncData, (∀ (s : Shared) (u : Value), BindsTo s fd ⟨[u], []⟩ [(x, u)]) ∧ ∀ base : Heap, (K w.params).In base → base.Ns mainGlobals mg → FnG l.prog w (K w.params) mg base CX0 k fa fd [x] (lsp (K w.params) [] r)) :
    PySem.W.WalkO q loose XP YP l.row.toRowW d [] (fun f vs => PySem.call f vs) := by
  refine Att.attach_call most nodef fun w s₀ s mg mb fa o pm cd doc a vs ns G Y ho hd hcd hmg hobj hints few gens => ?_
  obtain ⟨fd, hb, hF⟩ := F w mg fa _ (kin w _ Y) G.T.g hmg
  exact asked (kin w _ Y) G.T.g G.T.b G.T.builtins G.T.nolimit gens hobj hints few small room hF hb ht
end NC

set_option Elab.async false
set_option linter.all false
set_option maxRecDepth 100000
set_option maxHeartbeats 1000000
/-! NC11: the rules as a printer writes them. -/
namespace NC
open PySem PySem.Spec PyProof.Rows L2
open Evl (Ex)

section
variable {X : Cx} {e tg iter elt : Expr} {es ifs : List Expr} {x y : Str} {p pos spos py : Pos} {ta te : TD} {tl : TLs} {T id : String} {r : RDs} {i : Nat} {t : Tg} {ts : TSr} {tt : TB} {scope : Scope} {own : List (Str × Nat)}
/-- a built-in function of values -/
theorem de_B (hc : CallR X (.builtin id) (ls X.K G r)) (hm : X.mg x = none) (hv : bootBuiltins x = some (.builtin id)) (ha : PA X (e :: es) (tA X.K G tl)) (hg : Gl X x := by rfl) (hn : x ≠ "__name__" := by decide) (hdb : (x == ("__debug__" : Str)) = false := by decide)
    (he : starEach (e :: es) X.env = (false, eval e X.env) :: starEach es X.env := by rfl) (hpl : (backTo pos (starEach es X.env)).any (·.1) = false := by rfl) : PE X (.Call (.Name x p) (e :: es) [] pos) (tE X.K G (eB r tl)) :=
  (pe_callB hc hg hm hv ha hn hdb he hpl).imp fun _ _ _ h => b_lift h
theorem de_Ty (hc : CallR X (.type T) (ls X.K G r)) (hm : X.mg x = none) (hv : bootBuiltins x = some (.type T)) (ha : PA X (e :: es) (tA X.K G tl)) (hg : Gl X x := by rfl) (hn : x ≠ "__name__" := by decide) (hdb : (x == ("__debug__" : Str)) = false := by decide)
    (he : starEach (e :: es) X.env = (false, eval e X.env) :: starEach es X.env := by rfl) (hpl : (backTo pos (starEach es X.env)).any (·.1) = false := by rfl) : PE X (.Call (.Name x p) (e :: es) [] pos) (tE X.K G (eB r tl)) :=
  (pe_callTy hc hg hm hv ha hn hdb he hpl).imp fun _ _ _ h => b_lift h
/-- the name of a built-in type -/
theorem pe_T (hm : X.mg x = none) (hv : bootBuiltins x = some (.type T)) (hg : Gl X x := by rfl) (hn : x ≠ "__name__" := by decide) (hdb : (x == ("__debug__" : Str)) = false := by decide) : PE X (.Name x p) (tC (.ty T)) := pe_bltn hg hm hv rfl hn hdb
/-! targets -/
theorem dg_nm (hN : X.N.Nodup) (hi : X.N[i]? = some x) (hx : Loc X.env.scope x) (hf : X.fn x = true ∨ X.env.scope.names.lookup x = some .local) : PG X (.Name x pos) (toG X.K (.nm i)) := by
  unfold toG
  exact pg_name hN hi hx hf
theorem dgs_nil : PGs X [] (toGs X.K []) := by
  unfold toGs
  exact pgs_nil
theorem dgs_cons {tgs : List Tg} (h1 : PG X e (toG X.K t)) (h2 : PGs X es (toGs X.K tgs)) (hs : (assignEach (e :: es) X.env).map (·.2) = assign e X.env :: (assignEach es X.env).map (·.2) := by rfl) : PGs X (e :: es) (toGs X.K (t :: tgs)) := by
  unfold toGs
  exact pgs_cons h1 h2 hs
theorem dg_tp {k : Nat} {tgs : List Tg} (hc : X.calm = true) (h : PGs X es (toGs X.K tgs)) (hn : (assignEach es X.env).length = tgs.length := by rfl) (hst : (assignEach es X.env).findIdx? (·.1) = none := by rfl) : PG X (.Tuple es k pos) (toG X.K (.tp tgs)) := by
  unfold toG
  exact pg_tup hc h hn hst
/-! stores -/
theorem ds_set (hN : X.N.Nodup) (hi : X.N[i]? = some x) (hx : Loc X.env.scope x) (he : PE X e (tE X.K G ta)) (hs : swapsWith e (some (.Name x py)) pos.line X.env = pure false := by rfl) (hf : X.fn x = true ∨ X.env.scope.names.lookup x = some .local := by first | exact .inl rfl | exact .inr rfl) :
    PS X (.Assign [.Name x py] e pos) (tS X.K G (sAsg (.nm i) ta)) := ds_asg (by
  unfold toG
  exact ps_set hN hi hx he hs hf)
theorem lcS {i : Nat} {te' : TE} {st : Stmt} (h : PS X st (tAsg te' (gName i))) (l : ∀ σ H Q, tE X.K G ta σ H Q → te' σ H Q) : PS X st (tS X.K G (sAsg (.nm i) ta)) := ds_asgOf (by
  unfold toG
  exact h) l
end
section
variable {X : Cx} {k n m : Nat} {f : Addr} {fd : FuncData} {ps ks : List Str} {r : RDs} {x : Str} {p pos : Pos} {e : Expr} {es : List Expr} {kws : List Keyword} {perm : List Nat} {tl tk' : TLs}
theorem de_kw (F : FnG X.prog X.w X.K X.mg X.base CX0 k f fd ps (lsp X.K G.T r)) (hr : Room k X.A) (hgd : X.A.guards = some []) (hm : X.mg x = some (.ref f)) (hk : PySem.W.keepIn X.K (.ref f) = true)
    (hb : KwB X.K fd ps n ks perm) (ha : PA X (e :: es) (tA X.K G tl)) (hkw : PK X kws (tA X.K G tk')) (hl : ks.length = m) (hg : Gl X x := by rfl) (hall : (backToKw pos (keywordEach kws X.env)).all (·.1.isSome) = true := by rfl)
    (hks : (backToKw pos (keywordEach kws X.env)).filterMap (·.1) = ks := by rfl) (hdb : (x == ("__debug__" : Str)) = false := by decide) (he : starEach (e :: es) X.env = (false, eval e X.env) :: starEach es X.env := by rfl)
    (hpl : ((backTo pos (starEach (e :: es) X.env)).any (·.1) || (backToKw pos (keywordEach kws X.env)).any (·.1.isNone)) = false := by rfl) : PE X (.Call (.Name x p) (e :: es) kws pos) (tE X.K G (eCallKw r n m perm tl tk')) := by
  subst hl
  exact de_callKw F hr hgd hg hm hk hb ha hkw hall hks hdb he hpl
theorem de_kw0 (F : FnG X.prog X.w X.K X.mg X.base CX0 k f fd ps (lsp X.K G.T r)) (hr : Room k X.A) (hgd : X.A.guards = some []) (hm : X.mg x = some (.ref f)) (hk : PySem.W.keepIn X.K (.ref f) = true)
    (hb : KwB X.K fd ps 0 ks perm) (hkw : PK X kws (tA X.K G tk')) (hl : ks.length = m) (hg : Gl X x := by rfl) (hall : (backToKw pos (keywordEach kws X.env)).all (·.1.isSome) = true := by rfl)
    (hks : (backToKw pos (keywordEach kws X.env)).filterMap (·.1) = ks := by rfl) (hdb : (x == ("__debug__" : Str)) = false := by decide)
    (hpl : ((backTo pos (starEach [] X.env)).any (·.1) || (backToKw pos (keywordEach kws X.env)).any (·.1.isNone)) = false := by rfl) : PE X (.Call (.Name x p) [] kws pos) (tE X.K G (eCallKw r 0 m perm aNil tk')) := by
  subst hl
  exact de_callKw0 F hr hgd hg hm hk hb hkw hall hks hdb hpl
end
abbrev rNeg : RD1 := fun x S Q => ∃ i, x = .int i ∧ Q (.int (-i)) S
theorem bt_int : bootBuiltins "int" = some (.type "int") := by decide +kernel
theorem bt_bool : bootBuiltins "bool" = some (.type "bool") := by decide +kernel
theorem bt_list : bootBuiltins "list" = some (.type "list") := by decide +kernel
theorem bt_tuple : bootBuiltins "tuple" = some (.type "tuple") := by decide +kernel
theorem bt_str : bootBuiltins "str" = some (.type "str") := by decide +kernel
theorem bt_dict : bootBuiltins "dict" = some (.type "dict") := by decide +kernel
theorem bt_set : bootBuiltins "set" = some (.type "set") := by decide +kernel
theorem bt_abs : bootBuiltins "abs" = some (.builtin "abs") := by decide +kernel
theorem bt_repr : bootBuiltins "repr" = some (.builtin "repr") := by decide +kernel
theorem bt_all : bootBuiltins "all" = some (.builtin "all") := by decide +kernel
theorem bt_any : bootBuiltins "any" = some (.builtin "any") := by decide +kernel
theorem bt_isinstance : bootBuiltins "isinstance" = some (.builtin "isinstance") := by decide +kernel
theorem _root_.L2.Room.u65 {k : Nat} {A : Around} (r : Room k A) : A.units + 65 < cLine := by
  have := r.un
  omega
end NC

set_option Elab.async false
set_option linter.all false
set_option maxRecDepth 100000
set_option maxHeartbeats 1000000
/-! NC12: reasoning over readings; the jar that the laws draw from. -/
namespace NC
open PySem PySem.Spec PyProof.Rows L2

/-- a statement, then the rest, by what holds between them -/
theorem cut {su sv : TSd} {N : DN} {ρ : Rho} {S : Store} (P : Rho → Store → Prop) (h : ∀ N' : DN, N'.rt = N.rt → (∀ ρ' S', P ρ' S' → N'.nx ρ' S') → su N' ρ S) (k : ∀ ρ' S', P ρ' S' → sv N ρ' S') : sSeq su sv N ρ S := h _ rfl k
/-- as cut, where what stands between may also go out of the body by break or continue -/
theorem cut' {su sv : TSd} {N : DN} {ρ : Rho} {S : Store} (P : Rho → Store → Prop) (h : ∀ N' : DN, N'.rt = N.rt → N'.bk = N.bk → N'.ct = N.ct → (∀ ρ' S', P ρ' S' → N'.nx ρ' S') → su N' ρ S) (k : ∀ ρ' S', P ρ' S' → sv N ρ' S') : sSeq su sv N ρ S := h _ rfl rfl rfl k
section
variable {ρ : Rho} {S : Store} {Q : QD} {N : DN} {ta tb tc : TD} {tt tu : TB} {tl tk : TLs} {su sv : TSd} {r r' : RD2} {r1 : RD1} {rs : RDs} {rm : RDm} {QB : Bool → Store → Prop} {QL : List D → Store → Prop} {i j n m : Nat} {d : D} {t : Tg} {T : String} {pm : List Nat} {ts : TSr} {te : TD} {vs : List Nat} {lo hi : TOd} {xs : List D} {QO : Option Int → Store → Prop} {QI : List D → (Store → Prop) → Store → Prop}
theorem ap_runD : runD n su xs S Q = su { nx := fun _ S' => Q .non S', rt := Q } (startD n xs) S := rfl
theorem ap_sSeq : sSeq su sv N ρ S = su { N with nx := sv N } ρ S := rfl
theorem ap_sIf : sIf tt su sv N ρ S = tt ρ S fun c S1 => if c = true then su N ρ S1 else sv N ρ S1 := rfl
theorem ap_sNil : sNil N ρ S = N.nx ρ S := rfl
theorem ap_sRet : sRet ta N ρ S = ta ρ S N.rt := rfl
theorem ap_sAsg : sAsg t ta N ρ S = ta ρ S fun d S1 => ∃ ρ', bindT t d ρ = some ρ' ∧ N.nx ρ' S1 := rfl
theorem ap_sDrop : sDrop ta N ρ S = ta ρ S fun _ S1 => N.nx ρ S1 := rfl
theorem ap_sPut : sPut tb tc ta N ρ S = ta ρ S fun d S1 => tb ρ S1 fun o S2 => tc ρ S2 fun k S3 => ∃ n i ds j, o = .ref n ∧ k = .int i ∧ S3[n]? = some (some (.lst ds)) ∧ ixN ds.length i = some j ∧ N.nx ρ (S3.set n (some (.lst (ds.set j d)))) := rfl
theorem ap_sPar : sPar i j tl N ρ S = tl ρ S fun ds S1 => ∃ d e, ds = [d, e] ∧ N.nx ((ρ.set i (some d)).set j (some e)) S1 := rfl
theorem ap_nm : bindT (.nm i) d ρ = some (ρ.set i (some d)) := by unfold bindT; rfl
theorem ap_eVar : eVar i ρ S Q = ∃ d, ρ[i]? = some (some d) ∧ Q d S := rfl
theorem ap_eC : eC d ρ S Q = Q d S := rfl
theorem ap_eOp : eOp r ta tb ρ S Q = ta ρ S fun x S1 => tb ρ S1 fun y S2 => r x y S2 Q := rfl
theorem ap_eChain : eChain r r' ta tb tc ρ S Q = ta ρ S fun x S1 => tb ρ S1 fun y S2 => r x y S2 fun z S3 => ∃ k, z = .bl k ∧ if k = true then tc ρ S3 fun w S4 => r' y w S4 Q else Q (.bl false) S3 := rfl
theorem ap_eB : eB rs tl ρ S Q = tl ρ S fun xs S1 => rs xs S1 Q := rfl
theorem ap_eUn : eUn r1 ta ρ S Q = ta ρ S fun x S1 => r1 x S1 Q := rfl
theorem ap_eTup : eTup tl ρ S Q = tl ρ S fun xs S1 => xs.length ≤ sizeLine ∧ Q (.tup xs) S1 := rfl
theorem ap_eLst : eLst tl ρ S Q = tl ρ S fun xs S1 => xs.length ≤ sizeLine ∧ Q (.lst xs) S1 := rfl
theorem ap_eLstM : eLstM tl ρ S Q = tl ρ S fun xs S1 => xs.length ≤ sizeLine ∧ Q (.ref S1.length) (S1 ++ [some (.lst xs)]) := rfl
theorem ap_eAnd : eAnd ta tb ρ S Q = ta ρ S fun x S1 => ∃ c, x = .bl c ∧ if c = true then tb ρ S1 Q else Q (.bl false) S1 := rfl
theorem ap_eOr : eOr ta tb ρ S Q = ta ρ S fun x S1 => ∃ c, x = .bl c ∧ if c = true then Q (.bl true) S1 else tb ρ S1 Q := rfl
theorem ap_eNot : eNot ta ρ S Q = ta ρ S fun x S1 => ∃ c, x = .bl c ∧ Q (.bl (!c)) S1 := rfl
theorem ap_eIf : eIf tt ta tb ρ S Q = tt ρ S fun c S1 => if c = true then ta ρ S1 Q else tb ρ S1 Q := rfl
theorem ap_bOf : bOf ta ρ S QB = ta ρ S fun x S1 => ∃ c, x = .bl c ∧ QB c S1 := rfl
theorem ap_bAnd : bAnd tt tu ρ S QB = tt ρ S fun c S1 => if c = true then tu ρ S1 QB else QB false S1 := rfl
theorem ap_bOr : bOr tt tu ρ S QB = tt ρ S fun c S1 => if c = true then QB true S1 else tu ρ S1 QB := rfl
theorem ap_bNot : bNot tt ρ S QB = tt ρ S fun c S1 => QB (!c) S1 := rfl
theorem ap_bYes : bYes ρ S QB = QB true S := rfl
theorem ap_aNil : aNil ρ S QL = QL [] S := rfl
theorem ap_aCons : aCons ta tl ρ S QL = ta ρ S fun x S1 => tl ρ S1 fun xs S2 => QL (x :: xs) S2 := rfl
theorem ap_eCall : eCall rs tl ρ S Q = tl ρ S fun xs S1 => rs xs S1 Q := rfl
theorem ap_eCallKw : eCallKw rs n m pm tl tk ρ S Q = tl ρ S fun xs S1 => tk ρ S1 fun ys S2 => xs.length = n ∧ ys.length = m ∧ rs (pick pm (xs ++ ys) .non) S2 Q := rfl
theorem ap_eCut : eCut ta lo hi ρ S Q = ta ρ S fun x S1 => lo ρ S1 fun l S2 => hi ρ S2 fun u S3 => rCut x l u S3 Q := rfl
theorem ap_oNone : oNone ρ S QO = QO none S := rfl
theorem ap_oSome : oSome ta ρ S QO = ta ρ S fun x S1 => ∃ i, x = .int i ∧ QO (some i) S1 := rfl
theorem ap_eM : eM T rm ta tl ρ S Q = ta ρ S fun x S1 => tyM T (drf S1 x) ∧ tl ρ S1 fun xs S2 => rm x xs S2 Q := rfl
theorem ap_sSq : sSq ta ρ S QI = ta ρ S fun x S1 => ∃ xs, seqOf (drf S1 x) = some xs ∧ QI xs (fun S' => drf S' x = drf S1 x) S1 := rfl
theorem ap_sRange1 : sRange1 tl ρ S QI = tl ρ S fun xs S1 => ∃ n : Int, xs = [.int n] ∧ -(2 ^ 62) ≤ n ∧ n < 2 ^ 62 ∧ QI (rangeD 0 n) (fun _ => True) S1 := rfl
theorem ap_sRange2 : sRange2 tl ρ S QI = tl ρ S fun xs S1 => ∃ m n : Int, xs = [.int m, .int n] ∧ (-(2 ^ 62) ≤ m ∧ m < 2 ^ 62 ∧ -(2 ^ 62) ≤ n ∧ n < 2 ^ 62) ∧ QI (rangeD m n) (fun _ => True) S1 := rfl
theorem ap_sEnum : sEnum ta ρ S QI = aCons ta aNil ρ S fun ds S1 => ∃ d xs, ds = [d] ∧ drf S1 d = .lst xs ∧ QI (enumD xs) (fun S' => drf S' d = drf S1 d) S1 := rfl
theorem ap_eIsi : eIsi T ta ρ S Q = ta ρ S fun x S1 => ∃ b, isiD (drf S1 x) T = some b ∧ Q (.bl b) S1 := rfl
/-- the turns of a comprehension -/
def Lc1 (t : Tg) (tt : TB) (te : TD) (vs : List Nat) (ρ : Rho) (items : List D) (stays : Store → Prop) (S1 : Store) (R : List D → Store → Prop) : Prop := ∃ I : Nat → List D → Store → Prop, I 0 [] S1 ∧ (∀ i acc S', I i acc S' → stays S') ∧ items.length ≤ sizeLine ∧
  (∀ i d acc S', items[i]? = some d → I i acc S' → ∃ ρ2, bindT t d (wipeD ρ vs) = some ρ2 ∧ tt ρ2 S' fun b S2 => if b = true then te ρ2 S2 fun y S3 => I (i + 1) (acc ++ [y]) S3 else I (i + 1) acc S2) ∧ ∀ acc S', I items.length acc S' → R acc S'
theorem ap_eLc : eLc ts t tt te vs ρ S Q = ts ρ S fun items stays S1 => Lc1 t tt te vs ρ items stays S1 fun acc S' => Q (.lst acc) S' := rfl
theorem ap_eLcM : eLcM ts t tt te vs ρ S Q = ts ρ S fun items stays S1 => Lc1 t tt te vs ρ items stays S1 fun acc S' => Q (.ref S'.length) (S' ++ [some (.lst acc)]) := rfl
/-- the turns of a loop -/
def For1 (t : Tg) (su : TSd) (N : DN) (ρ : Rho) (items : List D) (stays : Store → Prop) (S1 : Store) : Prop := ∃ I : Nat → Rho → Store → Prop, I 0 ρ S1 ∧ (∀ i ρ' S', I i ρ' S' → stays S') ∧
  (∀ i d ρ' S', items[i]? = some d → I i ρ' S' → ∃ ρ'', bindT t d ρ' = some ρ'' ∧ su { N with nx := I (i + 1), ct := I (i + 1), bk := N.nx } ρ'' S') ∧ ∀ ρ' S', I items.length ρ' S' → N.nx ρ' S'
theorem ap_sFor : sFor ts t su N ρ S = ts ρ S fun items stays S1 => For1 t su N ρ items stays S1 := rfl
end
/-- the law's jar: its cells, the place, the rest -/
def jar (cells : List Int) (at_ rest : Int) : SO := .lst [.lst (cells.map .int), .int at_, .int rest]
/-- the jar after at most k draws -/
def Urn (k : Nat) (o : SO) : Prop := ∃ (cells : List Int) (at_ rest : Int), o = jar cells at_ rest ∧ 0 ≤ at_ ∧ at_ ≤ k ∧ 0 ≤ rest ∧ cells.length ≤ 63
theorem Urn.mono {k j : Nat} {o : SO} (h : Urn k o) (l : k ≤ j) : Urn j o := by
  obtain ⟨c, a, r, e, h1, h2, h3, h4⟩ := h
  exact ⟨c, a, r, e, h1, by omega, h3, h4⟩
/-- a draw below many -/
def rDraw : RDs := fun xs S Q => ∃ (k : Nat) (o : SO) (T : Store) (many : Int), xs = [.ref 0, .int many] ∧ S = some o :: T ∧ Urn k o ∧ k < 1000000 ∧ 0 < many ∧ many ≤ 10 ^ 100 ∧
  ∀ (o' : SO) (n : Int), Urn (k + 1) o' → 0 ≤ n → n < many → Q (.int n) (some o' :: T)
theorem rDraw_len (xs : List D) (S : Store) (Q : QD) (h : rDraw xs S Q) : xs.length = 2 := by
  obtain ⟨_, _, _, _, rfl, _⟩ := h
  rfl
def drawB (c1 c2 m1 c3 m2 c4 m3 : Int) : TSd := (sSeq (sIf (bOf (eOp rGt (eOp rIx2 (eVar 0) (eC (.int 2))) (eC (.int 0))))
    (sSeq (sAsg (.nm 5) (eB rInt1 (aCons (eOp rIx2 (eVar 0) (eC (.int 2))) aNil)))
    (sSeq (sPut (eVar 0) (eC (.int 2)) (eOp rDiv (eVar 5) (eVar 1)))
    (sRet (eOp rMod (eB rInt1 (aCons (eVar 5) aNil)) (eVar 1)))))
    sNil)
    (sSeq (sAsg (.nm 2) (eOp rIx2 (eVar 0) (eC (.int 1))))
    (sSeq (sPut (eVar 0) (eC (.int 1)) (eOp rAdd (eVar 2) (eC (.int 1))))
    (sSeq (sAsg (.nm 3) (eOp rAdd (eOp rMulI (eC (.int c1)) (eVar 2)) (eC (.int c2))))
    (sSeq (sIf (bOf (eOp rNe3 (eOp rIx2 (eVar 0) (eC (.int 0))) (eLst aNil)))
    (sAsg (.nm 3) (eOp rIx2 (eOp rIx2 (eVar 0) (eC (.int 0))) (eOp rMod (eB rInt1 (aCons (eVar 2) aNil)) (eB rLen (aCons (eOp rIx2 (eVar 0) (eC (.int 0))) aNil)))))
    sNil)
    (sSeq (sIf (bAnd (bOf (eOp rLt (eVar 2) (eB rLen (aCons (eOp rIx2 (eVar 0) (eC (.int 0))) aNil)))) (bOf (eOp rGe (eB rAbs (aCons (eVar 3) aNil)) (eOp rPow (eC (.int 10)) (eC (.int 18))))))
    (sSeq (sAsg (.nm 5) (eOp rAdd (eOp rMulI (eC (.int 2)) (eOp rSub (eB rAbs (aCons (eVar 3) aNil)) (eOp rPow (eC (.int 10)) (eC (.int 18))))) (eB rInt1 (aCons (eOp rLt (eVar 3) (eC (.int 0))) aNil))))
    (sSeq (sPut (eVar 0) (eC (.int 2)) (eOp rDiv (eB rInt1 (aCons (eVar 5) aNil)) (eVar 1)))
    (sRet (eOp rMod (eB rInt1 (aCons (eVar 5) aNil)) (eVar 1)))))
    sNil)
    (sSeq (sAsg (.nm 4) (eOp rMod (eB rInt1 (aCons (eOp rPow (eOp rAdd (eOp rAdd (eOp rMod (eB rInt1 (aCons (eVar 3) aNil)) (eC (.int m1))) (eOp rMulI (eC (.int c3)) (eVar 2))) (eC (.int c2))) (eC (.int 5))) aNil)) (eC (.int m2))))
    (sSeq (sAsg (.nm 4) (eOp rMod (eB rInt1 (aCons (eOp rPow (eOp rAdd (eOp rAdd (eOp rMulI (eVar 4) (eOp rAdd (eOp rMulI (eC (.int 2)) (eVar 2)) (eC (.int c4)))) (eOp rMulI (eOp rMulI (eC (.int c1)) (eVar 2)) (eVar 2))) (eC (.int c3))) (eC (.int 3))) aNil)) (eC (.int m3))))
    (sRet (eOp rMod (eB rInt1 (aCons (eOp rDiv (eVar 4) (eC (.int 64))) aNil)) (eVar 1)))))))))))
def small17 (c : Int) : Bool := decide (0 ≤ c) && decide (c < 131072)
def small31 (c : Int) : Bool := decide (0 < c) && decide (c < 2147483648)

theorem drf_jar {cells : List Int} {a r : Int} {T : Store} : drf (some (jar cells a r) :: T) (.ref 0) = .lst [.lst (cells.map .int), .int a, .int r] := rfl
theorem ix_jar {cells : List Int} {a r : Int} {T : Store} {Q : QD} {i : Nat} {d : D} (h : ([.lst (cells.map .int), .int a, .int r] : List D)[i]? = some d) (q : Q d (some (jar cells a r) :: T)) : rIx2 (.ref 0) (.int (i : Int)) (some (jar cells a r) :: T) Q :=
  ⟨_, _, d, by rw [drf_jar]; rfl, rfl, atI_nat h, q⟩

theorem ne_nil {x : D} {xs : List D} {S : Store} {Q : QD} (h : drf S x = .lst xs) (q : Q (.bl (!xs.isEmpty)) S) : rNe3 x (.lst []) S Q := by
  cases xs with
  | nil => exact ⟨true, by rw [h]; exact .of (.data (x := .lst []) (y := .lst []) rfl rfl), q⟩
  | cons y ys => exact ⟨false, by rw [h]; exact .of (.len (by simp)), q⟩
theorem len_seq {x : D} {xs : List D} {S : Store} {Q : QD} (h : seqOf (drf S x) = some xs) (q : Q (.int xs.length) S) : rLen [x] S Q := by
  unfold rLen
  cases hd : drf S x with
  | str z => rw [hd] at h; cases h
  | _ =>
    simp only [hd]
    exact ⟨xs, by rw [hd] at h; exact h, q⟩
theorem int2 {P : Int → Int → Prop} {g : Int → Int → D} {i j : Int} {S : Store} {Q : QD} (p : P i j) (q : Q (g i j) S) : r2I P g (.int i) (.int j) S Q := ⟨i, j, rfl, rfl, p, q⟩
theorem add_int {i j : Int} {S : Store} {Q : QD} (q : Q (.int (i + j)) S) : rAdd (.int i) (.int j) S Q := q
theorem ix_of {x d : D} {xs : List D} {i : Nat} {S : Store} {Q : QD} (h : seqOf (drf S x) = some xs) (e : xs[i]? = some d) (q : Q d S) : rIx2 x (.int (i : Int)) S Q := ⟨_, _, d, h, rfl, atI_nat e, q⟩
theorem ix_at {x d : D} {xs : List D} {i : Int} {S : Store} {Q : QD} (h : seqOf (drf S x) = some xs) (h0 : 0 ≤ i) (e : xs[i.toNat]? = some d) (q : Q d S) : rIx2 x (.int i) S Q := by
  have := ix_of (Q := Q) h e q
  rwa [Int.toNat_of_nonneg h0] at this
theorem log_of {m : Int} (h0 : 0 < m) (h : m ≤ 10 ^ 100) : m.natAbs.log2 < 9000 := by
  have h2 : m.natAbs ≠ 0 := by omega
  have h1 : m.natAbs < 2 ^ 400 := Nat.lt_of_le_of_lt (show m.natAbs ≤ 10 ^ 100 by omega) (by decide +kernel)
  have h3 := (Nat.log2_lt h2 (k := 400)).mpr h1
  omega
set_option maxHeartbeats 4000000 in
theorem draw_run {c1 c2 m1 c3 m2 c4 m3 : Int} (hc : (small17 c1 && small17 c2 && small31 m1 && small17 c3 && small31 m2 && small17 c4 && small31 m3) = true) (xs : List D) (S : Store) (Q : QD) (h : rDraw xs S Q) : runD 6 (drawB c1 c2 m1 c3 m2 c4 m3) xs S Q := by
  obtain ⟨k, o, T, many, rfl, rfl, ⟨cells, a, r, rfl, ha, hak, hr, hcl⟩, hk, hm0, hm1, q⟩ := h
  have hlog := log_of hm0 hm1
  simp only [small17, small31, Bool.and_eq_true, decide_eq_true_eq] at hc
  obtain ⟨⟨⟨⟨⟨⟨⟨c10, c11⟩, c20, c21⟩, m10, m11⟩, c30, c31⟩, m20, m21⟩, c40, c41⟩, m30, m31⟩ := hc
  have done : ∀ (a' r' i : Int), 0 ≤ a' → a' ≤ k + 1 → 0 ≤ r' → Q (.int (i % many)) (some (jar cells a' r') :: T) := fun a' r' i h1 h2 h3 =>
    q _ _ ⟨cells, a', r', rfl, h1, by omega, h3, hcl⟩ (Int.emod_nonneg _ (by omega)) (Int.emod_lt_of_pos _ hm0)
  have dv : ∀ i : Int, 0 ≤ i → 0 ≤ i / many := fun i h => Int.ediv_nonneg h (by omega)
  unfold drawB
  show sSeq _ _ _ _ _
  refine cut (fun ρ' S' => ρ' = startD 6 [.ref 0, .int many] ∧ S' = some (jar cells a r) :: T) (fun N' hrt hnx => ?_) (fun ρ' S' hP => ?_)
  · simp only [ap_runD, ap_sSeq, ap_sIf, ap_sNil, ap_sRet, ap_sAsg, ap_sDrop, ap_sPut, ap_sPar, ap_nm, ap_eVar, ap_eC, ap_eOp, ap_eChain, ap_eB, ap_eUn, ap_eTup, ap_eLst, ap_eLstM, ap_eAnd, ap_eOr, ap_eNot, ap_eIf, ap_bOf, ap_bAnd, ap_bOr, ap_bNot, ap_bYes, ap_aNil, ap_aCons, ap_eCall, ap_eCallKw, ap_eCut, ap_oNone, ap_oSome, ap_eM, ap_sSq, ap_sRange1, ap_sRange2, ap_sEnum, ap_eIsi, ap_eLc, ap_eLcM, ap_sFor, startD, List.map_cons, List.map_nil, List.length_cons, List.length_nil, List.getElem?_cons_zero, List.getElem?_cons_succ, List.set_cons_zero, List.set_cons_succ, List.replicate, List.cons_append, List.nil_append, Option.some.injEq, exists_eq_left', Option.bind_some, Nat.sub_self, Nat.reduceAdd, Nat.reduceSub, Nat.reduceLeDiff]
    refine ix_jar (i := 2) rfl (int2 trivial ⟨_, rfl, ?_⟩)
    by_cases hr0 : 0 < r
    · simp only [hr0, decide_true, if_true]
      refine ix_jar (i := 2) rfl ?_
      simp only [ap_runD, ap_sSeq, ap_sIf, ap_sNil, ap_sRet, ap_sAsg, ap_sDrop, ap_sPut, ap_sPar, ap_nm, ap_eVar, ap_eC, ap_eOp, ap_eChain, ap_eB, ap_eUn, ap_eTup, ap_eLst, ap_eLstM, ap_eAnd, ap_eOr, ap_eNot, ap_eIf, ap_bOf, ap_bAnd, ap_bOr, ap_bNot, ap_bYes, ap_aNil, ap_aCons, ap_eCall, ap_eCallKw, ap_eCut, ap_oNone, ap_oSome, ap_eM, ap_sSq, ap_sRange1, ap_sRange2, ap_sEnum, ap_eIsi, ap_eLc, ap_eLcM, ap_sFor, startD, List.map_cons, List.map_nil, List.length_cons, List.length_nil, List.getElem?_cons_zero, List.getElem?_cons_succ, List.set_cons_zero, List.set_cons_succ, List.replicate, List.cons_append, List.nil_append, Option.some.injEq, exists_eq_left', Option.bind_some, Nat.sub_self, Nat.reduceAdd, Nat.reduceSub, Nat.reduceLeDiff, rInt1]
      refine int2 ⟨hm0, hlog⟩ ⟨0, 2, _, 2, rfl, rfl, rfl, rfl, int2 hm0 ?_⟩
      rw [hrt]
      exact done a (r / many) r ha (by omega) (dv r (by omega))
    · simp only [hr0, decide_false, Bool.false_eq_true, if_false]
      exact hnx _ _ ⟨rfl, rfl⟩
  obtain ⟨rfl, rfl⟩ := hP
  refine cut (fun ρ' S' => ρ' = [some (.ref 0), some (.int many), some (.int a), none, none, none] ∧ S' = some (jar cells a r) :: T) (fun N' hrt hnx => ?_) (fun ρ' S' hP => ?_)
  · simp only [ap_runD, ap_sSeq, ap_sIf, ap_sNil, ap_sRet, ap_sAsg, ap_sDrop, ap_sPut, ap_sPar, ap_nm, ap_eVar, ap_eC, ap_eOp, ap_eChain, ap_eB, ap_eUn, ap_eTup, ap_eLst, ap_eLstM, ap_eAnd, ap_eOr, ap_eNot, ap_eIf, ap_bOf, ap_bAnd, ap_bOr, ap_bNot, ap_bYes, ap_aNil, ap_aCons, ap_eCall, ap_eCallKw, ap_eCut, ap_oNone, ap_oSome, ap_eM, ap_sSq, ap_sRange1, ap_sRange2, ap_sEnum, ap_eIsi, ap_eLc, ap_eLcM, ap_sFor, startD, List.map_cons, List.map_nil, List.length_cons, List.length_nil, List.getElem?_cons_zero, List.getElem?_cons_succ, List.set_cons_zero, List.set_cons_succ, List.replicate, List.cons_append, List.nil_append, Option.some.injEq, exists_eq_left', Option.bind_some, Nat.sub_self, Nat.reduceAdd, Nat.reduceSub, Nat.reduceLeDiff]
    exact ix_jar (i := 1) rfl (hnx _ _ ⟨rfl, rfl⟩)
  obtain ⟨rfl, rfl⟩ := hP
  refine cut (fun ρ' S' => ρ' = [some (.ref 0), some (.int many), some (.int a), none, none, none] ∧ S' = some (jar cells (a + 1) r) :: T) (fun N' hrt hnx => ?_) (fun ρ' S' hP => ?_)
  · simp only [ap_runD, ap_sSeq, ap_sIf, ap_sNil, ap_sRet, ap_sAsg, ap_sDrop, ap_sPut, ap_sPar, ap_nm, ap_eVar, ap_eC, ap_eOp, ap_eChain, ap_eB, ap_eUn, ap_eTup, ap_eLst, ap_eLstM, ap_eAnd, ap_eOr, ap_eNot, ap_eIf, ap_bOf, ap_bAnd, ap_bOr, ap_bNot, ap_bYes, ap_aNil, ap_aCons, ap_eCall, ap_eCallKw, ap_eCut, ap_oNone, ap_oSome, ap_eM, ap_sSq, ap_sRange1, ap_sRange2, ap_sEnum, ap_eIsi, ap_eLc, ap_eLcM, ap_sFor, startD, List.map_cons, List.map_nil, List.length_cons, List.length_nil, List.getElem?_cons_zero, List.getElem?_cons_succ, List.set_cons_zero, List.set_cons_succ, List.replicate, List.cons_append, List.nil_append, Option.some.injEq, exists_eq_left', Option.bind_some, Nat.sub_self, Nat.reduceAdd, Nat.reduceSub, Nat.reduceLeDiff]
    exact add_int ⟨0, 1, _, 1, rfl, rfl, rfl, rfl, hnx _ _ ⟨rfl, rfl⟩⟩
  obtain ⟨rfl, rfl⟩ := hP
  refine cut (fun ρ' S' => ∃ c : Int, ρ' = [some (.ref 0), some (.int many), some (.int a), some (.int c), none, none] ∧ S' = some (jar cells (a + 1) r) :: T) (fun N' hrt hnx => ?_) (fun ρ' S' hP => ?_)
  · simp only [ap_runD, ap_sSeq, ap_sIf, ap_sNil, ap_sRet, ap_sAsg, ap_sDrop, ap_sPut, ap_sPar, ap_nm, ap_eVar, ap_eC, ap_eOp, ap_eChain, ap_eB, ap_eUn, ap_eTup, ap_eLst, ap_eLstM, ap_eAnd, ap_eOr, ap_eNot, ap_eIf, ap_bOf, ap_bAnd, ap_bOr, ap_bNot, ap_bYes, ap_aNil, ap_aCons, ap_eCall, ap_eCallKw, ap_eCut, ap_oNone, ap_oSome, ap_eM, ap_sSq, ap_sRange1, ap_sRange2, ap_sEnum, ap_eIsi, ap_eLc, ap_eLcM, ap_sFor, startD, List.map_cons, List.map_nil, List.length_cons, List.length_nil, List.getElem?_cons_zero, List.getElem?_cons_succ, List.set_cons_zero, List.set_cons_succ, List.replicate, List.cons_append, List.nil_append, Option.some.injEq, exists_eq_left', Option.bind_some, Nat.sub_self, Nat.reduceAdd, Nat.reduceSub, Nat.reduceLeDiff]
    exact int2 (.inl (.inl ⟨by omega, by omega⟩)) (add_int (hnx _ _ ⟨_, rfl, rfl⟩))
  obtain ⟨c, rfl, rfl⟩ := hP
  refine cut (fun ρ' S' => ∃ c : Int, ρ' = [some (.ref 0), some (.int many), some (.int a), some (.int c), none, none] ∧ S' = some (jar cells (a + 1) r) :: T) (fun N' hrt hnx => ?_) (fun ρ' S' hP => ?_)
  · simp only [ap_runD, ap_sSeq, ap_sIf, ap_sNil, ap_sRet, ap_sAsg, ap_sDrop, ap_sPut, ap_sPar, ap_nm, ap_eVar, ap_eC, ap_eOp, ap_eChain, ap_eB, ap_eUn, ap_eTup, ap_eLst, ap_eLstM, ap_eAnd, ap_eOr, ap_eNot, ap_eIf, ap_bOf, ap_bAnd, ap_bOr, ap_bNot, ap_bYes, ap_aNil, ap_aCons, ap_eCall, ap_eCallKw, ap_eCut, ap_oNone, ap_oSome, ap_eM, ap_sSq, ap_sRange1, ap_sRange2, ap_sEnum, ap_eIsi, ap_eLc, ap_eLcM, ap_sFor, startD, List.map_cons, List.map_nil, List.length_cons, List.length_nil, List.getElem?_cons_zero, List.getElem?_cons_succ, List.set_cons_zero, List.set_cons_succ, List.replicate, List.cons_append, List.nil_append, Option.some.injEq, exists_eq_left', Option.bind_some, Nat.sub_self, Nat.reduceAdd, Nat.reduceSub, Nat.reduceLeDiff]
    refine ix_jar (i := 0) rfl ⟨Nat.zero_le _, ne_nil rfl ⟨_, rfl, ?_⟩⟩
    cases hcs : cells with
    | nil => exact hnx _ _ ⟨_, rfl, by rw [hcs]⟩
    | cons z zs =>
      simp only [List.map_cons, List.isEmpty_cons, Bool.not_false, if_true]
      refine ix_jar (i := 0) rfl ?_
      simp only [ap_runD, ap_sSeq, ap_sIf, ap_sNil, ap_sRet, ap_sAsg, ap_sDrop, ap_sPut, ap_sPar, ap_nm, ap_eVar, ap_eC, ap_eOp, ap_eChain, ap_eB, ap_eUn, ap_eTup, ap_eLst, ap_eLstM, ap_eAnd, ap_eOr, ap_eNot, ap_eIf, ap_bOf, ap_bAnd, ap_bOr, ap_bNot, ap_bYes, ap_aNil, ap_aCons, ap_eCall, ap_eCallKw, ap_eCut, ap_oNone, ap_oSome, ap_eM, ap_sSq, ap_sRange1, ap_sRange2, ap_sEnum, ap_eIsi, ap_eLc, ap_eLcM, ap_sFor, startD, List.map_cons, List.map_nil, List.length_cons, List.length_nil, List.getElem?_cons_zero, List.getElem?_cons_succ, List.set_cons_zero, List.set_cons_succ, List.replicate, List.cons_append, List.nil_append, Option.some.injEq, exists_eq_left', Option.bind_some, Nat.sub_self, Nat.reduceAdd, Nat.reduceSub, Nat.reduceLeDiff, rInt1]
      have hp : (0 : Int) < ((D.int z :: zs.map D.int).length : Int) := by
        simp
      refine ix_jar (i := 0) rfl (len_seq rfl (int2 hp ?_))
      have hlt := Int.emod_lt_of_pos a hp
      have hge := Int.emod_nonneg a (show ((D.int z :: zs.map D.int).length : Int) ≠ 0 by omega)
      have hl : (a % ((D.int z :: zs.map D.int).length : Int)).toNat < (z :: zs).length := by
        simp at hlt hge ⊢
        omega
      refine ix_at (d := .int ((z :: zs)[(a % ((D.int z :: zs.map D.int).length : Int)).toNat])) rfl hge ?_ (hnx _ _ ⟨_, rfl, by rw [hcs]⟩)
      show ((z :: zs).map D.int)[(a % ((D.int z :: zs.map D.int).length : Int)).toNat]? = _
      rw [List.getElem?_map, List.getElem?_eq_getElem hl]
      rfl
  obtain ⟨c, rfl, rfl⟩ := hP
  refine cut (fun ρ' S' => ρ' = [some (.ref 0), some (.int many), some (.int a), some (.int c), none, none] ∧ S' = some (jar cells (a + 1) r) :: T) (fun N' hrt hnx => ?_) (fun ρ' S' hP => ?_)
  · simp only [ap_runD, ap_sSeq, ap_sIf, ap_sNil, ap_sRet, ap_sAsg, ap_sDrop, ap_sPut, ap_sPar, ap_nm, ap_eVar, ap_eC, ap_eOp, ap_eChain, ap_eB, ap_eUn, ap_eTup, ap_eLst, ap_eLstM, ap_eAnd, ap_eOr, ap_eNot, ap_eIf, ap_bOf, ap_bAnd, ap_bOr, ap_bNot, ap_bYes, ap_aNil, ap_aCons, ap_eCall, ap_eCallKw, ap_eCut, ap_oNone, ap_oSome, ap_eM, ap_sSq, ap_sRange1, ap_sRange2, ap_sEnum, ap_eIsi, ap_eLc, ap_eLcM, ap_sFor, startD, List.map_cons, List.map_nil, List.length_cons, List.length_nil, List.getElem?_cons_zero, List.getElem?_cons_succ, List.set_cons_zero, List.set_cons_succ, List.replicate, List.cons_append, List.nil_append, Option.some.injEq, exists_eq_left', Option.bind_some, Nat.sub_self, Nat.reduceAdd, Nat.reduceSub, Nat.reduceLeDiff]
    refine ix_jar (i := 0) rfl (len_seq rfl (int2 trivial ⟨_, rfl, ?_⟩))
    by_cases h1 : a < ((cells.map D.int).length : Int)
    · simp only [h1, decide_true, if_true]
      simp only [ap_runD, ap_sSeq, ap_sIf, ap_sNil, ap_sRet, ap_sAsg, ap_sDrop, ap_sPut, ap_sPar, ap_nm, ap_eVar, ap_eC, ap_eOp, ap_eChain, ap_eB, ap_eUn, ap_eTup, ap_eLst, ap_eLstM, ap_eAnd, ap_eOr, ap_eNot, ap_eIf, ap_bOf, ap_bAnd, ap_bOr, ap_bNot, ap_bYes, ap_aNil, ap_aCons, ap_eCall, ap_eCallKw, ap_eCut, ap_oNone, ap_oSome, ap_eM, ap_sSq, ap_sRange1, ap_sRange2, ap_sEnum, ap_eIsi, ap_eLc, ap_eLcM, ap_sFor, startD, List.map_cons, List.map_nil, List.length_cons, List.length_nil, List.getElem?_cons_zero, List.getElem?_cons_succ, List.set_cons_zero, List.set_cons_succ, List.replicate, List.cons_append, List.nil_append, Option.some.injEq, exists_eq_left', Option.bind_some, Nat.sub_self, Nat.reduceAdd, Nat.reduceSub, Nat.reduceLeDiff, rAbs]
      refine int2 ⟨by decide, by decide, by decide⟩ (int2 trivial ⟨_, rfl, ?_⟩)
      by_cases h2 : (10 : Int) ^ (18 : Int).toNat ≤ (if c < 0 then -c else c)
      · simp only [h2, decide_true, if_true]
        simp only [ap_runD, ap_sSeq, ap_sIf, ap_sNil, ap_sRet, ap_sAsg, ap_sDrop, ap_sPut, ap_sPar, ap_nm, ap_eVar, ap_eC, ap_eOp, ap_eChain, ap_eB, ap_eUn, ap_eTup, ap_eLst, ap_eLstM, ap_eAnd, ap_eOr, ap_eNot, ap_eIf, ap_bOf, ap_bAnd, ap_bOr, ap_bNot, ap_bYes, ap_aNil, ap_aCons, ap_eCall, ap_eCallKw, ap_eCut, ap_oNone, ap_oSome, ap_eM, ap_sSq, ap_sRange1, ap_sRange2, ap_sEnum, ap_eIsi, ap_eLc, ap_eLcM, ap_sFor, startD, List.map_cons, List.map_nil, List.length_cons, List.length_nil, List.getElem?_cons_zero, List.getElem?_cons_succ, List.set_cons_zero, List.set_cons_succ, List.replicate, List.cons_append, List.nil_append, Option.some.injEq, exists_eq_left', Option.bind_some, Nat.sub_self, Nat.reduceAdd, Nat.reduceSub, Nat.reduceLeDiff, rInt1]
        refine int2 ⟨by decide, by decide, by decide⟩ (int2 trivial (int2 (.inl (.inl ⟨by decide, by decide⟩)) (int2 trivial (add_int ?_))))
        generalize hx : 2 * ((if c < 0 then -c else c) - (10 : Int) ^ (18 : Int).toNat) + (if decide (c < 0) = true then 1 else 0) = x
        have hx0 : 0 ≤ x := by
          rw [← hx]
          have : (0 : Int) ≤ (if decide (c < 0) = true then 1 else 0) := by split <;> decide
          omega
        refine int2 ⟨hm0, hlog⟩ ⟨0, 2, _, 2, rfl, rfl, rfl, rfl, int2 hm0 ?_⟩
        rw [hrt]
        exact done (a + 1) (x / many) x (by omega) (by omega) (dv x hx0)
      · simp only [h2, decide_false, Bool.false_eq_true, if_false]
        exact hnx _ _ ⟨rfl, rfl⟩
    · simp only [h1, decide_false, Bool.false_eq_true, if_false]
      exact hnx _ _ ⟨rfl, rfl⟩
  obtain ⟨rfl, rfl⟩ := hP
  have big : ∀ x y : Int, 0 ≤ x → 0 ≤ y → 0 ≤ x * y := fun x y => Int.mul_nonneg
  have ca : 0 ≤ c3 * a ∧ c3 * a < 131072 * 1000001 := ⟨big _ _ c30 ha, Int.lt_of_le_of_lt (Int.mul_le_mul_of_nonneg_right (by omega : c3 ≤ 131071) ha) (by omega)⟩
  have cb : 0 ≤ c1 * a ∧ c1 * a < 131072 * 1000001 := ⟨big _ _ c10 ha, Int.lt_of_le_of_lt (Int.mul_le_mul_of_nonneg_right (by omega : c1 ≤ 131071) ha) (by omega)⟩
  refine cut (fun ρ' S' => ∃ x : Int, 0 ≤ x ∧ x < m2 ∧ ρ' = [some (.ref 0), some (.int many), some (.int a), some (.int c), some (.int x), none] ∧ S' = some (jar cells (a + 1) r) :: T) (fun N' hrt hnx => ?_) (fun ρ' S' hP => ?_)
  · simp only [ap_runD, ap_sSeq, ap_sIf, ap_sNil, ap_sRet, ap_sAsg, ap_sDrop, ap_sPut, ap_sPar, ap_nm, ap_eVar, ap_eC, ap_eOp, ap_eChain, ap_eB, ap_eUn, ap_eTup, ap_eLst, ap_eLstM, ap_eAnd, ap_eOr, ap_eNot, ap_eIf, ap_bOf, ap_bAnd, ap_bOr, ap_bNot, ap_bYes, ap_aNil, ap_aCons, ap_eCall, ap_eCallKw, ap_eCut, ap_oNone, ap_oSome, ap_eM, ap_sSq, ap_sRange1, ap_sRange2, ap_sEnum, ap_eIsi, ap_eLc, ap_eLcM, ap_sFor, startD, List.map_cons, List.map_nil, List.length_cons, List.length_nil, List.getElem?_cons_zero, List.getElem?_cons_succ, List.set_cons_zero, List.set_cons_succ, List.replicate, List.cons_append, List.nil_append, Option.some.injEq, exists_eq_left', Option.bind_some, Nat.sub_self, Nat.reduceAdd, Nat.reduceSub, Nat.reduceLeDiff, rInt1]
    have e1 := Int.emod_nonneg c (show m1 ≠ 0 by omega)
    have e2 := Int.emod_lt_of_pos c m10
    refine int2 m10 (int2 (.inl (.inl ⟨by omega, by omega⟩)) (add_int (add_int (int2 ⟨by decide, by decide, by omega⟩ (int2 m20 ?_)))))
    exact hnx _ _ ⟨_, Int.emod_nonneg _ (by omega), Int.emod_lt_of_pos _ m20, rfl, rfl⟩
  obtain ⟨x, x0, x1, rfl, rfl⟩ := hP
  refine cut (fun ρ' S' => ∃ x : Int, 0 ≤ x ∧ x < m3 ∧ ρ' = [some (.ref 0), some (.int many), some (.int a), some (.int c), some (.int x), none] ∧ S' = some (jar cells (a + 1) r) :: T) (fun N' hrt hnx => ?_) (fun ρ' S' hP => ?_)
  · simp only [ap_runD, ap_sSeq, ap_sIf, ap_sNil, ap_sRet, ap_sAsg, ap_sDrop, ap_sPut, ap_sPar, ap_nm, ap_eVar, ap_eC, ap_eOp, ap_eChain, ap_eB, ap_eUn, ap_eTup, ap_eLst, ap_eLstM, ap_eAnd, ap_eOr, ap_eNot, ap_eIf, ap_bOf, ap_bAnd, ap_bOr, ap_bNot, ap_bYes, ap_aNil, ap_aCons, ap_eCall, ap_eCallKw, ap_eCut, ap_oNone, ap_oSome, ap_eM, ap_sSq, ap_sRange1, ap_sRange2, ap_sEnum, ap_eIsi, ap_eLc, ap_eLcM, ap_sFor, startD, List.map_cons, List.map_nil, List.length_cons, List.length_nil, List.getElem?_cons_zero, List.getElem?_cons_succ, List.set_cons_zero, List.set_cons_succ, List.replicate, List.cons_append, List.nil_append, Option.some.injEq, exists_eq_left', Option.bind_some, Nat.sub_self, Nat.reduceAdd, Nat.reduceSub, Nat.reduceLeDiff, rInt1]
    have f1 : 0 ≤ x * (2 * a + c4) ∧ x * (2 * a + c4) ≤ 2147483648 * 3000000 := ⟨big _ _ x0 (by omega), Int.mul_le_mul (by omega) (by omega) (by omega) (by omega)⟩
    have f2 : 0 ≤ c1 * a * a ∧ c1 * a * a ≤ 131072 * 1000001 * 1000001 := ⟨big _ _ cb.1 ha, Int.mul_le_mul (by omega) (by omega) ha (by omega)⟩
    refine int2 (.inl (.inl ⟨by omega, by omega⟩)) (add_int (int2 (.inl (.inl ⟨by omega, by omega⟩)) (int2 (.inl (.inl ⟨by omega, by omega⟩)) (int2 (.inl (.inl ⟨by omega, by omega⟩)) (add_int (add_int (int2 ⟨by decide, by decide, by omega⟩ (int2 m30 ?_))))))))
    exact hnx _ _ ⟨_, Int.emod_nonneg _ (by omega), Int.emod_lt_of_pos _ m30, rfl, rfl⟩
  obtain ⟨x, x0, x1, rfl, rfl⟩ := hP
  simp only [ap_runD, ap_sSeq, ap_sIf, ap_sNil, ap_sRet, ap_sAsg, ap_sDrop, ap_sPut, ap_sPar, ap_nm, ap_eVar, ap_eC, ap_eOp, ap_eChain, ap_eB, ap_eUn, ap_eTup, ap_eLst, ap_eLstM, ap_eAnd, ap_eOr, ap_eNot, ap_eIf, ap_bOf, ap_bAnd, ap_bOr, ap_bNot, ap_bYes, ap_aNil, ap_aCons, ap_eCall, ap_eCallKw, ap_eCut, ap_oNone, ap_oSome, ap_eM, ap_sSq, ap_sRange1, ap_sRange2, ap_sEnum, ap_eIsi, ap_eLc, ap_eLcM, ap_sFor, startD, List.map_cons, List.map_nil, List.length_cons, List.length_nil, List.getElem?_cons_zero, List.getElem?_cons_succ, List.set_cons_zero, List.set_cons_succ, List.replicate, List.cons_append, List.nil_append, Option.some.injEq, exists_eq_left', Option.bind_some, Nat.sub_self, Nat.reduceAdd, Nat.reduceSub, Nat.reduceLeDiff, rInt1]
  exact int2 ⟨by decide, by decide⟩ (int2 hm0 (done (a + 1) r (x / 64) (by omega) (by omega) hr))

/-! comprehensions that change nothing -/
theorem lc_pure {items : List D} {stays : Store → Prop} {S : Store} {t : Tg} {tt : TB} {te : TD} {vs : List Nat} {ρ : Rho} {R : List D → Store → Prop} (f : D → Option D) (hs : stays S) (hl : items.length ≤ sizeLine)
    (step : ∀ d ∈ items, ∃ ρ2, bindT t d (wipeD ρ vs) = some ρ2 ∧ ∀ (Q : QD) (Q0 : Store → Prop), (∀ y, f d = some y → Q y S) → (f d = none → Q0 S) → tt ρ2 S fun b S2 => if b = true then te ρ2 S2 Q else Q0 S2)
    (k : R (items.filterMap f) S) : Lc1 t tt te vs ρ items stays S R := by
  refine ⟨fun i acc S' => acc = (items.take i).filterMap f ∧ S' = S, ⟨rfl, rfl⟩, fun i acc S' h => h.2 ▸ hs, hl, ?_, fun acc S' h => ?_⟩
  · rintro i d acc S' hd ⟨rfl, rfl⟩
    obtain ⟨ρ2, e, q⟩ := step d (List.mem_of_getElem? hd)
    have et : items.take (i + 1) = items.take i ++ [d] := by
      rw [List.take_add_one, hd]
      rfl
    refine ⟨ρ2, e, q _ _ (fun y h => ⟨?_, rfl⟩) fun h => ⟨?_, rfl⟩⟩
    · rw [et, List.filterMap_append, List.filterMap_cons, h]
      rfl
    · rw [et, List.filterMap_append, List.filterMap_cons, h]
      simp
  · rw [h.1, h.2, List.take_length]
    exact k
/-- every item, made by a function -/
theorem lc_map {items : List D} {stays : Store → Prop} {S : Store} {t : Tg} {te : TD} {vs : List Nat} {ρ : Rho} {R : List D → Store → Prop} (f : D → D) (hs : stays S) (hl : items.length ≤ sizeLine)
    (step : ∀ d ∈ items, ∃ ρ2, bindT t d (wipeD ρ vs) = some ρ2 ∧ ∀ Q : QD, Q (f d) S → te ρ2 S Q) (k : R (items.map f) S) : Lc1 t bYes te vs ρ items stays S R := by
  have e : items.filterMap (fun d => some (f d)) = items.map f := by
    rw [List.filterMap_eq_map']
  refine lc_pure (fun d => some (f d)) hs hl (fun d hd => ?_) (by rw [e]; exact k)
  obtain ⟨ρ2, e, q⟩ := step d hd
  exact ⟨ρ2, e, fun Q Q0 h1 _ => q Q (h1 _ rfl)⟩

/-! the jar made -/
def rUrn : RDs := fun xs S Q => ∃ ns : List Int, xs = [.ro (ns.map .int)] ∧ S = [] ∧ ns.length ≤ 63 ∧ ∀ o, Urn 0 o → Q (.ref 0) [some o]
theorem rUrn_len (xs : List D) (S : Store) (Q : QD) (h : rUrn xs S Q) : xs.length = 1 := by
  obtain ⟨_, rfl, _⟩ := h
  rfl
def urnB : TSd := (sRet (eLstM (aCons (eLc (sSq (eCut (eVar 0) oNone (oSome (eC (.int 63))))) (.nm 1) bYes (eB rInt1 (aCons (eVar 1) aNil)) [1]) (aCons (eC (.int 0)) (aCons (eC (.int 0)) aNil)))))
theorem cut_all {α : Type} (xs : List α) (h : xs.length ≤ 63) : (xs.drop (HT.sIx xs.length 0 none)).take (HT.sIx xs.length xs.length (some 63) - HT.sIx xs.length 0 none) = xs := by
  rw [HT.sIx_none, show (some (63 : Int)) = some ((63 : Nat) : Int) from rfl, HT.sIx_nat, List.drop_zero, Nat.sub_zero, List.take_of_length_le (by omega)]
theorem urn_run (xs : List D) (S : Store) (Q : QD) (h : rUrn xs S Q) : runD 2 urnB xs S Q := by
  obtain ⟨ns, rfl, rfl, hl, q⟩ := h
  have hc : cutD (ns.map D.int) none (some 63) = ns.map D.int := cut_all _ (by simpa using hl)
  unfold urnB
  simp only [ap_runD, ap_sSeq, ap_sIf, ap_sNil, ap_sRet, ap_sAsg, ap_sDrop, ap_sPut, ap_sPar, ap_nm, ap_eVar, ap_eC, ap_eOp, ap_eChain, ap_eB, ap_eUn, ap_eTup, ap_eLst, ap_eLstM, ap_eAnd, ap_eOr, ap_eNot, ap_eIf, ap_bOf, ap_bAnd, ap_bOr, ap_bNot, ap_bYes, ap_aNil, ap_aCons, ap_eCall, ap_eCallKw, ap_eCut, ap_oNone, ap_oSome, ap_eM, ap_sSq, ap_sRange1, ap_sRange2, ap_sEnum, ap_eIsi, ap_eLc, ap_eLcM, ap_sFor, startD, List.map_cons, List.map_nil, List.length_cons, List.length_nil, List.getElem?_cons_zero, List.getElem?_cons_succ, List.set_cons_zero, List.set_cons_succ, List.replicate, List.cons_append, List.nil_append, Option.some.injEq, exists_eq_left', Option.bind_some, Nat.sub_self, Nat.reduceAdd, Nat.reduceSub, Nat.reduceLeDiff]
  refine ⟨63, rfl, ?_⟩
  show ∃ ys, seqOf (D.lst (cutD (ns.map D.int) none (some 63))) = some ys ∧ _
  rw [hc]
  refine ⟨_, rfl, ?_⟩
  have hle : (ns.map D.int).length ≤ sizeLine := by
    rw [List.length_map]
    exact Nat.le_trans hl (by decide)
  refine lc_map id rfl hle (fun d hd => ?_) ?_
  · obtain ⟨n, _, rfl⟩ := List.mem_map.mp hd
    exact ⟨_, rfl, fun Q' h => ⟨_, rfl, h⟩⟩
  · rw [List.map_id]
    exact ⟨by decide, q _ ⟨ns, 0, 0, rfl, by decide, by decide, by decide, hl⟩⟩

/-! facts of data -/
theorem ap_eDisp1 {k : Key} {ta : TD} {ρ : Rho} {S : Store} {Q : QD} : eDisp [(k, ta)] ρ S Q = ta ρ S fun d S1 => Q (.dic [(k, d)]) S1 := rfl
theorem ap_eIsi2 {T1 T2 : String} {ta : TD} {ρ : Rho} {S : Store} {Q : QD} : eIsi2 T1 T2 ta ρ S Q = ta ρ S fun x S1 => ∃ b c, isiD (drf S1 x) T1 = some b ∧ isiD (drf S1 x) T2 = some c ∧ Q (.bl (b || c)) S1 := rfl
theorem eq_nil {x : D} {xs : List D} {S : Store} {Q : QD} (h : drf S x = .lst xs) (q : Q (.bl xs.isEmpty) S) : rEq3 x (.lst []) S Q := by
  cases xs with
  | nil => exact ⟨true, by rw [h]; exact .of (.data (x := .lst []) (y := .lst []) rfl rfl), q⟩
  | cons y ys => exact ⟨false, by rw [h]; exact .of (.len (by simp)), q⟩
theorem eq_int {i j : Int} {S : Store} {Q : QD} (q : Q (.bl (decide (i = j))) S) : rEq3 (.int i) (.int j) S Q := by
  refine ⟨_, .of (.data (x := .int i) (y := .int j) rfl rfl), ?_⟩
  have e : eqd (.int i) (.int j) = decide (i = j) := by
    show (i == j) = _
    rw [Bool.eq_iff_iff]
    simp
  rw [e]
  exact q
theorem ne_str {x y : Str} {S : Store} {Q : QD} (q : Q (.bl (!decide (x = y))) S) : rNe3 (.str x) (.str y) S Q := ⟨_, .txt, q⟩
theorem drf_shw {n : Nat} {d : D} {S : Store} (h : shw n d = true) : drf S d = d := by
  cases d with
  | ref m => cases n <;> simp [shw] at h
  | _ => rfl
theorem ty_shw {n : Nat} {d : D} (h : shw n d = true) : ∃ t, tyD d = some t := by
  cases d with
  | ref m => cases n <;> simp [shw] at h
  | _ => exact ⟨_, rfl⟩
/-- is it an int, a truth, a list, a tuple -/
def isNum : D → Bool
  | .int _ => true
  | _ => false
def isTr : D → Bool
  | .bl _ => true
  | _ => false
def isLst : D → Bool
  | .lst _ => true
  | .ro _ => true
  | _ => false
def isTup : D → Bool
  | .tup _ => true
  | _ => false
theorem kit_int : ∀ t ∈ ["NoneType", "bool", "int", "str", "list", "tuple", "dict"], kitB t "int" = some (t == "int" || t == "bool") := by decide +kernel
theorem kit_bool : ∀ t ∈ ["NoneType", "bool", "int", "str", "list", "tuple", "dict"], kitB t "bool" = some (t == "bool") := by decide +kernel
theorem kit_list : ∀ t ∈ ["NoneType", "bool", "int", "str", "list", "tuple", "dict"], kitB t "list" = some (t == "list") := by decide +kernel
theorem kit_tuple : ∀ t ∈ ["NoneType", "bool", "int", "str", "list", "tuple", "dict"], kitB t "tuple" = some (t == "tuple") := by decide +kernel
theorem isi_int {d : D} {t : String} (h : tyD d = some t) : isiD d "int" = some (isNum d || isTr d) := by
  cases d <;> cases h
  · exact kit_int "NoneType" (by simp)
  · exact kit_int "bool" (by simp)
  · exact kit_int "int" (by simp)
  · exact kit_int "str" (by simp)
  · exact kit_int "list" (by simp)
  · exact kit_int "tuple" (by simp)
  · exact kit_int "list" (by simp)
  · exact kit_int "dict" (by simp)
  · exact kit_int "dict" (by simp)
theorem isi_bool {d : D} {t : String} (h : tyD d = some t) : isiD d "bool" = some (isTr d) := by
  cases d <;> cases h
  · exact kit_bool "NoneType" (by simp)
  · exact kit_bool "bool" (by simp)
  · exact kit_bool "int" (by simp)
  · exact kit_bool "str" (by simp)
  · exact kit_bool "list" (by simp)
  · exact kit_bool "tuple" (by simp)
  · exact kit_bool "list" (by simp)
  · exact kit_bool "dict" (by simp)
  · exact kit_bool "dict" (by simp)
theorem isi_list {d : D} {t : String} (h : tyD d = some t) : isiD d "list" = some (isLst d) := by
  cases d <;> cases h
  · exact kit_list "NoneType" (by simp)
  · exact kit_list "bool" (by simp)
  · exact kit_list "int" (by simp)
  · exact kit_list "str" (by simp)
  · exact kit_list "list" (by simp)
  · exact kit_list "tuple" (by simp)
  · exact kit_list "list" (by simp)
  · exact kit_list "dict" (by simp)
  · exact kit_list "dict" (by simp)
theorem isi_tuple {d : D} {t : String} (h : tyD d = some t) : isiD d "tuple" = some (isTup d) := by
  cases d <;> cases h
  · exact kit_tuple "NoneType" (by simp)
  · exact kit_tuple "bool" (by simp)
  · exact kit_tuple "int" (by simp)
  · exact kit_tuple "str" (by simp)
  · exact kit_tuple "list" (by simp)
  · exact kit_tuple "tuple" (by simp)
  · exact kit_tuple "list" (by simp)
  · exact kit_tuple "dict" (by simp)
  · exact kit_tuple "dict" (by simp)

/-! how long a text is at most -/
def widKey : Key → Nat
  | .inl i => (toString i).length
  | .inr x => (reprText x).length
def widKeys : List Key → Nat
  | [] => 0
  | k :: ks => widKey k + 2 + widKeys ks
mutual
def wid : D → Nat
  | .non => 4
  | .bl _ => 5
  | .int i => (toString i).length
  | .str x => (reprText x).length
  | .lst xs => wids xs + 3
  | .tup xs => wids xs + 3
  | .ro xs => wids xs + 3
  | .dic kvs => widk kvs + 3
  | .dit kvs => widt kvs + 3
  | .ref _ => 4
def wids : List D → Nat
  | [] => 0
  | d :: ds => wid d + 2 + wids ds
def widk : List (Key × D) → Nat
  | [] => 0
  | (k, d) :: ds => widKey k + wid d + 4 + widk ds
def widt : List (List Key × D) → Nat
  | [] => 0
  | (k, d) :: ds => widKeys k + 3 + wid d + 4 + widt ds
end
theorem keyP_wid (k : Key) : (keyP k).shown.length ≤ widKey k := by
  cases k with
  | inl i =>
    exact Nat.le_of_eq (PySem.ofString_length (toString i))
  | inr x => exact Nat.le_refl _
theorem keyPs_wid : ∀ ks : List Key, ((PyData.shownAll (ks.map keyP)).map (·.length)).sum + 2 * ks.length ≤ widKeys ks
  | [] => Nat.le_refl _
  | k :: ks => by
    have h1 := keyP_wid k
    have h2 := keyPs_wid ks
    simp only [List.map_cons, PyData.shownAll, List.sum_cons, List.length_cons, widKeys]
    omega
theorem shownAll_len : ∀ xs : List PyData, (PyData.shownAll xs).length = xs.length
  | [] => rfl
  | x :: xs => by simp only [PyData.shownAll, List.length_cons, shownAll_len xs]
theorem pds_len (xs : List D) : (pds xs).length = xs.length := by rw [pds_map, List.length_map]
theorem pdk_len : ∀ xs : List (Key × D), (pdk xs).length = xs.length
  | [] => rfl
  | (k, d) :: xs => by simp only [pdk, List.length_cons, pdk_len xs]
theorem pdt_len : ∀ xs : List (List Key × D), (pdt xs).length = xs.length
  | [] => rfl
  | (k, d) :: xs => by simp only [pdt, List.length_cons, pdt_len xs]
mutual
theorem shn_wid : ∀ d : D, (pd d).shown.length ≤ wid d
  | .non => Nat.le_refl 4
  | .bl b => by cases b <;> decide
  | .int i => by
    simp only [wid]
    exact Nat.le_of_eq (PySem.ofString_length (toString i))
  | .str x => Nat.le_refl _
  | .ref n => Nat.le_refl 4
  | .lst xs => by
    have h1 := shns_wid xs
    have h2 := listText_len_le (PyData.shownAll (pds xs))
    rw [shownAll_len, pds_len] at h2
    simp only [pd, PyData.shown, wid]
    omega
  | .ro xs => by
    have h1 := shns_wid xs
    have h2 := listText_len_le (PyData.shownAll (pds xs))
    rw [shownAll_len, pds_len] at h2
    simp only [pd, PyData.shown, wid]
    omega
  | .tup xs => by
    have h1 := shns_wid xs
    have h2 := tupleText_len_le (PyData.shownAll (pds xs))
    rw [shownAll_len, pds_len] at h2
    simp only [pd, PyData.shown, wid]
    omega
  | .dic xs => by
    have h1 := shnk_wid xs
    have h2 := dictText_len_le (PyData.shownKv (pdk xs))
    rw [PyData.shownKv_length, pdk_len] at h2
    simp only [pd, PyData.shown, wid]
    omega
  | .dit xs => by
    have h1 := shnt_wid xs
    have h2 := dictText_len_le (PyData.shownKv (pdt xs))
    rw [PyData.shownKv_length, pdt_len] at h2
    simp only [pd, PyData.shown, wid]
    omega
theorem shns_wid : ∀ xs : List D, ((PyData.shownAll (pds xs)).map (·.length)).sum + 2 * xs.length ≤ wids xs
  | [] => Nat.le_refl _
  | d :: ds => by
    have h1 := shn_wid d
    have h2 := shns_wid ds
    simp only [pds, PyData.shownAll, List.map_cons, List.sum_cons, List.length_cons, wids]
    omega
theorem shnk_wid : ∀ xs : List (Key × D), ((PyData.shownKv (pdk xs)).map (·.length)).sum + 2 * xs.length ≤ widk xs
  | [] => Nat.le_refl _
  | (k, d) :: ds => by
    have h1 := shn_wid d
    have h2 := shnk_wid ds
    have h3 := keyP_wid k
    have e2 : ((keyP k).shown ++ ": " ++ (pd d).shown).length = (keyP k).shown.length + 2 + (pd d).shown.length := by
      rw [strLen_append, strLen_append]
      rfl
    simp only [pdk, PyData.shownKv, List.map_cons, List.sum_cons, List.length_cons, widk]
    omega
theorem shnt_wid : ∀ xs : List (List Key × D), ((PyData.shownKv (pdt xs)).map (·.length)).sum + 2 * xs.length ≤ widt xs
  | [] => Nat.le_refl _
  | (k, d) :: ds => by
    have h1 := shn_wid d
    have h2 := shnt_wid ds
    have h3 := keyPs_wid k
    have h4 := tupleText_len_le (PyData.shownAll (k.map keyP))
    rw [shownAll_len, List.length_map] at h4
    have e2 : ((PyData.tuple (k.map keyP)).shown ++ ": " ++ (pd d).shown).length = (PyData.tuple (k.map keyP)).shown.length + 2 + (pd d).shown.length := by
      rw [strLen_append, strLen_append]
      rfl
    have e3 : (PyData.tuple (k.map keyP)).shown.length ≤ widKeys k + 3 := by
      simp only [PyData.shown]
      omega
    simp only [pdt, PyData.shownKv, List.map_cons, List.sum_cons, List.length_cons, widt]
    omega
end
theorem wids_le {w : Nat} : ∀ {ds : List D}, (∀ d ∈ ds, wid d ≤ w) → wids ds ≤ ds.length * (w + 2)
  | [], _ => Nat.zero_le _
  | d :: ds, h => by
    have h1 := h d (List.mem_cons_self ..)
    have h2 := wids_le fun x hx => h x (List.mem_cons_of_mem _ hx)
    simp only [wids, List.length_cons, Nat.add_mul, Nat.one_mul]
    omega
theorem wid_int {i : Int} {k : Nat} (hk : 0 < k) (h : i.natAbs < 10 ^ k) : wid (.int i) ≤ k + 1 := int_text_length_le10 hk h
/-- repr of a datum -/
theorem repr_of {x y : D} {S : Store} {Q : QD} {w : Nat} (e : drf S x = y) (h : shw 60 y = true) (hw : wid y ≤ w) (hl : w ≤ sizeLine) (q : Q (.str (shn y)) S) : rRepr [x] S Q := by
  subst e
  exact ⟨h, Nat.le_trans (shn_wid _) (Nat.le_trans hw hl), q⟩
theorem repr_bl {b : Bool} {S : Store} {Q : QD} (q : Q (.str (shn (.bl b))) S) : rRepr [.bl b] S Q := repr_of (y := .bl b) (w := 5) rfl rfl (Nat.le_refl _) (by decide) q
mutual
theorem shw_up : ∀ {n m : Nat} {d : D}, n ≤ m → shw n d = true → shw m d = true
  | n, m, .non, _, h => by cases m <;> rfl
  | n, m, .bl b, _, h => by cases m <;> rfl
  | n, m, .int i, _, h => by cases n <;> cases m <;> simpa [shw] using h
  | n, m, .str x, _, h => by cases m <;> rfl
  | 0, m, .lst xs, _, h => by simp [shw] at h
  | 0, m, .tup xs, _, h => by simp [shw] at h
  | 0, m, .dic xs, _, h => by simp [shw] at h
  | 0, m, .dit xs, _, h => by simp [shw] at h
  | 1, m, .dit xs, _, h => by simp [shw] at h
  | n + 1, m + 1, .lst xs, l, h => by
    simp only [shw] at h ⊢
    exact shws_up (Nat.le_of_succ_le_succ l) h
  | n + 1, m + 1, .tup xs, l, h => by
    simp only [shw] at h ⊢
    exact shws_up (Nat.le_of_succ_le_succ l) h
  | n + 1, m + 1, .dic xs, l, h => by
    simp only [shw] at h ⊢
    exact shwk_up (Nat.le_of_succ_le_succ l) h
  | n + 2, m + 2, .dit xs, l, h => by
    simp only [shw] at h ⊢
    exact shwt_up (by omega) h
  | n, m, .ro xs, _, h => by cases n <;> simp [shw] at h
  | n, m, .ref xs, _, h => by cases n <;> simp [shw] at h
  | n + 1, 0, _, l, h => by omega
  | n + 2, 1, _, l, h => by omega
theorem shws_up : ∀ {n m : Nat} {ds : List D}, n ≤ m → shws n ds = true → shws m ds = true
  | n, m, [], _, h => by simp [shws]
  | n, m, d :: ds, l, h => by
    simp only [shws, Bool.and_eq_true] at h ⊢
    exact ⟨shw_up l h.1, shws_up l h.2⟩
theorem shwk_up : ∀ {n m : Nat} {ds : List (Key × D)}, n ≤ m → shwk n ds = true → shwk m ds = true
  | n, m, [], _, h => by simp [shwk]
  | n, m, (k, d) :: ds, l, h => by
    simp only [shwk, Bool.and_eq_true] at h ⊢
    exact ⟨⟨h.1.1, shw_up l h.1.2⟩, shwk_up l h.2⟩
theorem shwt_up : ∀ {n m : Nat} {ds : List (List Key × D)}, n ≤ m → shwt n ds = true → shwt m ds = true
  | n, m, [], _, h => by simp [shwt]
  | n, m, (k, d) :: ds, l, h => by
    simp only [shwt, Bool.and_eq_true] at h ⊢
    exact ⟨⟨h.1.1, shw_up l h.1.2⟩, shwt_up l h.2⟩
end
theorem shws_all {n : Nat} : ∀ {ds : List D}, shws n ds = true ↔ ∀ d ∈ ds, shw n d = true
  | [] => by simp [shws]
  | d :: ds => by simp [shws, shws_all (n := n) (ds := ds)]
theorem shw_int' {n : Nat} {i : Int} {k : Nat} (h : i.natAbs < 10 ^ k) (hk : k ≤ 570) : shw n (.int i) = true := by
  have h1 : i.natAbs < 2 ^ 1920 := Nat.lt_of_lt_of_le h (Nat.le_trans (Nat.pow_le_pow_right (by decide) hk) (by decide +kernel))
  have h2 : i.natAbs.log2 < 1920 := by
    by_cases h0 : i.natAbs = 0
    · rw [h0]
      decide
    · exact (Nat.log2_lt h0).mpr h1
  cases n <;> simpa [shw] using h2
end NC

set_option Elab.async false
set_option linter.all false
set_option maxRecDepth 100000
set_option maxHeartbeats 1000000
/-! NC13: steps at the head of a reading. -/
namespace NC
open PySem PySem.Spec PyProof.Rows L2
section
variable {ρ : Rho} {S : Store} {Q : QD} {N : DN} {ta tb tc : TD} {tt tu : TB} {tl tk : TLs} {su sv : TSd} {r r' : RD2} {r1 : RD1} {rs : RDs} {rm : RDm} {QB : Bool → Store → Prop} {QL : List D → Store → Prop} {i j n m : Nat} {d x : D} {t : Tg} {T T1 T2 : String} {pm : List Nat} {ts : TSr} {te : TD} {vs : List Nat} {lo hi : TOd} {xs ys : List D} {QO : Option Int → Store → Prop} {QI : List D → (Store → Prop) → Store → Prop} {b : Bool} {a : Int}
theorem i_runD (h : su { nx := fun _ S' => Q .non S', rt := Q } (startD n xs) S) : runD n su xs S Q := h
theorem i_sSeq (h : su { N with nx := sv N } ρ S) : sSeq su sv N ρ S := h
theorem i_sIf (h : tt ρ S fun c S1 => if c = true then su N ρ S1 else sv N ρ S1) : sIf tt su sv N ρ S := h
theorem i_sNil (h : N.nx ρ S) : sNil N ρ S := h
theorem i_sRet (h : ta ρ S N.rt) : sRet ta N ρ S := h
theorem i_sAsg (h : ta ρ S fun d S1 => ∃ ρ', bindT t d ρ = some ρ' ∧ N.nx ρ' S1) : sAsg t ta N ρ S := h
theorem i_sDrop (h : ta ρ S fun _ S1 => N.nx ρ S1) : sDrop ta N ρ S := h
theorem i_sPut (h : ta ρ S fun d S1 => tb ρ S1 fun o S2 => tc ρ S2 fun k S3 => ∃ n i ds j, o = .ref n ∧ k = .int i ∧ S3[n]? = some (some (.lst ds)) ∧ ixN ds.length i = some j ∧ N.nx ρ (S3.set n (some (.lst (ds.set j d))))) : sPut tb tc ta N ρ S := h
theorem i_sPar (h : tl ρ S fun ds S1 => ∃ d e, ds = [d, e] ∧ N.nx ((ρ.set i (some d)).set j (some e)) S1) : sPar i j tl N ρ S := h
theorem i_eVar (h : ρ[i]? = some (some d)) (q : Q d S) : eVar i ρ S Q := ⟨d, h, q⟩
theorem i_eVarX (h : ∃ d, ρ[i]? = some (some d) ∧ Q d S) : eVar i ρ S Q := h
theorem i_eC (h : Q d S) : eC d ρ S Q := h
theorem i_eOp (h : ta ρ S fun x S1 => tb ρ S1 fun y S2 => r x y S2 Q) : eOp r ta tb ρ S Q := h
theorem i_eChain (h : ta ρ S fun x S1 => tb ρ S1 fun y S2 => r x y S2 fun z S3 => ∃ k, z = .bl k ∧ if k = true then tc ρ S3 fun w S4 => r' y w S4 Q else Q (.bl false) S3) : eChain r r' ta tb tc ρ S Q := h
theorem i_eB (h : tl ρ S fun xs S1 => rs xs S1 Q) : eB rs tl ρ S Q := h
theorem i_eUn (h : ta ρ S fun x S1 => r1 x S1 Q) : eUn r1 ta ρ S Q := h
theorem i_eTup (h : tl ρ S fun xs S1 => xs.length ≤ sizeLine ∧ Q (.tup xs) S1) : eTup tl ρ S Q := h
theorem i_eLst (h : tl ρ S fun xs S1 => xs.length ≤ sizeLine ∧ Q (.lst xs) S1) : eLst tl ρ S Q := h
theorem i_eLstM (h : tl ρ S fun xs S1 => xs.length ≤ sizeLine ∧ Q (.ref S1.length) (S1 ++ [some (.lst xs)])) : eLstM tl ρ S Q := h
theorem i_eAnd (h : ta ρ S fun x S1 => ∃ c, x = .bl c ∧ if c = true then tb ρ S1 Q else Q (.bl false) S1) : eAnd ta tb ρ S Q := h
theorem i_eOr (h : ta ρ S fun x S1 => ∃ c, x = .bl c ∧ if c = true then Q (.bl true) S1 else tb ρ S1 Q) : eOr ta tb ρ S Q := h
theorem i_eNot (h : ta ρ S fun x S1 => ∃ c, x = .bl c ∧ Q (.bl (!c)) S1) : eNot ta ρ S Q := h
theorem i_eIf (h : tt ρ S fun c S1 => if c = true then ta ρ S1 Q else tb ρ S1 Q) : eIf tt ta tb ρ S Q := h
theorem i_bOf (h : ta ρ S fun x S1 => ∃ c, x = .bl c ∧ QB c S1) : bOf ta ρ S QB := h
theorem i_bAnd (h : tt ρ S fun c S1 => if c = true then tu ρ S1 QB else QB false S1) : bAnd tt tu ρ S QB := h
theorem i_bOr (h : tt ρ S fun c S1 => if c = true then QB true S1 else tu ρ S1 QB) : bOr tt tu ρ S QB := h
theorem i_bNot (h : tt ρ S fun c S1 => QB (!c) S1) : bNot tt ρ S QB := h
theorem i_bYes (h : QB true S) : bYes ρ S QB := h
theorem i_aNil (h : QL [] S) : aNil ρ S QL := h
theorem i_aCons (h : ta ρ S fun x S1 => tl ρ S1 fun xs S2 => QL (x :: xs) S2) : aCons ta tl ρ S QL := h
theorem i_eCall (h : tl ρ S fun xs S1 => rs xs S1 Q) : eCall rs tl ρ S Q := h
theorem i_eCallKw (h : tl ρ S fun xs S1 => tk ρ S1 fun ys S2 => xs.length = n ∧ ys.length = m ∧ rs (pick pm (xs ++ ys) .non) S2 Q) : eCallKw rs n m pm tl tk ρ S Q := h
theorem i_eCut (h : ta ρ S fun x S1 => lo ρ S1 fun l S2 => hi ρ S2 fun u S3 => rCut x l u S3 Q) : eCut ta lo hi ρ S Q := h
theorem i_oNone (h : QO none S) : oNone ρ S QO := h
theorem i_oSome (h : ta ρ S fun x S1 => ∃ i, x = .int i ∧ QO (some i) S1) : oSome ta ρ S QO := h
theorem i_eM (h : ta ρ S fun x S1 => tyM T (drf S1 x) ∧ tl ρ S1 fun xs S2 => rm x xs S2 Q) : eM T rm ta tl ρ S Q := h
theorem i_sSq (h : ta ρ S fun x S1 => ∃ xs, seqOf (drf S1 x) = some xs ∧ QI xs (fun S' => drf S' x = drf S1 x) S1) : sSq ta ρ S QI := h
theorem i_sRange1 (h : tl ρ S fun xs S1 => ∃ n : Int, xs = [.int n] ∧ -(2 ^ 62) ≤ n ∧ n < 2 ^ 62 ∧ QI (rangeD 0 n) (fun _ => True) S1) : sRange1 tl ρ S QI := h
theorem i_sRange2 (h : tl ρ S fun xs S1 => ∃ m n : Int, xs = [.int m, .int n] ∧ (-(2 ^ 62) ≤ m ∧ m < 2 ^ 62 ∧ -(2 ^ 62) ≤ n ∧ n < 2 ^ 62) ∧ QI (rangeD m n) (fun _ => True) S1) : sRange2 tl ρ S QI := h
theorem i_sEnum (h : aCons ta aNil ρ S fun ds S1 => ∃ d xs, ds = [d] ∧ drf S1 d = .lst xs ∧ QI (enumD xs) (fun S' => drf S' d = drf S1 d) S1) : sEnum ta ρ S QI := h
theorem i_eIsi (h : ta ρ S fun x S1 => ∃ b, isiD (drf S1 x) T = some b ∧ Q (.bl b) S1) : eIsi T ta ρ S Q := h
theorem i_eIsi2 (h : ta ρ S fun x S1 => ∃ b c, isiD (drf S1 x) T1 = some b ∧ isiD (drf S1 x) T2 = some c ∧ Q (.bl (b || c)) S1) : eIsi2 T1 T2 ta ρ S Q := h
theorem i_eLc (h : ts ρ S fun items stays S1 => Lc1 t tt te vs ρ items stays S1 fun acc S' => Q (.lst acc) S') : eLc ts t tt te vs ρ S Q := h
theorem i_eLcM (h : ts ρ S fun items stays S1 => Lc1 t tt te vs ρ items stays S1 fun acc S' => Q (.ref S'.length) (S' ++ [some (.lst acc)])) : eLcM ts t tt te vs ρ S Q := h
theorem i_sFor (h : ts ρ S fun items stays S1 => For1 t su N ρ items stays S1) : sFor ts t su N ρ S := h
theorem i_eDisp1 {k : Key} (h : ta ρ S fun d S1 => Q (.dic [(k, d)]) S1) : eDisp [(k, ta)] ρ S Q := h
/-! what stands between -/
theorem i_bl {P : Bool → Prop} (h : P b) : ∃ c, D.bl b = .bl c ∧ P c := ⟨b, rfl, h⟩
theorem i_int {P : Int → Prop} (h : P a) : ∃ c, D.int a = .int c ∧ P c := ⟨a, rfl, h⟩
theorem i_nm {P : Rho → Prop} (h : P (ρ.set i (some d))) : ∃ ρ', bindT (.nm i) d ρ = some ρ' ∧ P ρ' := ⟨_, by unfold bindT; rfl, h⟩
theorem i_one {P : D → Prop} (h : P d) : ∃ x, [d] = [x] ∧ P x := ⟨d, rfl, h⟩
theorem i_two {P : D → D → Prop} (h : P d x) : ∃ y z, [d, x] = [y, z] ∧ P y z := ⟨d, x, rfl, h⟩
theorem i_rng {P : Int → Prop} (h : P a) : ∃ n : Int, [D.int a] = [.int n] ∧ P n := ⟨a, rfl, h⟩
theorem i_len0 {P : Prop} (h : P) : ([] : List D).length ≤ sizeLine ∧ P := ⟨Nat.zero_le _, h⟩
theorem i_len1 {P : Prop} {l : List D} (hl : (d :: l).length ≤ 100) (h : P) : (d :: l).length ≤ sizeLine ∧ P := ⟨Nat.le_trans hl (by decide), h⟩
theorem i_int1 (h : Q (.int a) S) : rInt1 [.int a] S Q := h
theorem i_intb (h : Q (.int (if b then 1 else 0)) S) : rInt1 [.bl b] S Q := h
theorem i_abs (h : Q (.int (if a < 0 then -a else a)) S) : rAbs [.int a] S Q := h
theorem i_add {c : Int} (h : Q (.int (a + c)) S) : rAdd (.int a) (.int c) S Q := h
theorem i_sub {c : Int} (h : Q (.int (a - c)) S) : rSub (.int a) (.int c) S Q := int2 trivial h
theorem i_lt {c : Int} (h : Q (.bl (decide (a < c))) S) : rLt (.int a) (.int c) S Q := int2 trivial h
theorem i_le {c : Int} (h : Q (.bl (decide (a ≤ c))) S) : rLe (.int a) (.int c) S Q := int2 trivial h
theorem i_gt {c : Int} (h : Q (.bl (decide (c < a))) S) : rGt (.int a) (.int c) S Q := int2 trivial h
theorem i_ge {c : Int} (h : Q (.bl (decide (c ≤ a))) S) : rGe (.int a) (.int c) S Q := int2 trivial h
theorem i_eqi {c : Int} (h : Q (.bl (decide (a = c))) S) : rEq3 (.int a) (.int c) S Q := eq_int h
theorem i_is (h : Q (.bl (isN x)) S) : rIs x .non S Q := ⟨rfl, h⟩
theorem i_isn (h : Q (.bl (!isN x)) S) : rIsn x .non S Q := ⟨rfl, h⟩
theorem i_nes {x y : Str} (h : Q (.bl (!decide (x = y))) S) : rNe3 (.str x) (.str y) S Q := ne_str h
theorem i_rbl (h : Q (.str (shn (.bl b))) S) : rRepr [.bl b] S Q := repr_bl h
theorem i_kw0 {P : Prop} (h : P) : ([] : List D).length = 0 ∧ P := ⟨rfl, h⟩
end
theorem rangeD_len (lo hi : Int) : (rangeD lo hi).length = (hi - lo).toNat := by
  unfold rangeD
  rw [List.length_map, List.length_range]
theorem iteT {A B : Prop} (h : A) : if true = true then A else B := by rw [if_pos rfl]; exact h
theorem iteF {A B : Prop} (h : B) : if false = true then A else B := by rw [if_neg (by decide)]; exact h
theorem ite_by {c : Bool} {A B : Prop} (h1 : c = true → A) (h2 : c = false → B) : if c = true then A else B := by
  cases c with
  | true => exact iteT (h1 rfl)
  | false => exact iteF (h2 rfl)
/-- a list of things drawn -/
theorem lc_draw {items : List D} {stays : Store → Prop} {t : Tg} {te : TD} {vs : List Nat} {ρ : Rho} {T : Store} {R : List D → Store → Prop} {k : Nat} {o : SO} (c : Nat) (P : D → Prop) (hst : ∀ S', stays S') (hl : items.length ≤ 1000) (u : Urn k o)
    (step : ∀ d ∈ items, ∃ ρ2, bindT t d (wipeD ρ vs) = some ρ2 ∧ ∀ (j : Nat) (o : SO), Urn j o → j + c ≤ k + c * items.length → ∀ Q : QD, (∀ o' y, Urn (j + c) o' → P y → Q y (some o' :: T)) → te ρ2 (some o :: T) Q)
    (fin : ∀ o' acc, Urn (k + c * items.length) o' → acc.length = items.length → (∀ y ∈ acc, P y) → R acc (some o' :: T)) : Lc1 t bYes te vs ρ items stays (some o :: T) R := by
  refine ⟨fun i acc S' => ∃ o', Urn (k + c * i) o' ∧ S' = some o' :: T ∧ acc.length = i ∧ ∀ y ∈ acc, P y, ⟨o, u, rfl, rfl, fun y h => (nomatch h)⟩, fun _ _ S' _ => hst S', Nat.le_trans hl (by decide), ?_, ?_⟩
  · rintro i d acc S' hd ⟨o', u', rfl, hlen, hP⟩
    obtain ⟨ρ2, e, q⟩ := step d (List.mem_of_getElem? hd)
    have hi : i < items.length := (List.getElem?_eq_some_iff.mp hd).1
    have hm : c * i + c ≤ c * items.length := by
      have := Nat.mul_le_mul_left c (show i + 1 ≤ items.length from hi)
      rwa [Nat.mul_add, Nat.mul_one] at this
    refine ⟨ρ2, e, i_bYes ?_⟩
    refine iteT (q (k + c * i) o' u' (by omega) _ fun o2 y u2 py => ⟨o2, ?_, rfl, by simp [hlen], fun z hz => ?_⟩)
    · have e2 : k + c * (i + 1) = k + c * i + c := by rw [Nat.mul_add, Nat.mul_one]; omega
      rw [e2]
      exact u2
    · rcases List.mem_append.mp hz with h | h
      · exact hP z h
      · rw [List.mem_singleton.mp h]
        exact py
  · rintro acc S' ⟨o', u', rfl, hlen, hP⟩
    exact fin o' acc u' hlen hP
theorem drf_ty {d : D} {t : String} {S : Store} (h : tyD d = some t) : drf S d = d := by
  cases d with
  | ref m => cases h
  | _ => rfl
theorem seq_lt {d : D} : (isLst d || isTup d) = true → ∃ ys, seqOf d = some ys := by
  cases d with
  | lst xs => exact fun _ => ⟨xs, rfl⟩
  | tup xs => exact fun _ => ⟨xs, rfl⟩
  | ro xs => exact fun _ => ⟨xs, rfl⟩
  | _ => exact fun h => nomatch h
theorem seq_no {d : D} : (isLst d || isTup d) = false → seqOf d = none := by
  cases d with
  | lst xs => exact fun h => nomatch h
  | tup xs => exact fun h => nomatch h
  | ro xs => exact fun h => nomatch h
  | _ => exact fun _ => rfl
/-! unlike things -/
theorem len_sub {α : Type} [DecidableEq α] : ∀ {l m : List α}, l.Nodup → (∀ x ∈ l, x ∈ m) → l.length ≤ m.length
  | [], _, _, _ => Nat.zero_le _
  | x :: l, m, hn, hs => by
    have hx := hs x (List.mem_cons_self ..)
    have hn' := List.nodup_cons.mp hn
    have h := len_sub (l := l) (m := m.erase x) hn'.2 fun y hy => by
      have hne : y ≠ x := fun e => hn'.1 (e ▸ hy)
      exact (List.mem_erase_of_ne hne).mpr (hs y (List.mem_cons_of_mem _ hy))
    rw [List.length_erase_of_mem hx] at h
    have : 0 < m.length := List.length_pos_of_mem hx
    rw [List.length_cons]
    omega
theorem dup_short {α : Type} [DecidableEq α] : ∀ {m : List α}, ¬ m.Nodup → ∃ m' : List α, m'.length < m.length ∧ ∀ x ∈ m, x ∈ m'
  | [], h => (h List.nodup_nil).elim
  | x :: t, h => by
    by_cases hx : x ∈ t
    · exact ⟨t, by simp, fun y hy => (List.mem_cons.mp hy).elim (fun e => e ▸ hx) id⟩
    · have ht : ¬ t.Nodup := fun q => h (List.nodup_cons.mpr ⟨hx, q⟩)
      obtain ⟨m', h1, h2⟩ := dup_short ht
      refine ⟨x :: m', by simpa using h1, fun y hy => ?_⟩
      rcases List.mem_cons.mp hy with e | e
      · rw [e]
        exact List.mem_cons_self ..
      · exact List.mem_cons_of_mem _ (h2 y e)
theorem nodup_len {α : Type} [DecidableEq α] {l m : List α} (hl : l.Nodup) (h : ∀ x, x ∈ l ↔ x ∈ m) : l.length = m.length ↔ m.Nodup := by
  constructor
  · intro e
    refine Classical.byContradiction fun hm => ?_
    obtain ⟨m', h1, h2⟩ := dup_short hm
    have := len_sub hl fun x hx => h2 x ((h x).mp hx)
    omega
  · intro hm
    exact Nat.le_antisymm (len_sub hl fun x hx => (h x).mp hx) (len_sub hm fun x hx => (h x).mpr hx)
/-! lists of ints as data -/
theorem eqv_ints : ∀ p q : List Int, PyData.eqvAll (pds (p.map .int)) (pds (q.map .int)) = decide (p = q)
  | [], [] => rfl
  | [], _ :: _ => rfl
  | _ :: _, [] => rfl
  | a :: p, b :: q => by
    have h := eqv_ints p q
    show ((a == b) && PyData.eqvAll (pds (p.map .int)) (pds (q.map .int))) = _
    rw [h, Bool.eq_iff_iff]
    simp
theorem fl_ints {n : Nat} : ∀ p : List Int, fls n (p.map .int) = true
  | [] => by simp [fls]
  | a :: p => by
    have h := fl_ints (n := n) p
    cases n <;> simpa [fls, fl] using h
theorem eqd_lsts (p q : List Int) : eqd (.lst (p.map .int)) (.lst (q.map .int)) = decide (p = q) := by
  have := eqv_ints p q
  exact this
theorem eqd_tups (p q : List Int) : eqd (.tup (p.map .int)) (.tup (q.map .int)) = decide (p = q) := by
  have := eqv_ints p q
  exact this
theorem nodup_take {α : Type} {l : List α} : l.Nodup ↔ ∀ (i : Nat) (x : α), l[i]? = some x → x ∉ l.take i := by
  rw [List.Nodup, List.pairwise_iff_getElem]
  constructor
  · intro h i x hi hm
    obtain ⟨h1, e1⟩ := List.getElem?_eq_some_iff.mp hi
    obtain ⟨j, hj, e2⟩ := List.mem_take_iff_getElem.mp hm
    exact h j i (by omega) h1 (by omega) (e2.trans e1.symm)
  · intro h i j hi hj hij e
    exact h j _ (List.getElem?_eq_getElem hj) (List.mem_take_iff_getElem.mpr ⟨i, by omega, e⟩)
theorem cut_to {l : List D} {i : Nat} : cutD l none (some (i : Int)) = l.take i := by
  unfold cutD
  rw [HT.sIx_none, HT.sIx_nat, List.drop_zero, Nat.sub_zero]
  by_cases h : i ≤ l.length
  · rw [Nat.min_eq_left h]
  · rw [Nat.min_eq_right (by omega), List.take_length, List.take_of_length_le (by omega)]
theorem cut_lst {x : D} {xs : List D} {lo hi : Option Int} {S : Store} {Q : QD} (h : drf S x = .lst xs) (q : Q (.lst (cutD xs lo hi)) S) : rCut x lo hi S Q := by
  unfold rCut
  rw [h]
  exact q
theorem cut_tup {x : D} {xs : List D} {lo hi : Option Int} {S : Store} {Q : QD} (h : drf S x = .tup xs) (q : Q (.tup (cutD xs lo hi)) S) : rCut x lo hi S Q := by
  unfold rCut
  rw [h]
  exact q
theorem drf_ref {S : Store} {n : Nat} {ds : List D} (h : S[n]? = some (some (.lst ds))) : drf S (.ref n) = .lst ds := by
  simp only [drf, h]
end NC

set_option Elab.async false
set_option linter.all false
set_option maxRecDepth 100000
set_option maxHeartbeats 1000000
/-! NC14: exceptions over data. -/
namespace NC
open PySem PySem.Spec PyProof.Rows L2
open Evl (Ex)

/-- an exception: its class, its fields -/
abbrev Exn := Addr × List (Str × D)
abbrev XD := Exn → Store → Prop
abbrev RDx := List D → Store → QD → XD → Prop
abbrev NoX : XD := fun _ _ => False
theorem Since.join {w : W0} {Y Y' : List Addr} {β β' : List Addr} {S S' : Store} {H H' : Hp} (a : Since w Y β S H) (b : Since ⟨Y, β, S, H⟩ Y' β' S' H') : Since w Y' β' S' H' :=
  ⟨a.pre.trans b.pre, a.ex.trans b.ex, fun c hc => ⟨(b.ext c (a.ext c hc).1).1, (a.ext c hc).2.trans (b.ext c (a.ext c hc).1).2⟩, fun c h => b.trk c (a.trk c h)⟩
/-- what is wished of an exception that leaves, since w0 -/
def WD (K : PySem.W.Frag) (T : List (Addr × Str)) (w0 : W0) (ED : XD) : XK := fun cls d H' => ∃ (C dd : Addr) (fs : List (Str × V)) (es : List (Str × D)) (Y β : List Addr) (S : Store),
  cls = .ref C ∧ d = some dd ∧ Ok K ⟨[w0], T⟩ Y β S H' ∧ hid Y β S H' dd = some (.xd fs) ∧ RepF K (hid Y β S H') β fs es ∧ ED (C, es) S
theorem WD.up {K : PySem.W.Frag} {T : List (Addr × Str)} {w0 : W0} {ED : XD} {Y β : List Addr} {S : Store} {H H' : Hp} {cls : Value} {d : Option Addr} (h : WD K T ⟨Y, β, S, H⟩ ED cls d H') (s : Since w0 Y β S H) : WD K T w0 ED cls d H' := by
  obtain ⟨C, dd, fs, es, Y', β', S', e1, e2, o, hd, hf, q⟩ := h
  exact ⟨C, dd, fs, es, Y', β', S', e1, e2, ⟨o.len, o.nd, o.out, o.trk, o.xtrk, o.obj, fun w hw => by rw [List.mem_singleton.mp hw]; exact s.join (o.gh _ (List.mem_singleton.mpr rfl)), o.tb⟩, hd, hf, q⟩
def lspx (K : PySem.W.Frag) (T : List (Addr × Str)) (r : RDx) : Sp := fun vs H Q E => ∃ Y β S xs Q' E', Ok K ⟨[], T⟩ Y β S H ∧ Reps K (hid Y β S H) β vs xs ∧ r xs S Q' E' ∧ out K ⟨[], T⟩ Y β S H Q' Q ∧ ∀ cls d H', WD K T ⟨Y, β, S, H⟩ E' cls d H' → E cls d H'
/-! calls -/
section
variable {L : List W0} {X : Cx} {k : Nat} {f : Addr} {fd : FuncData} {ps ks : List Str} {x : Str} {p pos : Pos} {e : Expr} {es : List Expr} {kws : List Keyword} {n m : Nat} {perm : List Nat} {r : RDx} {tl tk' : TLs} {ED : XD} {w0 : W0} {T : List (Addr × Str)}
def eCallX (r : RDx) (ED : XD) (tl : TLs) : TD := fun ρ S Q => tl ρ S fun xs S1 => r xs S1 Q ED
def eCallKwX (r : RDx) (ED : XD) (n m : Nat) (perm : List Nat) (tl tk' : TLs) : TD := fun ρ S Q => tl ρ S fun xs S1 => tk' ρ S1 fun ys S2 => xs.length = n ∧ ys.length = m ∧ r (pick perm (xs ++ ys) .non) S2 Q ED
theorem passX (tk : Takes X (fun cls d _ H => WD X.K T w0 ED cls d H)) : Passes (L2.CX X.prog X.w) X (WD X.K T w0 ED) := passes_call tk fun _ _ _ _ h => h
theorem passN : Passes (L2.CX X.prog X.w) X (fun _ _ _ => False) := fun _ _ _ _ _ _ _ c => by
  obtain ⟨_, _, _, _, _, _, _, _, _, _, _, _, z⟩ := c
  exact z.elim
theorem de_callX (tk : Takes X (fun cls d _ H => WD X.K T w0 ED cls d H)) (F : FnG X.prog X.w X.K X.mg X.base (L2.CX X.prog X.w) k f fd ps (lspx X.K T r)) (hr : Room k X.A) (hgd : X.A.guards = some []) (hm : X.mg x = some (.ref f)) (hk : PySem.W.keepIn X.K (.ref f) = true) (hb : Binds X.K fd ps [])
    (ha : PA X (e :: es) (tA X.K ⟨w0 :: L, T⟩ tl)) (hg : Gl X x := by rfl) (hdb : (x == ("__debug__" : Str)) = false := by decide) (he : starEach (e :: es) X.env = (false, eval e X.env) :: starEach es X.env := by rfl) (hpl : (backTo pos (starEach es X.env)).any (·.1) = false := by rfl) :
    PE X (.Call (.Name x p) (e :: es) [] pos) (tE X.K ⟨w0 :: L, T⟩ (eCallX r ED tl)) :=
  (pe_callG F hr hgd hg hm hk hb .nil (passX tk) ha hdb he hpl).imp fun σ H Q ⟨Y, β, S, ρ, Q', rl, q, kk⟩ => ⟨Y, β, S, ρ, _, rl, q, fun xs S1 vs β1 H1 s1 r1 q1 => by
    show lspx X.K T r (vs ++ []) H1 Q _
    rw [List.append_nil]
    exact ⟨Y, β1, S1, xs, Q', ED, s1.ok.free, r1, q1, fun z S3 w β3 H3 s3 r3 q3 => kk z S3 w β3 H3 (s1.trans (s3.back s1.ok)) r3 q3, fun cls d H' h => h.up (s1.ok.gh w0 (List.mem_cons_self ..))⟩⟩
/-- a def that may raise, where it does not -/
theorem de_callN {G : Gh} (F : FnG X.prog X.w X.K X.mg X.base (L2.CX X.prog X.w) k f fd ps (lspx X.K G.T r)) (hr : Room k X.A) (hgd : X.A.guards = some []) (hm : X.mg x = some (.ref f)) (hk : PySem.W.keepIn X.K (.ref f) = true) (hb : Binds X.K fd ps [])
    (ha : PA X (e :: es) (tA X.K G tl)) (hg : Gl X x := by rfl) (hdb : (x == ("__debug__" : Str)) = false := by decide) (he : starEach (e :: es) X.env = (false, eval e X.env) :: starEach es X.env := by rfl) (hpl : (backTo pos (starEach es X.env)).any (·.1) = false := by rfl) :
    PE X (.Call (.Name x p) (e :: es) [] pos) (tE X.K G (eCallX r NoX tl)) :=
  (pe_callG F hr hgd hg hm hk hb .nil passN ha hdb he hpl).imp fun σ H Q ⟨Y, β, S, ρ, Q', rl, q, kk⟩ => ⟨Y, β, S, ρ, _, rl, q, fun xs S1 vs β1 H1 s1 r1 q1 => by
    show lspx X.K G.T r (vs ++ []) H1 Q _
    rw [List.append_nil]
    exact ⟨Y, β1, S1, xs, Q', NoX, s1.ok.free, r1, q1, fun z S3 w β3 H3 s3 r3 q3 => kk z S3 w β3 H3 (s1.trans (s3.back s1.ok)) r3 q3, fun cls d H' ⟨_, _, _, _, _, _, _, _, _, _, _, _, z⟩ => z.elim⟩⟩
theorem de_kw0N {G : Gh} (F : FnG X.prog X.w X.K X.mg X.base (L2.CX X.prog X.w) k f fd ps (lspx X.K G.T r)) (hr : Room k X.A) (hgd : X.A.guards = some []) (hm : X.mg x = some (.ref f)) (hk : PySem.W.keepIn X.K (.ref f) = true)
    (hb : KwB X.K fd ps 0 ks perm) (hkw : PK X kws (tA X.K G tk')) (hl : ks.length = m) (hg : Gl X x := by rfl) (hall : (backToKw pos (keywordEach kws X.env)).all (·.1.isSome) = true := by rfl)
    (hks : (backToKw pos (keywordEach kws X.env)).filterMap (·.1) = ks := by rfl) (hdb : (x == ("__debug__" : Str)) = false := by decide)
    (hpl : ((backTo pos (starEach [] X.env)).any (·.1) || (backToKw pos (keywordEach kws X.env)).any (·.1.isNone)) = false := by rfl) : PE X (.Call (.Name x p) [] kws pos) (tE X.K G (eCallKwX r NoX 0 m perm aNil tk')) := by
  subst hl
  exact (pe_callKw0 F hr hgd hg hm hk hb passN hkw hall hks hdb hpl).imp fun σ H Q ⟨Y, β, S, ρ, Q', rl, q, kk⟩ => ⟨Y, β, S, ρ, _, rl, q, fun ys S2 us β2 H2 s2 r2 ⟨l1, l2, q2⟩ => ⟨rfl, by rw [r2.len]; exact l2,
      Y, β2, S2, _, Q', NoX, s2.ok.free, Reps.pick (vs := [] ++ us) (us := [] ++ ys) r2 perm, q2, fun z S3 w β3 H3 s3 r3 q3 => kk z S3 w β3 H3 (s2.trans (s3.back s2.ok)) r3 q3, fun cls d H' ⟨_, _, _, _, _, _, _, _, _, _, _, _, z⟩ => z.elim⟩⟩
theorem de_kwN {G : Gh} (F : FnG X.prog X.w X.K X.mg X.base (L2.CX X.prog X.w) k f fd ps (lspx X.K G.T r)) (hr : Room k X.A) (hgd : X.A.guards = some []) (hm : X.mg x = some (.ref f)) (hk : PySem.W.keepIn X.K (.ref f) = true)
    (hb : KwB X.K fd ps n ks perm) (ha : PA X (e :: es) (tA X.K G tl)) (hkw : PK X kws (tA X.K G tk')) (hl : ks.length = m) (hg : Gl X x := by rfl) (hall : (backToKw pos (keywordEach kws X.env)).all (·.1.isSome) = true := by rfl)
    (hks : (backToKw pos (keywordEach kws X.env)).filterMap (·.1) = ks := by rfl) (hdb : (x == ("__debug__" : Str)) = false := by decide) (he : starEach (e :: es) X.env = (false, eval e X.env) :: starEach es X.env := by rfl)
    (hpl : ((backTo pos (starEach (e :: es) X.env)).any (·.1) || (backToKw pos (keywordEach kws X.env)).any (·.1.isNone)) = false := by rfl) : PE X (.Call (.Name x p) (e :: es) kws pos) (tE X.K G (eCallKwX r NoX n m perm tl tk')) := by
  subst hl
  exact (pe_callKw F hr hgd hg hm hk hb passN ha hkw hall hks hdb he hpl).imp fun σ H Q ⟨Y, β, S, ρ, Q', rl, q, kk⟩ => ⟨Y, β, S, ρ, _, rl, q, fun xs S1 vs β1 H1 s1 r1 q1 =>
    ⟨Y, β1, S1, ρ, _, rl.step s1, q1, fun ys S2 us β2 H2 s2 r2 ⟨l1, l2, q2⟩ => ⟨by rw [r1.len]; exact l1, by rw [r2.len]; exact l2,
      Y, β2, S2, _, Q', NoX, s2.ok.free, Reps.pick ((s2.reps r1).append r2) perm, q2, fun z S3 w β3 H3 s3 r3 q3 => kk z S3 w β3 H3 ((s1.trans s2).trans (s3.back s2.ok)) r3 q3, fun cls d H' ⟨_, _, _, _, _, _, _, _, _, _, _, _, z⟩ => z.elim⟩⟩⟩
end
/-! a def that may raise -/
section
variable {P : Program} {w : World} {K : PySem.W.Frag} {mg : Str → Option Value} {base : Heap} {k : Nat} {f : Addr} {fd : FuncData} {ps N : List Str} {r : RDx} {x qual : Str} {st : Stmt} {tb : XD → TSd} {T : List (Addr × Str)}
def runX (n : Nat) (tb : XD → TSd) : RDx := fun xs S Q E => tb E { nx := fun _ S' => Q .non S', rt := Q } (startD n xs) S
theorem def_okx (F : Fun K x qual st f fd) (Sc : FnScope N ps (defScope st)) (hl : ∀ xs S Q E, r xs S Q E → xs.length = ps.length)
    (hb : ∀ (cdv : Value) (A : Around) (outer : List Env) (s : Shared) (H : Hp) (E : XK) (w0 : W0) (ED : XD), Room k (A.deeper (envOfC qual (defScope st) s.heap.objs.size f cdv)) → A.guards = some [] →
      Takes (cxOf (L2.CX P w) P w K mg base N qual (defScope st) f cdv A outer s H E) (fun cls d _ H => WD K T w0 ED cls d H) →
      PSs (cxOf (L2.CX P w) P w K mg base N qual (defScope st) f cdv A outer s H E) (defBody st) (tS K ⟨[w0], T⟩ (tb ED)))
    (hr : ∀ xs S Q E, r xs S Q E → runX N.length tb xs S Q E) : FnG P w K mg base (L2.CX P w) (k + 1) f fd ps (lspx K T r) := by
  refine fnG_of F Sc (fun vs H Q E h => ?_) fun cdv A outer s H vs Q E room grd h => ?_
  · obtain ⟨Y, β, S, xs, Q', E', o, rr, q, _⟩ := h
    rw [rr.len]
    exact hl _ _ _ _ q
  · obtain ⟨Y, β, S, xs, Q', E', o, rr, q, kk, kx⟩ := h
    refine ⟨tS K ⟨[⟨Y, β, S, H⟩], T⟩ (tb E'), hb cdv A outer s H E ⟨Y, β, S, H⟩ E' room grd ((takes_of rfl rfl rfl rfl).imp fun c d σ H' h => kx c d H' h), ?_⟩
    exact ⟨Y, β, S, _, _, start_rel o.mind rr, hr xs S Q' E' q, ⟨fun ρ' S' σ' β' H' s' r' q' => kk .non S' .non β' H' s'.free .non q', fun d S' v β' H' s' r' q' => kk d S' v β' H' s'.free r' q', fun _ _ _ _ _ _ _ z => z.elim, fun _ _ _ _ _ _ _ z => z.elim⟩⟩
end
/-! raise -/
section
variable {L : List W0} {X : Cx} {e : Expr} {ta : TD} {ED : XD} {w0 : W0} {T : List (Addr × Str)} {C : Addr} {nm : Str} {pos : Pos}
/-- C(e): its one field told -/
def tMkS (C : Addr) (nm : Str) (te : TE) : L2.St → Hp → XK → Prop := fun σ H Q => te σ H fun v H1 => ∀ dd, H1 dd = none → Q (.ref C) (some dd) (upd H1 dd (.xd [(nm, v)]))
def sRaise (ED : XD) (C : Addr) (nm : Str) (ta : TD) : TSd := fun _ ρ S => ta ρ S fun d S1 => ED (C, [(nm, d)]) S1
theorem ds_raise (hc : X.calm = true) (tk : Takes X (fun cls d _ H => WD X.K T w0 ED cls d H)) (h : PMk X e (tMkS C nm (tE X.K ⟨w0 :: L, T⟩ ta))) : PS X (.Raise (some e) none pos) (tS X.K ⟨w0 :: L, T⟩ (sRaise ED C nm ta)) :=
  (ps_raise hc tk h).imp fun D' σ H ⟨Y, β, S, ρ, N, rl, q, l⟩ => ⟨Y, β, S, ρ, _, rl, q, fun d S1 v β1 H1 s1 r1 q1 dd hdd => by
    have st := s1.ok.new (.xd [(nm, v)]) hdd
    exact ⟨C, dd, [(nm, v)], [(nm, d)], Y, β1, S1, rfl, rfl, st.ok.less fun w hw => (by rw [List.mem_singleton.mp hw]; exact List.mem_cons_self ..), s1.ok.new_at _ hdd, .cons (st.rep r1) .nil, q1⟩⟩
/-- a statement that is never reached -/
def sNever : TSd := fun _ _ _ => False
theorem ds_never {st : Stmt} {G : Gh} : PS X st (tS X.K G sNever) := ⟨fun pins s σ H D I ⟨_, _, _, _, _, _, q, _⟩ => q.elim⟩
end
end NC

set_option Elab.async false
set_option linter.all false
set_option maxRecDepth 100000
set_option maxHeartbeats 1000000
/-! NC15: try. -/
namespace NC
open PySem PySem.Spec PyProof.Rows L2
open Evl (Ex)

theorem excH_ok {P : Program} {w : World} {H : Hp} {h : Heap} {a C dd : Addr} {o : Obj} {vs : Array Value} (e : h.get? a = some o) (hc : o.cls = .ref C) (hd : o.dict = some dd) (hv : o.data = .fields vs) : ObjOk P w H h a (excH a C dd) :=
  ⟨⟨o, vs, e, hc, hd, hv⟩, ⟨o, e⟩, fun h1 h2 ⟨o1, v1, q1, q2⟩ k => ⟨o1, v1, k _ q1, q2⟩⟩
/-- an object of the heap that nothing tells of is told of from now on -/
theorem tell {X : Cx} {pins : List (Addr × Obj)} {σ : L2.St} {H : Hp} {s : Shared} {a : Addr} {ob : HO} {o : Obj} {vs : Array Value} (I : L2.Inv X pins σ H s) (hn : H a = none) (he : s.heap.get? a = some o) (hv : o.data = .fields vs) (hok : ∀ H', ObjOk X.prog X.w H' s.heap a ob)
    (hs : ∀ z, X.s_0.heap.get? a ≠ some z) (hl : a ≠ X.env.locals) (hp : ∀ p ∈ X.pn ++ pins, p.1 ≠ a) (hot : ∀ y, ob ≠ .own y) : L2.Inv X pins σ (upd H a ob) s := by
  have ne : ∀ {b : Addr} {u : HO}, H b = some u → b ≠ a := fun {b u} h e => by
    rw [e, hn] at h
    cases h
  refine ⟨I.ok, I.os, I.bare, ⟨I.base.keep, I.base.slot, fun b u h1 h2 h3 => ?_, I.base.there, fun b xs h => ?_, fun b u xs h => ?_, fun b ps h => ?_⟩, I.loc, I.cell, ?_, fun y c h => ?_, fun p hm => ?_, fun b u h => ?_, I.len⟩
  · have hb : b ≠ a := fun e => hs u (e ▸ h1)
    rw [upd_ne hb]
    exact I.base.free b u h1 h2 h3
  · have := I.base.tups b xs h
    rw [upd_ne (ne this)]
    exact this
  · have := I.base.frzs b u xs h
    rw [upd_ne (ne this)]
    exact this
  · obtain ⟨more, this⟩ := I.base.tbls b ps h
    exact ⟨more, by rw [upd_ne (ne this)]; exact this⟩
  · rw [upd_ne (Ne.symm hl)]
    exact I.free
  · obtain ⟨w', o', e1, e2⟩ := I.cell y c h
    have hc : c ≠ a := fun e => by
      rw [e, he] at e1
      cases e1
      rw [hv] at e2
      cases e2
    rw [upd_ne hc]
    exact I.freeC y c h
  · obtain ⟨e1, e2, e3⟩ := I.pin p hm
    exact ⟨e1, by rw [upd_ne (hp p hm)]; exact e2, e3⟩
  · by_cases hb : b = a
    · subst hb
      rw [upd_same] at h
      cases h
      exact hok _
    · rw [upd_ne hb] at h
      exact (I.hok b u h).stay (fun c z _ q => q) (fun c q => by rw [upd_ne (ne q)]; exact q) fun c xs q => by rw [upd_ne (ne q)]; exact q
/-- an except clause: its class, its name's slot, its suite's reading (of the object, its class, its dict) -/
structure Cl where
  c : Value
  nm : Option Nat
  ts : Addr → Addr → Addr → TS
abbrev offSlot (i : Nat) (D' : Ends) : Ends := { nx := fun σ2 H2 => D'.nx (σ2.set i none) H2, rt := D'.rt, bk := fun σ2 H2 => D'.bk (σ2.set i none) H2, ct := fun σ2 H2 => D'.ct (σ2.set i none) H2 }
/-- a suite entered, whatever the frame holds -/
def Cl.run (x : Cl) (D' : Ends) (a C dd : Addr) (σ' : L2.St) (H' : Hp) : Prop := match x.nm with
  | none => x.ts a C dd D' σ' H'
  | some i => x.ts a C dd (offSlot i D') (σ'.set i (some (.ref a))) H'
def wC (K : PySem.W.Frag) (n : Nat) (Wout : WX) (D' : Ends) : List Cl → WX
  | [] => Wout
  | x :: r => fun cls d σ H => ∃ b, PySem.W.exmOne K cls x.c = some b ∧
      (b = true → ∃ C dd, cls = .ref C ∧ d = some dd ∧ ∀ (a : Addr) (σ' : L2.St), H a = none → σ'.length = n → x.run D' a C dd σ' (upd H a (excH a C dd))) ∧ (b = false → wC K n Wout D' r cls d σ H)
inductive HdsC (X : Cx) : List ExceptHandler → List Cl → Prop
  | nil : HdsC X [] []
  | cons {x : Str} {c : Value} {ts : Addr → Addr → Addr → TS} {b₀ : Stmt} {suite : List Stmt} {np pos' : Pos} {hds : List ExceptHandler} {l : List Cl} (hc : Names X x c)
      (hsu : ∀ (a C dd : Addr) (pn : List (Addr × Obj)), PSs (X.suite a pn) (b₀ :: suite) (ts a C dd)) (r : HdsC X hds l) : HdsC X (.ExceptHandler (some (.Name x np)) none (b₀ :: suite) pos' :: hds) (⟨c, none, ts⟩ :: l)
  | consAs {x n : Str} {i : Nat} {c : Value} {ts : Addr → Addr → Addr → TS} {b₀ : Stmt} {suite : List Stmt} {np pos' : Pos} {hds : List ExceptHandler} {l : List Cl} (hc : Names X x c) (hi : X.N[i]? = some n) (hln : X.env.kindOf n = some .local)
      (hsu : ∀ (a C dd : Addr) (pn : List (Addr × Obj)), PSs (X.suite a pn) (b₀ :: suite) (ts a C dd)) (r : HdsC X hds l) : HdsC X (.ExceptHandler (some (.Name x np)) (some n) (b₀ :: suite) pos' :: hds) (⟨c, some i, ts⟩ :: l)
section
variable {X : Cx} {pins : List (Addr × Obj)} {σ : L2.St} {H : Hp} {s : Shared} {a : Addr}
theorem inSuite (I : L2.Inv X pins σ H s) (a : Addr) : L2.Inv (X.suite a (X.pn ++ pins)) [] σ H s :=
  ⟨I.ok.suite _ _, I.os, I.bare, I.base, I.loc, I.cell, I.free, I.freeC, fun p hp => I.pin p (by rw [List.append_nil] at hp; exact hp), I.hok, I.len⟩
theorem outSuite {pn' : List (Addr × Obj)} (I : L2.Inv (X.suite a (X.pn ++ pins)) pn' σ H s) (ok : X.Ok) : L2.Inv X pins σ H s :=
  ⟨ok, I.os, I.bare, I.base, I.loc, I.cell, I.free, I.freeC, fun p hp => I.pin p (List.mem_append_left _ hp), I.hok, I.len⟩
variable {body : List Stmt} {hd₀ : ExceptHandler} {hds : List ExceptHandler} {cl : List Cl} {pos : Pos} {tb : WX → TS} {Wout : WX}
theorem ps_tryC (hst : X.stack = X.env :: X.outer) (hfr0 : X.env.frame = some X.env.locals) (hex : X.ex = []) (hN : X.N.Nodup) (tk : Takes X Wout)
    (hb : ∀ (W : WX) (pn : List (Addr × Obj)) (xe : Value → Shared → Prop), Takes (X.tr pn xe) W → PassesOwn (model X.prog X.w) X.A X.env xe → PSs (X.tr pn xe) body (tb W))
    (hh : HdsC X (hd₀ :: hds) cl) : PS X (.Try body (hd₀ :: hds) [] [] pos) (fun D' σ H => tb (wC X.K X.N.length Wout D' cl) D' σ H) := by
  refine ⟨fun pins s σ H D' I h => ?_⟩
  have good := I.ok
  have frames : X.A.frames = some (X.env :: X.outer) := by rw [good.frames, hst]
  refine wpAny_Try_except ?_
  refine wpAny_mono ((hb (wC X.K X.N.length Wout D' cl) (X.pn ++ pins) (fun e s₁ => wpAny (model X.prog X.w) X.A (noteFrame e X.env) (fun _ s₂ => wpAny (model X.prog X.w) X.A (setFlight e none) (fun _ s₃ =>
    wpAny (model X.prog X.w) X.A (handleBy e X.env (hd₀ :: hds)) (SP X pins D') X.xe s₃) X.xe s₂) X.xe s₁) (fun u s' flew => ?_) PassesOwn.looking).run [] s σ H D' (I.toTry _) h) (fun fl s1 done => ?_) (fun e s1 he => he)
  · obtain ⟨a, B, sI, pins', σ', H', cls, d, rfl, J', ground, up, sky, noA, hos, gens, wish⟩ := flew
    have J : L2.Inv X pins σ' H' sI := J'.ofTry good
    rw [hst] at sky
    show wpAny (model X.prog X.w) X.A (noteFrame (.ref a) X.env) _ _ _
    refine Sky.land Zc.steady frames hfr0 sky fun h3 fly3 up3 => ?_
    have J3 : L2.Inv X pins σ' H' { s' with heap := h3 } := J.landed ground fly3.1 (up.trans up3) hos gens
    obtain ⟨oe3, vs3, he3, hz3, hd3⟩ := fly3.there
    have offFrames : a ∉ frs (X.env :: X.outer) := fun hm => by
      obtain ⟨_, o', e', hnf⟩ := fly3.2.2.1.mem hm
      rw [he3] at e'
      cases e'
      exact hnf _ hd3
    have notLoc : a ≠ X.env.locals := fun z => offFrames (List.mem_filterMap.mpr ⟨X.env, List.mem_cons_self, by rw [hfr0, z]⟩)
    have offB : B.get? a = none := fly3.2.1
    have inB : ∀ {b : Addr} {o : Obj}, sI.heap.get? b = some o → b ∉ frs X.stack → b ≠ a := fun {b o} e hb eq => by
      have := ground b o e hb
      rw [eq, offB] at this
      cases this
    have offS : ∀ z, X.s_0.heap.get? a ≠ some z := fun z e => by
      obtain ⟨o', e1⟩ := J.base.there a z e (by rw [hex]; simp)
      exact inB e1 (by rw [hst]; exact offFrames) rfl
    have offPins : ∀ p ∈ X.pn ++ pins, p.1 ≠ a := fun p hp => by
      obtain ⟨e1, _, e3, e4, _⟩ := J.pin p hp
      refine inB e1 fun hm => ?_
      rw [hst] at hm
      obtain ⟨en, hen, q⟩ := List.mem_filterMap.mp hm
      rcases List.mem_cons.mp hen with z | z
      · rw [z, hfr0] at q
        exact e3 (Option.some.inj q).symm
      · exact e4 (List.mem_filterMap.mpr ⟨en, z, q⟩)
    have S3 := inSuite J3 a
    have tested : ∀ {x : Str} {np : Pos} {c : Value}, Names X x c → ∀ {Q : Value → Shared → Prop} {E : Value → Shared → Prop}, Q c { s' with heap := h3 } → wpAny (model X.prog X.w) (X.A.mark (some (.ref a))) (eval (.Name x np) X.env) Q E { s' with heap := h3 } := fun {x np c} hc {Q E} q => by
      obtain ⟨hg, hdbg, hm | ⟨hm, hv, hnn⟩⟩ := hc
      · exact ld_glob (X := X.suite a (X.pn ++ pins)) S3 hg hm q hdbg
      · exact ld_blt (X := X.suite a (X.pn ++ pins)) S3 hg hm hv q hnn hdbg
    have kind : PySem.W.Looks (model X.prog X.w) h3 (typeOf (.ref a)) cls := fun A Q E s k q => wpAny_typeOf_ref (k _ _ he3) (by rw [hz3.1]; exact q)
    -- the object told of, in a suite
    have enter : ∀ {C dd : Addr} {h4 : Heap}, cls = .ref C → d = some dd → HandSPX.FlyingZ B (X.env :: X.outer) a (Zc cls d) h4 → h3.UpToSlots h4 → L2.Inv (X.suite a (X.pn ++ pins)) [] σ' (upd H' a (excH a C dd)) { s' with heap := h4 } := fun {C dd h4} ec ed fly4 up4 => by
      have J4 : L2.Inv X pins σ' H' { s' with heap := h4 } := J.landed ground fly4.1 ((up.trans up3).trans up4) hos gens
      obtain ⟨oe4, vs4, he4, hz4, hd4⟩ := fly4.there
      exact inSuite (tell J4 noA he4 hd4 (fun H2 => excH_ok he4 (hz4.1.trans ec) (hz4.2.trans ed) hd4) offS notLoc offPins fun y z => by unfold excH at z; cases z) a
    have walk : ∀ {hs' : List ExceptHandler} {cl' : List Cl}, HdsC X hs' cl' → wC X.K X.N.length Wout D' cl' cls d σ' H' → wpAny (model X.prog X.w) X.A (handleBy (.ref a) X.env hs') (SP X pins D') X.xe { s' with heap := h3 } := by
      intro hs' cl' hk
      induction hk with
      | nil =>
        intro q
        refine wpAny_handleBy_nil ?_
        obtain ⟨_, _, _, ob, fv, tb', oT, tv, g1, g2, g3, g4, _⟩ := id fly3
        unfold PySem.passOn
        refine wpAny_bind (wpAny_field g1 g3 g4 ?_)
        rw [if_neg (show ¬ ((Value.ref tb' == Value.none) = true) from by simp)]
        have on : wpAny (model X.prog X.w) X.A (setFlight (.ref a) X.env.frame) (fun _ s4 => wpAny (model X.prog X.w) X.A (throw (.ref a) : Sem Flow) (SP X pins D') X.xe s4) X.xe { s' with heap := h3 } := by
          rw [hfr0]
          refine HandSPX.setFlight_upZ fly3 fun h4 held4 up4 => wpAny_throw (tk _ _ ?_)
          exact ⟨a, B, sI, pins, σ', H', cls, d, rfl, J, ground, (up.trans up3).trans up4, .inr (.inr (by rw [hst]; exact held4)), noA, hos, gens, q⟩
        first
          | exact wpAny_bind (wpAny_pure (wpAny_bind on))
          | exact wpAny_bind on
      | cons hc hsu _ ih =>
        intro q
        obtain ⟨b, hb1, yes, no⟩ := q
        refine wpAny_handleBy_cons (codeAny_handlers_test ?_) (by intro z; cases z)
        refine tested hc ((PySem.W.exm_one (M := model X.prog X.w) J3.kIn kind hb1).here ?_)
        cases b with
        | false => exact ih (no rfl)
        | true =>
          obtain ⟨C, dd, ec, ed, run⟩ := yes rfl
          refine codeAny_handlers_suite ?_
          refine HandSPX.lands_againZ fly3 fun h4 fly4 up4 => ?_
          refine wpAny_mono ((hsu a C dd (X.pn ++ pins)).run [] _ _ _ _ (enter ec ed fly4 up4) (run a σ' noA J.len)) (fun fl s6 done => ?_) (fun _ _ z => False.elim z)
          cases fl with
          | ret u =>
            obtain ⟨v6, σ6, H6, S6, r6, q6⟩ := done
            exact ⟨_, _, _, outSuite S6 good, r6, q6⟩
          | next => exact let ⟨σ6, H6, S6, q6⟩ := done; ⟨_, _, outSuite S6 good, q6⟩
          | brk => exact let ⟨σ6, H6, S6, q6⟩ := done; ⟨_, _, outSuite S6 good, q6⟩
          | cont => exact let ⟨σ6, H6, S6, q6⟩ := done; ⟨_, _, outSuite S6 good, q6⟩
      | @consAs x n i c ts b₀ suite np pos' hds2 l2 hc hi hln hsu _ ih =>
        intro q
        obtain ⟨b, hb1, yes, no⟩ := q
        refine wpAny_handleBy_cons (codeAny_handlers_test ?_) (by intro z; cases z)
        refine tested hc ((PySem.W.exm_one (M := model X.prog X.w) J3.kIn kind hb1).here ?_)
        cases b with
        | false => exact ih (no rfl)
        | true =>
          obtain ⟨C, dd, ec, ed, run⟩ := yes rfl
          refine codeAny_handlers_suite_as ?_
          refine HandSPX.lands_againZ fly3 fun h4 fly4 up4 => ?_
          refine store_ok (X := X.suite a (X.pn ++ pins)) (v := .ref a) (enter ec ed fly4 up4) hN hi (.inl hln) rfl (fun s5 S5 => ?_) (.inr hln)
          refine wpAny_mono ((hsu a C dd (X.pn ++ pins)).run [] s5 _ _ _ S5 (run a σ' noA J.len)) (fun fl s6 done => ?_) (fun _ _ z => False.elim z)
          have gone : ∀ {σ6 : L2.St} {H6 : Hp} {Q : Shared → Prop}, L2.Inv (X.suite a (X.pn ++ pins)) [] σ6 H6 s6 → (∀ s7, L2.Inv X pins (σ6.set i none) H6 s7 → Q s7) →
              wpAny (model X.prog X.w) X.A (do bindName X.env n .none; unbindBehindTheSuite X.env n pos') (fun _ s7 => Q s7) X.xe s6 := fun {σ6 H6 Q} S6 hq => gone_ok (outSuite S6 good) hN hi hln hq
          cases fl with
          | ret u =>
            obtain ⟨v6, σ6, H6, S6, r6, q6⟩ := done
            exact gone S6 fun s7 J7 => ⟨_, _, _, J7, r6, q6⟩
          | next => exact let ⟨σ6, H6, S6, q6⟩ := done; gone S6 fun s7 J7 => ⟨_, _, J7, q6⟩
          | brk => exact let ⟨σ6, H6, S6, q6⟩ := done; gone S6 fun s7 J7 => ⟨_, _, J7, q6⟩
          | cont => exact let ⟨σ6, H6, S6, q6⟩ := done; gone S6 fun s7 J7 => ⟨_, _, J7, q6⟩
    exact walk hh wish
  · cases fl with
    | next => exact let ⟨σ', H', J', q⟩ := done; wpAny_execs_nil ⟨σ', H', J'.ofTry good, q⟩
    | brk => exact let ⟨σ', H', J', q⟩ := done; ⟨σ', H', J'.ofTry good, q⟩
    | cont => exact let ⟨σ', H', J', q⟩ := done; ⟨σ', H', J'.ofTry good, q⟩
    | ret u => exact let ⟨v, σ', H', J', r, q⟩ := done; ⟨v, σ', H', J'.ofTry good, r, q⟩
end
/-! ### over data -/
section
variable {K : PySem.W.Frag} {G : Gh} {Y Y2 β β2 : List Addr} {S S2 : Store} {H H2 : Hp}
/-- back in the frame that kept a world in mind -/
theorem Ok.land (o0 : Ok K G Y β S H) (o : Ok K ⟨[⟨Y, β, S, H⟩], G.T⟩ Y2 β2 S2 H2) : Step K G Y β S H β2 S2 H2 ∧ Ex (hid Y2 β2 S2 H2) (hid Y β2 S2 H2) := by
  have sn := o.gh _ (List.mem_singleton.mpr rfl)
  have sub : ∀ a ∈ Y, a ∈ Y2 := fun a ha => (sn.ext a ha).1
  have ex : Ex (hid Y2 β2 S2 H2) (hid Y β2 S2 H2) := fun b u h => by
    unfold hid at h ⊢
    split at h
    · cases h
    · rename_i hn
      rw [if_neg]
      · exact h
      · rintro (h' | h')
        · exact hn (.inl (sub b h'))
        · exact hn (.inr h')
  have ex2 : Ex (hid Y β S H) (hid Y β2 S2 H2) := sn.ex.trans ex
  have ext : ∀ a ∈ Y, Kept H H2 a := fun a ha => (sn.ext a ha).2
  refine ⟨⟨sn.pre, ex2, ext, sn.trk, ⟨o.len, o.nd, fun a ha hY => o.out a ha (sub a hY), o.trk, fun a ha => o.xtrk a (sub a ha), fun n so e => ?_, fun w hw => (o0.gh w hw).on sn.pre ex2 ext sn.trk, ⟨o.tb.tabs, o0.tb.hid⟩⟩⟩, ex⟩
  obtain ⟨a, e1, r⟩ := o.obj n so e
  exact ⟨a, e1, r.keep ex (.refl _) fun _ => rfl⟩
theorem Rel.off {ρ : Rho} {σ : L2.St} (r : Rel K G Y β S ρ σ H) (j : Nat) : Rel K G Y β S (ρ.set j none) (σ.set j none) H := by
  refine ⟨r.ok, by rw [List.length_set, List.length_set]; exact r.len, fun i e h => ?_⟩
  by_cases hj : j = i
  · subst hj
    by_cases hl : j < ρ.length
    · rw [List.getElem?_set_self hl] at h
      cases h
    · rw [List.getElem?_eq_none (by simpa using hl)] at h
      cases h
  · rw [List.getElem?_set_ne hj] at h ⊢
    exact r.get i e h
theorem Rel.blank {σ : L2.St} {n : Nat} (o : Ok K G Y β S H) (hl : σ.length = n) : Rel K G Y β S (List.replicate n none) σ H := ⟨o, by rw [List.length_replicate]; exact hl.symm, fun i d e => by
  rw [List.getElem?_replicate] at e
  split at e <;> cases e⟩
end
structure ClD where
  c : Value
  nm : Option Nat
  td : TSd
abbrev offD (i : Nat) (N : DN) : DN := { nx := fun ρ S => N.nx (ρ.set i none) S, rt := N.rt, bk := fun ρ S => N.bk (ρ.set i none) S, ct := fun ρ S => N.ct (ρ.set i none) S }
def ClD.run (x : ClD) (n : Nat) (N : DN) (ex : Exn) (S : Store) : Prop := match x.nm with
  | none => x.td N (List.replicate n none) (S ++ [some (.exc ex.1 ex.2)])
  | some i => x.td (offD i N) ((List.replicate n none).set i (some (.ref S.length))) (S ++ [some (.exc ex.1 ex.2)])
def handle (K : PySem.W.Frag) (n : Nat) (EDo : XD) (N : DN) : List ClD → XD
  | [] => EDo
  | x :: r => fun ex S => ∃ b, PySem.W.exmOne K (.ref ex.1) x.c = some b ∧ (b = true → x.run n N ex S) ∧ (b = false → handle K n EDo N r ex S)
def sTry (K : PySem.W.Frag) (n : Nat) (EDo : XD) (tb : XD → TSd) (cl : List ClD) : TSd := fun N ρ S => tb (handle K n EDo N cl) N ρ S
/-- the clauses' suites, each kept -/
inductive HdsD (X : Cx) (G : Gh) : List ExceptHandler → List ClD → Prop
  | nil : HdsD X G [] []
  | cons {x : Str} {c : Value} {td : TSd} {b₀ : Stmt} {suite : List Stmt} {np pos' : Pos} {hds : List ExceptHandler} {l : List ClD} (hc : Names X x c)
      (hsu : ∀ (a : Addr) (pn : List (Addr × Obj)), PSs (X.suite a pn) (b₀ :: suite) (tS X.K G td)) (r : HdsD X G hds l) : HdsD X G (.ExceptHandler (some (.Name x np)) none (b₀ :: suite) pos' :: hds) (⟨c, none, td⟩ :: l)
  | consAs {x n : Str} {i : Nat} {c : Value} {td : TSd} {b₀ : Stmt} {suite : List Stmt} {np pos' : Pos} {hds : List ExceptHandler} {l : List ClD} (hc : Names X x c) (hi : X.N[i]? = some n) (hln : X.env.kindOf n = some .local)
      (hsu : ∀ (a : Addr) (pn : List (Addr × Obj)), PSs (X.suite a pn) (b₀ :: suite) (tS X.K G td)) (r : HdsD X G hds l) : HdsD X G (.ExceptHandler (some (.Name x np)) (some n) (b₀ :: suite) pos' :: hds) (⟨c, some i, td⟩ :: l)
section
variable {X : Cx} {G : Gh} {hds : List ExceptHandler} {cl : List ClD}
theorem HdsD.toC (h : HdsD X G hds cl) : HdsC X hds (cl.map fun x => ⟨x.c, x.nm, fun _ _ _ => tS X.K G x.td⟩) := by
  induction h with
  | nil => exact .nil
  | cons hc hsu _ ih => exact .cons hc (fun a _ _ pn => hsu a pn) ih
  | consAs hc hi hln hsu _ ih => exact .consAs hc hi hln (fun a _ _ pn => hsu a pn) ih
variable {body : List Stmt} {hd₀ : ExceptHandler} {pos : Pos} {tb : XD → TSd} {Wout : WX} {EDo : XD}
theorem ds_try (hst : X.stack = X.env :: X.outer) (hfr0 : X.env.frame = some X.env.locals) (hex : X.ex = []) (hN : X.N.Nodup) (tk : Takes X Wout)
    (hout : ∀ Y β S H, Ok X.K G Y β S H → ∀ cls d σ2 H2, WD X.K G.T ⟨Y, β, S, H⟩ EDo cls d H2 → Wout cls d σ2 H2)
    (hb : ∀ (w0 : W0) (ED : XD) (pn : List (Addr × Obj)) (xe : Value → Shared → Prop), Takes (X.tr pn xe) (fun cls d _ H => WD X.K G.T w0 ED cls d H) → PassesOwn (model X.prog X.w) X.A X.env xe → PSs (X.tr pn xe) body (tS X.K ⟨w0 :: G.w, G.T⟩ (tb ED)))
    (hh : HdsD X G (hd₀ :: hds) cl) : PS X (.Try body (hd₀ :: hds) [] [] pos) (tS X.K G (sTry X.K X.N.length EDo tb cl)) := by
  refine (ps_tryC (tb := fun W D' σ H => ∃ (w0 : W0) (ED : XD), (∀ cls d σ2 H2, WD X.K G.T w0 ED cls d H2 → W cls d σ2 H2) ∧ tS X.K ⟨w0 :: G.w, G.T⟩ (tb ED) D' σ H) hst hfr0 hex hN tk
    (fun W pn xe tk' po => ⟨fun pins s σ H D' I ⟨w0, ED, hw, q⟩ => (hb w0 ED pn xe (tk'.imp fun cls d σ2 H2 h => hw cls d σ2 H2 h) po).run pins s σ H D' I q⟩) hh.toC).imp ?_
  rintro D' σ H ⟨Y, β, S, ρ, N, rl, q, l⟩
  refine ⟨⟨Y, β, S, H⟩, handle X.K X.N.length EDo N cl, ?_, Y, β, S, ρ, N, ⟨rl.ok.mind, rl.len, rl.get⟩, q, ⟨fun ρ' S' σ' β' H' s' r' => l.nx ρ' S' σ' β' H' (s'.free.back rl.ok) ⟨(s'.free.back rl.ok).ok, r'.len, r'.get⟩, fun d S' v β' H' s' => l.rt d S' v β' H' (s'.free.back rl.ok),
    fun ρ' S' σ' β' H' s' r' => l.bk ρ' S' σ' β' H' (s'.free.back rl.ok) ⟨(s'.free.back rl.ok).ok, r'.len, r'.get⟩, fun ρ' S' σ' β' H' s' r' => l.ct ρ' S' σ' β' H' (s'.free.back rl.ok) ⟨(s'.free.back rl.ok).ok, r'.len, r'.get⟩⟩⟩
  intro cls d σ2 H2 hw
  obtain ⟨C, dd, fs, es, Y2, β2, S2, rfl, rfl, o2, hdd, hf, hq⟩ := hw
  clear hh q
  induction cl with
  | nil => exact hout Y β S H rl.ok _ _ σ2 H2 ⟨C, dd, fs, es, Y2, β2, S2, rfl, rfl, o2, hdd, hf, hq⟩
  | cons x r ih =>
    obtain ⟨b, hb1, yes, no⟩ := hq
    refine ⟨b, hb1, fun eb => ⟨C, dd, rfl, rfl, fun a σ' ha hl => ?_⟩, fun eb => ih (no eb)⟩
    obtain ⟨s1, ex1⟩ := rl.ok.land o2
    have s2 := s1.ok.catch (p := a) (C := C) ha (ex1 _ _ hdd) (hf.mono ex1 (.refl _))
    have s12 := s1.trans s2
    have blank : Rel X.K G Y (β2 ++ [a]) (S2 ++ [some (.exc C es)]) (List.replicate X.N.length none) σ' (upd H2 a (excH a C dd)) := Rel.blank s2.ok hl
    have run := yes eb
    have l2' := l.step s12
    obtain ⟨xc, xn, xt⟩ := x
    cases xn with
    | none => exact ⟨Y, _, _, _, N, blank, run, l2'⟩
    | some i =>
      refine ⟨Y, _, _, _, offD i N, blank.set (v := .ref a) (d := .ref S2.length) (.ref ?_) i, run, ⟨fun ρ' S' σ3 β' H' s' r' => l2'.nx _ S' _ β' H' s' (r'.off i), l2'.rt, fun ρ' S' σ3 β' H' s' r' => l2'.bk _ S' _ β' H' s' (r'.off i), fun ρ' S' σ3 β' H' s' r' => l2'.ct _ S' _ β' H' s' (r'.off i)⟩⟩
      rw [← s1.ok.len, List.getElem?_append_right (Nat.le_refl _), Nat.sub_self]
      rfl
end
end NC

set_option Elab.async false
set_option linter.all false
set_option maxRecDepth 100000
set_option maxHeartbeats 1000000
/-! NC16: a lambda handed to a def that calls it. -/
namespace NC
open PySem PySem.Spec PyProof.Rows L2
open Evl (Ex)

theorem fnH_ok {P : Program} {w : World} {H : Hp} {h : Heap} {a : Addr} {o : Obj} (e : h.get? a = some o) : ObjOk P w H h a (fnH a o) := ⟨e, ⟨o, e⟩, fun _ _ q k => k _ q⟩
theorem fnH_at {P : Program} {w : World} {H : Hp} {h : Heap} {a : Addr} {o : Obj} (hok : HOk P w H h) (e : H a = some (fnH a o)) : h.get? a = some o := by
  have z : ObjOk P w H h a (.ext fun h => h.get? a = some o) := hok a _ e
  exact z.1
abbrev lamN (X : Cx) : Str := X.env.qual ++ "<lambda>"
abbrev lamC (X : Cx) (sc : Scope) : List (Str × Addr) := cloFrom X.env.cells sc.names []
abbrev lamO (X : Cx) (ps : Arguments) (b : Expr) (sc : Scope) (pm : Value) (c' : Addr) (ct : Value) : Obj := PySem.W.kla_obj "<lambda>" (lamN X) ps b sc (lamC X sc) pm c' ct
theorem among_more {pos : Pos} {cv : Value} (l r : List Value) (h : TriplesOk l) (e : codeAmong pos l = some cv) : codeAmong pos (l ++ r) = some cv := by
  fun_induction TriplesOk l with
  | case1 => simp [codeAmong] at e
  | case2 a t b u x rest ih =>
    simp only [List.cons_append, codeAmong] at e ⊢
    split at e
    · rename_i q
      rw [if_pos q]
      exact e
    · rename_i q
      rw [if_neg q]
      exact ih h e
  | case3 l h1 h2 => exact h.elim
section
variable {X : Cx} {pins : List (Addr × Obj)} {σ : L2.St} {H : Hp} {s : Shared}
/-- a lambda made: its table alone may have grown -/
theorem lam_made {T : List (Addr × Str)} {c P : Addr} {ps : Arguments} {b : Expr} {sc : Scope} {pos : Pos} {E Q : Value → Shared → Prop} (I : L2.Inv X pins σ H s) (B : LamX.TabB X.base X.mg c P) (hc : X.env.code = .ref c)
    (inT : (P, lamN X) ∈ T) (one : ∀ p ∈ T, p.1 = P → p.2 = lamN X) (hT : LamX.Tabs T H) (nd : defaultsOf ps X.env = ([], [])) (fr : ∀ y ∈ sc.names, y.2 = .free → ∃ c, X.env.cells.lookup y.1 = some c)
    (k : ∀ (f c' : Addr) (pm ct : Value) (H1 : Hp) (s' : Shared), L2.Inv X pins σ (upd H1 f (fnH f (lamO X ps b sc pm c' ct))) s' → H1 f = none → (∀ a o, a ≠ P → H a = some o → H1 a = some o) → (∃ q, H1 P = some (.tbl q) ∧ LamX.TabS H1 P (lamN X) ∧ codeAmong pos q.toList = some (.ref c')) →
      LamX.Tabs T H1 → Q (.ref f) s') :
    wpAny (model X.prog X.w) X.A (eval (.Lambda ps b sc pos) X.env) Q E s := by
  obtain ⟨tb, hP, tri, am⟩ := hT _ inT
  apply PySem.W.kla_eval nd
  have bi := B.bm.keeps I.bk
  have atP := I.hok P _ hP
  cases hit : codeAmong pos tb.toList with
  | some cv =>
    obtain ⟨c', rfl, known⟩ := am pos cv hit
    refine PySem.W.kla_makeFunctionHit (P := P) (c := c) (mg := X.mg) (closure_ok fr) I.ok.glob (I.mod.glob.keeps I.bk) hc (B.code.keeps I.bk) atP tri hit bi ?_
    intro ct h1 tk keep size
    have new : H h1.objs.size = none := I.hok.fresh size
    exact k _ c' _ ct H _ ((I.kept (t' := tk) keep).laid (t' := tk) (fun a o e => Heap.get?_push_of_some _ e) (Nat.le_refl _) (fnH_ok (Heap.get?_push_size _ rfl))) new (fun _ _ _ e => e) ⟨_, hP, hT _ inT, hit⟩ hT
  | none =>
    refine PySem.W.kla_makeFunction (P := P) (c := c) (mg := X.mg) (closure_ok fr) I.ok.glob (I.mod.glob.keeps I.bk) hc (B.code.keeps I.bk) atP tri hit B.gP bi ?_
    intro c' ct h1 tk but ge lt rc tab
    obtain ⟨c2, oc, fs, t, e2, ho, hd, hq⟩ := rc
    cases e2
    have nc : H c' = none := I.hok.fresh ge
    have J := LamX.inv_table (q := lamN X) (more := #[rawInt pos.line, rawInt pos.col, .ref c']) (t' := tk) I hP (fun a o ha e => but a o ha e) tab ge ⟨oc, fs, t, ho, hd, hq⟩
    have size : s.heap.objs.size ≤ h1.objs.size := Nat.le_trans ge (Nat.le_of_lt lt)
    have J2 := J.laid (t' := tk) (a := h1.objs.size) (h' := h1.push (lamO X ps b sc ((X.mg "__name__").getD .none) c' ct)) (o := fnH h1.objs.size (lamO X ps b sc ((X.mg "__name__").getD .none) c' ct)) (fun a o e => Heap.get?_push_of_some _ e) (Nat.le_refl _) (fnH_ok (Heap.get?_push_size _ rfl))
    have ncP : P ≠ c' := fun e => by
      rw [e, nc] at hP
      cases hP
    have grown : ∀ a o, a ≠ P → H a = some o → upd (upd H P (.tbl (tb ++ #[rawInt pos.line, rawInt pos.col, .ref c']))) c' (LamX.CodeO c' (lamN X)) a = some o := fun a o ha e => by
      have : a ≠ c' := fun z => by
        rw [z, nc] at e
        cases e
      rw [upd_ne this, upd_ne ha]
      exact e
    have tabP : upd (upd H P (.tbl (tb ++ #[rawInt pos.line, rawInt pos.col, .ref c']))) c' (LamX.CodeO c' (lamN X)) P = some (.tbl (tb ++ #[rawInt pos.line, rawInt pos.col, .ref c'])) := by rw [upd_ne ncP, upd_same]
    have el : (tb ++ #[rawInt pos.line, rawInt pos.col, Value.ref c']).toList = tb.toList ++ [rawInt pos.line, rawInt pos.col, .ref c'] := by simp
    have notP : ∀ {d : Addr} {q : Str}, H d = some (LamX.CodeO d q) → d ≠ P := fun {d q} e z => by
      rw [z, hP] at e
      exact LamX.codeO_ne _ (Option.some.inj e).symm
    have allT : LamX.Tabs T (upd (upd H P (.tbl (tb ++ #[rawInt pos.line, rawInt pos.col, .ref c']))) c' (LamX.CodeO c' (lamN X))) := by
      intro p hp
      by_cases hp1 : p.1 = P
      · rw [one p hp hp1, hp1]
        refine ⟨_, tabP, ?_, ?_⟩
        · rw [el]
          exact TriplesOk_snoc _ _ _ _ tri
        · intro pos' cv e
          rw [el] at e
          cases LamX.among_app _ tri e with
          | inl z =>
            obtain ⟨d, rfl, e2⟩ := am pos' cv z
            exact ⟨d, rfl, grown _ _ (notP e2) e2⟩
          | inr z => exact ⟨c', z, upd_same⟩
      · obtain ⟨q, a1, a2, a3⟩ := hT p hp
        refine ⟨q, grown _ _ hp1 a1, a2, fun pos' cv e => ?_⟩
        obtain ⟨d, e1, e2⟩ := a3 pos' cv e
        exact ⟨d, e1, grown _ _ (notP e2) e2⟩
    exact k _ c' _ ct _ _ J2 (J.hok.fresh (Nat.le_refl _)) grown ⟨_, tabP, allT _ inT, by rw [el]; exact codeAmong_snoc _ tri hit⟩ allT
end
/-- the context of a call of what was handed over: Z, of the def -/
abbrev cxH (X : Cx) (N : List Str) (q : Str) (sc : Scope) (g : Addr) (cd : Value) (s : Shared) (H : Hp) : Cx := cxOf (L2.CX X.prog X.w) X.prog X.w X.K X.mg X.base N q sc g cd X.A X.stack s H fun _ _ _ => False
section
variable {X : Cx} {σ : L2.St} {H : Hp} {s : Shared}
theorem pe_ask {P : Addr} {q : Array Value} {lpos : Pos} {Ng : List Str} {qg : Str} {sg : Scope} {g f c' : Addr} {cdg pm ct : Value} {ps : Arguments} {b : Expr} {sc : Scope} {k i : Nat} {a : Str} {pn : List (Addr × Obj)} {xe : Value → Shared → Prop} {W : WX} {E : XK} {tb : TE} {p1 p2 : Pos} {pins : List (Addr × Obj)}
    (I : L2.Inv X pins σ H s) (hP : H P = some (.tbl q)) (hq : codeAmong lpos q.toList = some (.ref c')) (tri : TriplesOk q.toList) (L : LamX.LamS X.env.scope sc) (hbind : bindArgs (PySem.W.kla_fn "<lambda>" (lamN X) ps b sc (lamC X sc) pm (.ref c') ct) ⟨[], []⟩ = pure [])
    (tk : Takes ((cxH X Ng qg sg g cdg s H).tr pn xe) W) (hW : ∀ cls d σ' H', E cls d H' → W cls d σ' H') (hr : Room (k + 1) (X.A.deeper (envOfC qg sg s.heap.objs.size g cdg))) (hg : X.A.guards = some [])
    (hbody : ∀ (A : Around) (outer : List Env) (s : Shared) (H : Hp), Room k (A.deeper (LamX.lamEnv X sc s.heap.objs.size f c')) → A.guards = some [] → PE (LamX.lamCx X A outer s H E sc f c') b tb)
    (hN : Ng[i]? = some a) (hv : Vis sg a) (hd : (a == ("__debug__" : Str)) = false := by decide) (hcd : (a == ("__classdict__" : Str)) = false := by decide) :
    PE ((cxH X Ng qg sg g cdg s H).tr pn xe) (.Call (.Name a p1) [] [] p2)
      (fun σZ HZ Q => σZ[i]? = some (some (.ref f)) ∧ HZ f = some (fnH f (lamO X ps b sc pm c' ct)) ∧ LamX.TabS HZ P (lamN X) ∧ tb σ HZ Q) := by
  constructor
  rintro pinsZ sZ σZ HZ Q IZ ⟨at_i, at_f, at_t, ht⟩
  apply wpAny_Call_Name_kw
  refine thn ((pe_var (pos := p1) (i := i) hN hv hd hcd).run pinsZ sZ σZ HZ (fun v H1 => v = .ref f ∧ H1 = HZ) IZ ⟨.ref f, at_i, rfl, rfl⟩) ?_
  rintro u s1 ⟨v, H1, I1, rv, rfl, rfl⟩
  obtain rfl : u = Value.ref f := rv
  have obj := fnH_at I1.hok at_f
  apply PySem.W.callWith_F0 ⟨_, _, _, _, obj⟩
  have un : Un (frs X.stack) [] H H1 s.heap s1.heap := I1.base
  obtain ⟨oc, fs, t, e1, e2, e3⟩ : ∃ oc fs t, s1.heap.get? c' = some oc ∧ oc.data = .fields fs ∧ fs[1]? = some (Value.str (lamN X) t) := by
    obtain ⟨ps', z1, z2, z3⟩ := at_t
    obtain ⟨more, z4⟩ := un.tbls P q hP
    rw [z4] at z1
    cases z1
    obtain ⟨d, y1, y2⟩ := z3 lpos (.ref c') (by rw [Array.toList_append]; exact among_more _ _ tri hq)
    cases y1
    exact (I1.hok c' _ y2).1
  have run : codeAny (model X.prog X.w) (X.A.deeper (envOfC qg sg s.heap.objs.size g cdg)) (.call (.ref f) ⟨[], []⟩) (CR (L2.CX X.prog X.w) (envOfC qg sg s.heap.objs.size g cdg :: X.stack) X.prog X.w H1 s1 Q E) s1 := by
    apply PySem.W.kla_callFunE hr.depth obj rfl L.co L.gen rfl ⟨c', oc, fs, t, rfl, e1, e2, e3⟩
    rw [hbind]
    apply wpAny_pure
    refine wpAny_newFunctionEnv (fun y hy => (L.own y hy).2) (fun y hy => nomatch hy) ?_ L.kind
    intro h1 hns but
    refine ⟨I1.nolimit.fresh _ but, ?_⟩
    have keep : ∀ a o, s1.heap.get? a = some o → h1.get? a = some o := fun a o e => but.extBut a o (Nat.ne_of_lt (Heap.lt_size e)) (Heap.get?_push_of_some _ e)
    have J := LamX.lam_start2 (tk := s1.toks + ([] : List (Str × Value)).length) (f := f) (c' := c') (E := E) (outer := envOfC qg sg s.heap.objs.size g cdg :: X.stack) I L I1.env0 hr.hd un hns keep
    apply PySem.W.kla_codeExpr
    refine wpAny_mono ((hbody _ _ s1 H1 (hr.deeper _) hg).run [] _ _ H1 Q J ht) ?_ fun e s' z => z
    rintro v s' ⟨w', H', J', r, q⟩
    exact ⟨w', H', J'.os, J'.bare, J'.base, J'.hok, r, q⟩
  apply wpAny_call
  refine codeAny_mono run ?_
  rintro (e | fl) s' hq
  · exact passes_call tk hW pinsZ σZ H1 s1 e s' I1 hq
  · cases fl with
    | ret u => exact I1.after hq
    | next => exact hq.elim
    | brk => exact hq.elim
    | cont => exact hq.elim
end
/-! ### over data -/
/-- a function in the store: its number, where it lies, what it is -/
structure Fnk where
  n : Nat
  f : Addr
  o : Obj
/-- how a call of it goes on: what is wished of exceptions, of the value -/
abbrev AskD := XD → Store → QD → Prop
/-- a() in the def: a is the κ that was handed over -/
def eAsk (tl : AskD) (ED : XD) (κ : Fnk) : TD := fun ρ S Q => ρ[0]? = some (some (.ref κ.n)) ∧ S[κ.n]? = some (some (.fn κ.f κ.o)) ∧ tl ED S Q
/-- x(lambda: e): e read by te, the def's body by bh -/
def eHear (n : Nat) (bh : AskD → Fnk → TSd) (te : XD → TD) : TD := fun ρ S Q => ∀ κ : Fnk, κ.n = S.length → bh (fun ED S' Q' => te ED ρ S' Q') κ { nx := fun _ S' => Q .non S', rt := Q } (startD n [.ref S.length]) (S ++ [some (.fn κ.f κ.o)])
/-- the def at g: its body, told of what a() comes to -/
def HearOk (P : Program) (w : World) (K : PySem.W.Frag) (mg : Str → Option Value) (base : Heap) (T : List (Addr × Str)) (k : Nat) (g : Addr) (qual : Str) (N : List Str) (st : Stmt) (a : Str) (bh : AskD → Fnk → TSd) : Prop :=
  ∀ (cdv : Value) (A : Around) (outer : List Env) (s : Shared) (H : Hp) (L : List W0) (κ : Fnk) (tl : AskD), Room k (A.deeper (envOfC qual (defScope st) s.heap.objs.size g cdv)) → A.guards = some [] →
    (∀ (w0 : W0) (ED : XD) (pn : List (Addr × Obj)) (xe : Value → Shared → Prop) (p1 p2 : Pos), Takes ((cxOf (L2.CX P w) P w K mg base N qual (defScope st) g cdv A outer s H fun _ _ _ => False).tr pn xe) (fun cls d _ H => WD K T w0 ED cls d H) →
      PE ((cxOf (L2.CX P w) P w K mg base N qual (defScope st) g cdv A outer s H fun _ _ _ => False).tr pn xe) (.Call (.Name a p1) [] [] p2) (tE K ⟨w0 :: L, T⟩ (eAsk tl ED κ))) →
    PSs (cxOf (L2.CX P w) P w K mg base N qual (defScope st) g cdv A outer s H fun _ _ _ => False) (defBody st) (tS K ⟨L, T⟩ (bh tl κ))
theorem Ok.tabled {K : PySem.W.Frag} {G : Gh} {Y β : List Addr} {S : Store} {H H1 : Hp} {P : Addr} {q : Str} (o : Ok K G Y β S H) (inT : (P, q) ∈ G.T) (keep : ∀ a u, a ≠ P → H a = some u → H1 a = some u) (tab : ∃ ps, H1 P = some (.tbl ps)) (all : LamX.Tabs G.T H1) : Step K G Y β S H β S H1 := by
  obtain ⟨ps, hP, _, _⟩ := o.tb.tabs _ inT
  have hY : P ∈ Y := o.tb.hid _ inT
  have tr : ∀ a, H a ≠ none → H1 a ≠ none := fun a h => by
    by_cases e : a = P
    · subst e
      obtain ⟨ps', h'⟩ := tab
      rw [h']
      simp
    · cases h2 : H a with
      | none => exact (h h2).elim
      | some u =>
        rw [keep a u e h2]
        simp
  have same : ∀ a, a ≠ P → H a ≠ none → H1 a = H a := fun a e h => by
    cases h2 : H a with
    | none => exact (h h2).elim
    | some u => rw [keep a u e h2]
  have ex : Ex (hid Y β S H) (hid Y β S H1) := fun a u h => by
    unfold hid at h ⊢
    split at h
    · cases h
    · rename_i hn
      rw [if_neg hn]
      exact keep a u (fun e => hn (.inl (e ▸ hY))) h
  have ext : ∀ a ∈ Y, Kept H H1 a := fun a ha => by
    by_cases e : a = P
    · subst e
      exact .inr ⟨⟨ps, hP⟩, tab⟩
    · exact .inl (same a e (o.xtrk a ha))
  refine ⟨.refl _, ex, ext, tr, ⟨o.len, o.nd, o.out, fun a ha => tr a (o.trk a ha), fun a ha => tr a (o.xtrk a ha), fun n so e => ?_, fun w hw => (o.gh w hw).on (.refl _) ex ext tr, ⟨all, o.tb.hid⟩⟩⟩
  obtain ⟨a, e1, r⟩ := o.obj n so e
  exact ⟨a, e1, r.keep ex (.refl _) (same a fun z => o.out a (List.mem_of_getElem? e1) (z ▸ hY))⟩
theorem de_hear {X : Cx} {G : Gh} {k : Nat} {x a qual : Str} {g c P : Addr} {fd : FuncData} {st : Stmt} {N : List Str} {bh : AskD → Fnk → TSd} {te : XD → TD} {ps : Arguments} {b : Expr} {sc : Scope} {p lpos pos : Pos}
    (F : Fun X.K x qual st g fd) (Sc : FnScope N [a] (defScope st)) (hb : L2.Binds X.K fd [a] []) (hm : X.mg x = some (.ref g)) (hk : PySem.W.keepIn X.K (.ref g) = true) (hh : HearOk X.prog X.w X.K X.mg X.base G.T (k + 1) g qual N st a bh)
    (B : LamX.TabB X.base X.mg c P) (hc : X.env.code = .ref c) (inT : (P, lamN X) ∈ G.T) (one : ∀ p ∈ G.T, p.1 = P → p.2 = lamN X) (hr : Room (k + 2) X.A) (hgd : X.A.guards = some []) (L : LamX.LamS X.env.scope sc) (nd : defaultsOf ps X.env = ([], []))
    (hbind : ∀ (q : Str) (cl : List (Str × Addr)) (pm cv ct : Value), bindArgs (PySem.W.kla_fn "<lambda>" q ps b sc cl pm cv ct) ⟨[], []⟩ = pure []) (hN : N[0]? = some a) (hv : Vis (defScope st) a)
    (hbody : ∀ (A : Around) (outer : List Env) (s : Shared) (H : Hp) (E : XK) (f c' : Addr) (w0 : W0) (L : List W0) (ED : XD), Room k (A.deeper (LamX.lamEnv X sc s.heap.objs.size f c')) → A.guards = some [] →
      Takes (LamX.lamCx X A outer s H E sc f c') (fun cls d _ H => WD X.K G.T w0 ED cls d H) → PE (LamX.lamCx X A outer s H E sc f c') b (tE X.K ⟨w0 :: L, G.T⟩ (te ED)))
    (hg : Gl X x := by rfl) (hdb : (x == ("__debug__" : Str)) = false := by decide) (hd : (a == ("__debug__" : Str)) = false := by decide) (hcd : (a == ("__classdict__" : Str)) = false := by decide) :
    PE X (.Call (.Name x p) [.Lambda ps b sc lpos] [] pos) (tE X.K G (eHear N.length bh te)) := by
  obtain ⟨oc, od, kV, doc, pm, an, cdv, ct, osl, rfl, lk, hcode⟩ := F.ex
  constructor
  rintro pins s σ H Q I ⟨Y, β, S, ρ, Q', rl, q, kk⟩
  apply wpAny_Call_Name_kw
  refine ld_glob I hg hm ?_ hdb
  apply PySem.W.callWith_K (h₀ := X.base) I.ok.mod.kin hk _ rfl rfl
  refine Calls.spliced_cons (lam_made I B hc inT one rl.ok.tb.tabs nd (L.has I.ok) ?_)
  intro f c' pm' ct' H1 s' I1 hf keep ⟨tb, tabP, tabs, hit⟩ T1
  refine Calls.spliced_nil ⟨I1.kIn, ?_⟩
  have s1 := rl.ok.tabled inT keep ⟨tb, tabP⟩ T1
  have s2 := s1.ok.alloc' (p := f) (ob := fnH f (lamO X ps b sc pm' c' ct')) (so := .fn f (lamO X ps b sc pm' c' ct')) hf fun _ _ _ _ => ⟨rfl, upd_same⟩
  have s12 := s1.trans s2
  have rl2 := rl.step s12
  have tri : TriplesOk tb.toList := by
    obtain ⟨tb', e1, e2, _⟩ := tabs
    rw [tabP] at e1
    cases e1
    exact e2
  have tabP2 : upd H1 f (fnH f (lamO X ps b sc pm' c' ct')) P = some (.tbl tb) := by
    rw [upd_ne, tabP]
    rintro rfl
    rw [hf] at tabP
    cases tabP
  have n0 : (β ++ [f])[S.length]? = some f := by
    rw [← rl.ok.len, List.getElem?_append_right (Nat.le_refl _), Nat.sub_self]
    rfl
  have hrun : codeAny (model X.prog X.w) X.A (.call (.ref g) ⟨[.ref f], []⟩) (CR (L2.CX X.prog X.w) X.stack X.prog X.w (upd H1 f (fnH f (lamO X ps b sc pm' c' ct'))) s' Q fun _ _ _ => False) s' := by
    have bnd := hb s' [.ref f] I1.kIn rfl
    apply codeAny_call_function hr.depth (I1.kIn _ _ lk) rfl Sc.co Sc.gen rfl (PySem.W.codeRec_of I1.kIn hcode)
    apply bnd
    refine wpAny_newFunctionEnv_cells Sc.kind (fun y hy => ?_) ?_
    · rcases Sc.par y.1 (List.of_mem_zip (show (y.1, y.2) ∈ [a].zip [Value.ref f] from hy)).1 with z | z
      · exact .inl z
      · exact .inr ⟨z, PySem.W.cellsFrom_some _ _ _ (.inl z)⟩
    rintro env rfl s3 inc
    refine ⟨I1.nolimit.keeps inc.toInCall.keep, codeAny_func ?_⟩
    have J := inv_start (CX := L2.CX X.prog X.w) (E := fun _ _ _ => False) (f := g) (cd := cdv) (qual := qual) (vs := [V.ref f]) Sc hr.hd I1.env0 rfl (.cons rfl .nil) inc
    let κ : Fnk := ⟨S.length, f, lamO X ps b sc pm' c' ct'⟩
    have w1 := s12.ok.free.mind
    have body := hh cdv X.A X.stack s' (upd H1 f (fnH f (lamO X ps b sc pm' c' ct'))) [⟨Y, β ++ [f], S ++ [some (.fn f (lamO X ps b sc pm' c' ct'))], upd H1 f (fnH f (lamO X ps b sc pm' c' ct'))⟩] κ (fun ED S' Q' => te ED ρ S' Q') (hr.deeper _) hgd ?_
    · have go := body.run [] s3 (L2.start N [V.ref f]) (upd H1 f (fnH f (lamO X ps b sc pm' c' ct'))) { nx := fun _ H' => Q .non H', rt := Q } J ⟨Y, _, _, _, _, start_rel w1 (.cons (.ref n0) .nil), q κ rfl, ⟨fun ρ' S' σ' β' H' st' r' q' => kk .non S' .non β' H' (s12.trans (st'.free.back s12.ok)) .non q', fun d S' v β' H' st' r' q' => kk d S' v β' H' (s12.trans (st'.free.back s12.ok)) r' q', fun _ _ _ _ _ _ _ z => z.elim, fun _ _ _ _ _ _ _ z => z.elim⟩⟩
      refine wpAny_mono go ?_ fun e s' z => z
      rintro fl s4 hs
      cases fl with
      | ret u =>
        obtain ⟨v, σ', H', J', rv, q'⟩ := hs
        exact ⟨v, H', J'.os, J'.bare, J'.base, J'.hok, rv, q'⟩
      | next =>
        obtain ⟨σ', H', J', q'⟩ := hs
        exact ⟨.non, H', J'.os, J'.bare, J'.base, J'.hok, rfl, q'⟩
      | brk => exact (hs.choose_spec.choose_spec.2).elim
      | cont => exact (hs.choose_spec.choose_spec.2).elim
    · intro w0 ED pn xe p1 p2 tk
      refine (pe_ask (E := fun cls d H => WD X.K G.T w0 ED cls d H) (i := 0) (pm := pm') (ct := ct') I1 tabP2 hit tri L (hbind _ _ _ _ _) tk (fun _ _ _ _ h => h) (hr.deeper _) hgd (fun A outer s5 H5 room gd => hbody A outer s5 H5 _ f c' w0 [⟨Y, β ++ [f], S ++ [some (.fn f (lamO X ps b sc pm' c' ct'))], upd H1 f (fnH f (lamO X ps b sc pm' c' ct'))⟩] ED room gd (takes_of rfl rfl rfl rfl)) hN hv hd hcd).imp ?_
      rintro σZ HZ QZ ⟨YZ, βZ, SZ, ρZ, Q2, rZ, ⟨e1, e2, q2⟩, kZ⟩
      obtain ⟨v, ev, rv⟩ := rZ.get 0 _ e1
      obtain ⟨b', eb, rfl, hfn⟩ := rZ.ok.obj _ _ e2
      have ev' : v = .ref b' := by
        cases rv with
        | ref h =>
          rw [eb] at h
          cases h
          rfl
      refine ⟨by rw [ev, ev'], hfn, rZ.ok.tb.tabs _ inT, YZ, βZ, SZ, ρ, Q2, ⟨rZ.ok, rl2.len, fun i d e => ?_⟩, q2, kZ⟩
      obtain ⟨v2, ev2, rv2⟩ := rl2.get i d e
      have sn := rZ.ok.gh _ (List.mem_cons_of_mem _ (List.mem_cons_self ..))
      exact ⟨v2, ev2, rv2.mono sn.ex sn.pre⟩
  refine wpAny_call (codeAny_mono hrun ?_)
  rintro (e | fl) s4 hq
  · obtain ⟨_, _, _, _, _, _, _, _, _, _, _, _, z⟩ := hq
    exact z.elim
  · cases fl with
    | ret u => exact I1.after hq
    | next => exact hq.elim
    | brk => exact hq.elim
    | cont => exact hq.elim
end NC

set_option Elab.async false
set_option linter.all false
set_option maxRecDepth 100000
set_option maxHeartbeats 4000000
/-! NC17: a caught exception asked: of its class, of a field. -/
namespace NC
open PySem PySem.Spec PyProof.Rows L2
open Evl (Ex)

section
open PySem.Calls
variable {prog : Program} {w : World} {A : Around} {E : Value → Shared → Prop} {s : Shared} {K : PySem.W.Frag} {x D : Addr} {ox : Obj} {od : Option Obj}
theorem classFound (T : L2.ExcC K D) : PySem.W.findObj K D od "__class__" = some (.bind (.builtin "getset_descriptor.__get__") (.builtin "object.__class__")) := by
  obtain ⟨cd, known, _⟩ := PySem.W.any_some T.hd
  simp [PySem.W.findObj, known, T.ha, T.hn, T.ht]
/-- e.__class__ of an exception that may have a dict -/
theorem classAsked {Q : Option Value → Shared → Prop} (T : L2.ExcC K D) (kin : K.In s.heap) (J : PySem.W.InstAt s.heap x ox D od) (k : Q (some (.ref D)) { s with toks := s.toks + 1 }) : wpAny (model prog w) A (getAttr? (.ref x) "__class__") Q E s := by
  rcases s with ⟨hp, gs, dr, tk, os⟩
  have ofType := J.type (M := model prog w)
  have isExc : PySem.W.Looks (model prog w) hp (isInstance (.ref x) (.type "BaseException")) true := by
    exact ofType.andThen (PySem.W.looks_subIn kin T.hs)
  have other : (Value.builtin "BaseException.__getattribute__" == Value.builtin "object.__getattribute__") = false := by decide +kernel
  have plain : ¬ ((onTheHeap (Value.ref D) && Value.builtin "BaseException.__getattribute__" == Value.builtin "object.__getattribute__") = true) := by
    rw [other]
    exact Bool.false_ne_true
  unfold getAttr? getAttrBy? getAttrBy
  apply wpAny_bind
  apply wpAny_mkText
  apply wpAny_bind
  apply wpAny_attempt
  apply wpAny_holding
  apply wpAny_bind
  refine ofType.at ?_
  apply wpAny_bind
  refine (PySem.W.looks_findIn (M := model prog w) kin T.hg).at ?_
  show wpAny _ _ (if (onTheHeap (Value.ref D) && Value.builtin "BaseException.__getattribute__" == Value.builtin "object.__getattribute__") = true then _ else _) _ _ _
  rw [if_neg plain]
  unfold getAttrByItsOwn
  unfold hookBefore
  apply wpAny_bind
  have heaped : onTheHeap (Value.ref D) = true := rfl
  rw [if_pos heaped]
  refine (PySem.W.looks_findIn (M := model prog w) kin T.hk).at ?_
  apply wpAny_bind
  apply wpAny_attempt
  apply wpAny_holding
  unfold callGetattribute
  rw [if_neg (show ¬ ((false && onTheHeap (Value.builtin "BaseException.__getattribute__")) = true) from Bool.false_ne_true)]
  unfold boundAndCalled
  rw [F.excAttr_ValueError.ga.bind (.ref x)]
  apply wpAny_bind
  apply wpAny_pure
  show wpAny _ _ (call (.builtin "BaseException.__getattribute__") [.ref x, .str "__class__" tk]) _ _ _
  apply wpAny_call
  apply codeAny_call_builtin F.excAttr_ValueError.ga.plain F.entry_bexc_ga
  refine @PySem.W.check_slot (model prog w) _ _ ⟨hp, gs, dr, tk + 1, os⟩ "BaseException.__getattribute__" "BaseException" "__getattribute__" (.ref x) [.str "__class__" tk] [] _ (by decide +kernel) (by decide +kernel) isExc (F.args_bexc_ga (.ref x) (.str "__class__" tk)) ?_
  unfold Builtin.«object.__getattribute__»
  apply wpAny_bind
  refine wpAny_of_eq (a := ((Value.ref x : Value), [Value.str "__class__" tk])) (by first | rfl | (simp only [slotArgs]; rfl)) ?_
  apply wpAny_bind
  apply wpAny_pure
  apply wpAny_bind
  refine ofType.at ?_
  apply wpAny_bind
  refine (PySem.W.looks_find (M := model prog w) kin J (classFound T)).at ?_
  show wpAny _ _ (holding [Value.builtin "object.__class__"] (call (.builtin "getset_descriptor.__get__") [.builtin "object.__class__", .ref x, .ref D]) >>= ret) _ _ _
  apply wpAny_bind
  apply wpAny_holding
  apply wpAny_call
  refine PySem.W.class_get (s := ⟨hp, gs, dr, tk + 1, os⟩) (ox := ox) (od := od) kin J T.hm ?_
  apply wpAny_pure
  show wpAny _ _ (handedOut (.ref D)) _ _ _
  rw [PySem.W.handedOut_of (show PySem.W.handedIn (.ref D) = true from rfl)]
  first
    | exact wpAny_pure (wpAny_pure k)
    | exact wpAny_pure k
    | exact wpAny_pure (wpAny_bind (wpAny_pure (wpAny_pure k)))
theorem kit_exc (T : L2.ExcC K D) : PySem.W.KitX K (.ref x) (.ref D) (fun h => ∃ ox od, PySem.W.InstAt h x ox D od) where
  ty := fun _ _ _ ⟨_, _, J⟩ => J.type
  it := fun _ _ kin _ => by
    obtain ⟨cd, known, _⟩ := PySem.W.any_some T.hd
    unfold PySem.W.clsIn at known
    split at known
    case h_1 found =>
      intro A' Q' E' s' k q
      unfold isType
      unfold loadHead
      apply wpAny_bind
      exact wpAny_loadPart (k _ _ (kin _ _ found)) (wpAny_pure q)
    case h_2 => cases known
  ne := fun h tp dd its n sl kin there => by
    obtain ⟨cd, known, _⟩ := PySem.W.any_some T.hd
    unfold PySem.W.clsIn at known
    split at known
    case h_1 found =>
      rw [Bool.eq_false_iff]
      intro q
      have e := Value.ref.inj (beq_iff_eq.mp q)
      rw [← e] at there
      cases (kin _ _ found).symm.trans there
    case h_2 => cases known
  ca := fun kin ⟨_, _, J⟩ k => classAsked T kin J k
end
/-- a caught exception as the rules of instances know it -/
theorem exc_at {P : Program} {w : World} {H : Hp} {h : Heap} {a C dd : Addr} {fs : List (Str × V)} (hok : HOk P w H h) (e : H a = some (excH a C dd)) (ed : H dd = some (.xd fs)) :
    ∃ (ox : Obj) (od : Obj) (mA : Str → Option Value), PySem.W.InstAt h a ox C (some od) ∧ (∀ f, PySem.W.lookIn f od = some (mA f)) ∧ ∀ f, RelO (fs.lookup f) (mA f) := by
  have z : ObjOk P w H h a (.ext fun h => ∃ (o : Obj) (vs : Array Value), h.get? a = some o ∧ o.cls = .ref C ∧ o.dict = some dd ∧ o.data = .fields vs) := hok a _ e
  obtain ⟨o, vs, e1, e2, e3, e4⟩ := z.1
  have x : ObjOk P w H h dd (.xd fs) := hok dd _ ed
  obtain ⟨mA, ns, r⟩ := x
  obtain ⟨od, ho, hl⟩ := lookIn_ns ns
  exact ⟨o, od, mA, ⟨e1, e2, by unfold PySem.W.notCls; rw [e4] <;> rfl, by rw [e3]; exact ho⟩, hl, r⟩
/-! isinstance(x, C) of an own class: x is None, a plain value or a caught exception -/
def xis (K : PySem.W.Frag) (S : Store) (x : D) (C : Addr) : Option Bool := match x with
  | .ref n => match S[n]? with
    | some (some (.exc D _)) => PySem.W.kitOne K (.ref D) (.ref C)
    | _ => none
  | .non => PySem.W.kitOne K (.type "NoneType") (.ref C)
  | _ => none
def eIsX (K : PySem.W.Frag) (C : Addr) (ta : TD) : TD := fun ρ S Q => ta ρ S fun x S1 => (∀ n D es, x = .ref n → S1[n]? = some (some (.exc D es)) → L2.ExcC K D) ∧ ∃ b, xis K S1 x C = some b ∧ Q (.bl b) S1
/-- the values that isinstance is asked of here -/
def rIsX (K : PySem.W.Frag) (C : Addr) : List V → Hp → VK → Prop := fun xs H Q => ∃ (x : V) (b : Bool), xs = [x, .ref C] ∧ Q (.bl b) H ∧
  ((x = .non ∧ PySem.W.kitOne K (.type "NoneType") (.ref C) = some b) ∨ ∃ a D dd fs, x = .ref a ∧ H a = some (excH a D dd) ∧ H dd = some (.xd fs) ∧ L2.ExcC K D ∧ PySem.W.kitOne K (.ref D) (.ref C) = some b)
theorem call_isx {X : Cx} {C : Addr} : CallR X (.builtin "isinstance") (rIsX X.K C) := by
  intro pins s σ H xs us Q I r h
  obtain ⟨x, b, rfl, q, h⟩ := h
  obtain ⟨u1, u2, rfl, r1, r2⟩ := vals2 r
  cases (show u2 = Value.ref C from r2)
  rcases h with ⟨rfl, e⟩ | ⟨a, D, dd, fs, rfl, ha, hd, T, e⟩
  · obtain ⟨P, Z, p, hx⟩ := kit_of I r1 (.base .non)
    exact PySem.W.kia_one Z I.kIn p e hx fun tk => ⟨.bl b, H, I.tok tk, rfl, q⟩
  · cases (show u1 = Value.ref a from r1)
    obtain ⟨ox, od, mA, J, _⟩ := exc_at I.hok ha hd
    exact PySem.W.kia_one (kit_exc T) I.kIn ⟨ox, _, J⟩ e (fun z => nomatch z) fun tk => ⟨.bl b, H, I.tok tk, rfl, q⟩
theorem de_isx {X : Cx} {G : Gh} {C : Addr} {e : Expr} {ta : TD} (h : PE X e (tCB (rIsX X.K C) (tCons (tE X.K G ta) (tCons (tC (.ref C)) tNil)))) : PE X e (tE X.K G (eIsX X.K C ta)) := h.imp fun σ H Q ⟨Y, β, S, ρ, Q', rl, q, k⟩ => ⟨Y, β, S, ρ, _, rl, q, fun x S1 v β1 H1 s1 r1 ⟨tx, b, hb, q1⟩ => by
  refine ⟨v, b, rfl, k _ S1 _ β1 H1 s1 (.bl _) q1, ?_⟩
  cases x with
  | non =>
    cases r1
    exact .inl ⟨rfl, hb⟩
  | ref n =>
    unfold xis at hb
    dsimp only at hb
    split at hb
    · rename_i D es hs
      obtain ⟨a, e1, dd, fs, e2, e3, _⟩ := s1.ok.obj n _ hs
      cases r1 with
      | ref z =>
        rw [e1] at z
        cases z
        exact .inr ⟨a, D, dd, fs, rfl, e2, hid_ex _ _ e3, tx n D es rfl hs, hb⟩
    · cases hb
  | _ => cases hb⟩
/-! x.f of a caught exception -/
def eFld (K : PySem.W.Frag) (f : Str) (ta : TD) : TD := fun ρ S Q => ta ρ S fun x S1 => ∃ n C es d, x = .ref n ∧ S1[n]? = some (some (.exc C es)) ∧ XfC K C ∧ PySem.W.findIn K (.ref C) f = some none ∧ es.lookup f = some d ∧ Q d S1
theorem de_fld {X : Cx} {G : Gh} {f : Str} {e : Expr} {ta : TD} {pos : Pos} (he : PE X e (tE X.K G ta)) (hb : attributeBase e f X.env (eval e X.env) = eval e X.env := by rfl) : PE X (.Attribute e f pos) (tE X.K G (eFld X.K f ta)) := by
  constructor
  rintro pins s σ H Q I ⟨Y, β, S, ρ, Q', rl, q, k⟩
  refine attr_of hb (thn (he.run pins s σ H (fun v H1 => ∃ S1 β1 d, Step X.K G Y β S H β1 S1 H1 ∧ Rep X.K (hid Y β1 S1 H1) β1 v d ∧ ∃ n C es d', d = .ref n ∧ S1[n]? = some (some (.exc C es)) ∧ XfC X.K C ∧ PySem.W.findIn X.K (.ref C) f = some none ∧ es.lookup f = some d' ∧ Q' d' S1) I ⟨Y, β, S, ρ, _, rl, q, fun d S' v β' H' st r q' => ⟨S', β', d, st, r, q'⟩⟩) ?_)
  rintro u s1 ⟨v, H1, I1, rv, S1, β1, d, st, r, n, C, es, d', rfl, hs, T, no, l, q'⟩
  obtain ⟨a, e1, dd, fs, e2, e3, rf⟩ := st.ok.obj n _ hs
  have ev : v = .ref a := by
    cases r with
    | ref z =>
      rw [e1] at z
      cases z
      rfl
  subst ev
  cases (show u = Value.ref a from rv)
  obtain ⟨ox, od, mA, J, look, rel⟩ := exc_at I1.hok e2 (hid_ex _ _ e3)
  obtain ⟨v', l', r'⟩ := rf.look l
  obtain ⟨u', hu, ru⟩ := RelO.some_of (v := v') (o := mA f) (by rw [← l']; exact rel f)
  exact HandSPX.exc_get I1.kIn J T.ga T.gg T.exC (PySem.W.findObj_own T.hdC no rfl (by rw [look, hu])) (handed_of ru) ⟨v', H1, I1.tok _, ru, k d' S1 v' β1 H1 st r' q'⟩
end NC

set_option Elab.async false
set_option linter.all false
set_option maxRecDepth 100000
set_option maxHeartbeats 4000000
/-! NC18: an own class of errors whose __init__ tells super().__init__ a text with the class's name. -/
namespace NC
open PySem PySem.Spec PyProof.Rows L2
open Evl (Ex)

section
open PySem.Calls
variable {prog : Program} {w : World} {A : Around} {E : Value → Shared → Prop} {s : Shared} {K : PySem.W.Frag} {x D : Addr} {ox : Obj} {od : Option Obj}
/-- e.__class__, told -/
theorem classGot {ex : Bool} {Q : Value → Shared → Prop} (T : L2.ExcC K D) (kin : K.In s.heap) (J : PySem.W.InstAt s.heap x ox D od) (k : Q (.ref D) { s with toks := s.toks + 1 }) : wpAny (model prog w) A (getAttr (.ref x) "__class__" ex) Q E s := by
  rcases s with ⟨hp, gs, dr, tk, os⟩
  have ofType := J.type (M := model prog w)
  have isExc : PySem.W.Looks (model prog w) hp (isInstance (.ref x) (.type "BaseException")) true := by
    exact ofType.andThen (PySem.W.looks_subIn kin T.hs)
  have other : (Value.builtin "BaseException.__getattribute__" == Value.builtin "object.__getattribute__") = false := by decide +kernel
  have plain : ¬ ((onTheHeap (Value.ref D) && Value.builtin "BaseException.__getattribute__" == Value.builtin "object.__getattribute__") = true) := by
    rw [other]
    exact Bool.false_ne_true
  have plain2 : ¬ ((ex && onTheHeap (Value.builtin "BaseException.__getattribute__")) = true) := by
    cases ex <;> exact Bool.false_ne_true
  unfold getAttr getAttrBy
  apply wpAny_bind
  apply wpAny_mkText
  apply wpAny_holding
  apply wpAny_bind
  refine ofType.at ?_
  apply wpAny_bind
  refine (PySem.W.looks_findIn (M := model prog w) kin T.hg).at ?_
  show wpAny _ _ (if (onTheHeap (Value.ref D) && Value.builtin "BaseException.__getattribute__" == Value.builtin "object.__getattribute__") = true then _ else _) _ _ _
  rw [if_neg plain]
  unfold getAttrByItsOwn
  unfold hookBefore
  apply wpAny_bind
  have heaped : onTheHeap (Value.ref D) = true := rfl
  rw [if_pos heaped]
  refine (PySem.W.looks_findIn (M := model prog w) kin T.hk).at ?_
  apply wpAny_bind
  apply wpAny_attempt
  apply wpAny_holding
  unfold callGetattribute
  rw [if_neg plain2]
  unfold boundAndCalled
  rw [F.excAttr_ValueError.ga.bind (.ref x)]
  apply wpAny_bind
  apply wpAny_pure
  show wpAny _ _ (call (.builtin "BaseException.__getattribute__") [.ref x, .str "__class__" tk]) _ _ _
  apply wpAny_call
  apply codeAny_call_builtin F.excAttr_ValueError.ga.plain F.entry_bexc_ga
  refine @PySem.W.check_slot (model prog w) _ _ ⟨hp, gs, dr, tk + 1, os⟩ "BaseException.__getattribute__" "BaseException" "__getattribute__" (.ref x) [.str "__class__" tk] [] _ (by decide +kernel) (by decide +kernel) isExc (F.args_bexc_ga (.ref x) (.str "__class__" tk)) ?_
  unfold Builtin.«object.__getattribute__»
  apply wpAny_bind
  refine wpAny_of_eq (a := ((Value.ref x : Value), [Value.str "__class__" tk])) (by first | rfl | (simp only [slotArgs]; rfl)) ?_
  apply wpAny_bind
  apply wpAny_pure
  apply wpAny_bind
  refine ofType.at ?_
  apply wpAny_bind
  refine (PySem.W.looks_find (M := model prog w) kin J (classFound T)).at ?_
  show wpAny _ _ (holding [Value.builtin "object.__class__"] (call (.builtin "getset_descriptor.__get__") [.builtin "object.__class__", .ref x, .ref D]) >>= ret) _ _ _
  apply wpAny_bind
  apply wpAny_holding
  apply wpAny_call
  refine PySem.W.class_get (s := ⟨hp, gs, dr, tk + 1, os⟩) (ox := ox) (od := od) kin J T.hm ?_
  apply wpAny_pure
  show wpAny _ _ (handedOut (.ref D)) _ _ _
  rw [PySem.W.handedOut_of (show PySem.W.handedIn (.ref D) = true from rfl)]
  first
    | exact wpAny_pure (wpAny_pure k)
    | exact wpAny_pure k
    | exact wpAny_pure (wpAny_bind (wpAny_pure (wpAny_pure k)))
/-- what an own class must have for its name to be told -/
structure NameC (K : PySem.W.Frag) (C : Addr) (nm : Str) : Prop where
  reads : PySem.W.readsIn K C (.type "type") = true
  found : PySem.W.findCls K (.ref C) (.type "type") "__name__" = some (.get (.builtin "getset_descriptor.__get__") (.builtin "type.__name__") (.ref C) (.type "type"))
  kept : ∃ o t, K.lookup C = some o ∧ o.slots[2]? = some (some (.str nm t))
set_option maxHeartbeats 400000 in
open Builtin Builtin.ObjectAttr Builtin.Getset_descriptor in
theorem nameGet {C : Addr} {nm : Str} {tp : Value} {R : Result → Shared → Prop} (N : NameC K C nm) (kin : K.In s.heap) (h : ∀ t, R (.ok (.ret (.str nm t))) s) :
    codeAny (model prog w) A (.call (.builtin "getset_descriptor.__get__") ⟨[.builtin "type.__name__", .ref C, tp], []⟩) R s := by
  obtain ⟨o, t, known, sl⟩ := N.kept
  have r1 := N.reads
  simp only [PySem.W.readsIn, Bool.and_eq_true, beq_iff_eq] at r1
  obtain ⟨⟨⟨⟨_, ty⟩, _⟩, _⟩, _⟩ := r1
  rcases s with ⟨hp, gs, dr, tk, os⟩
  have L0 : PySem.W.Looks (model prog w) hp (typeOf (.ref C)) (.type "type") := PySem.W.looks_typeIn kin ty
  have L1 : PySem.W.Looks (model prog w) hp (isSubtype (.type "type") (.type "type")) true := PySem.W.Looks.of_pure (by rw [isSubtype_type]; kernel_rfl)
  have ho : hp.get? C = some o := kin _ _ known
  refine codeAny_call_builtin PySem.W.KF.slot_gs.plain PySem.W.KF.entry_gs (PySem.W.KF.slot_gs.check _ _ _ _ _ _ _ _ PySem.W.ktyn_type (PySem.W.KF.args_gs _ _ _) ?_)
  unfold Builtin.«getset_descriptor.__get__»
  unfold descrGet
  rw [PySem.W.dga_obj]
  apply wpAny_bind
  apply wpAny_pure
  unfold descrGetter descrCheckInstance
  unfold descrNameAndClass isInstance
  simp only [PySem.W.ktyn_owner]
  repeat lk
  constructor
  · exact Code.quiet_builtin _ (by decide +kernel)
  apply codeAny_builtin PySem.W.ktyn_entry
  unfold Builtin.«type.__name__»
  unfold Builtin.keptObject
  unfold PySem.slotAt
  dsimp only
  refine wpAny_bind (wpAny_bind (wpAny_loadPart ho (wpAny_pure ?_)))
  rw [sl]
  exact wpAny_pure (h _)
theorem nameGot {C : Addr} {nm : Str} {ex : Bool} {Q : Value → Shared → Prop} (N : NameC K C nm) (kin : K.In s.heap) (h : ∀ t u, Q (.str nm t) { s with toks := u }) : wpAny (model prog w) A (getAttr (.ref C) "__name__" ex) Q E s := by
  refine PySem.W.cls_bind kin N.reads N.found ?_
  apply wpAny_call
  refine nameGet (s := { s with toks := s.toks + 1 }) N kin fun t => ?_
  exact PySem.W.handed_on rfl (h _ _)
end
end NC

set_option Elab.async false
set_option linter.all false
set_option maxRecDepth 100000
set_option maxHeartbeats 1000000
/-! NC19: the __init__ of such a class. -/
namespace NC
open PySem PySem.Spec PyProof.Rows L2
open Evl (Ex)

abbrev envI (qual : Str) (sc : Scope) (L fI : Addr) (cdv : Value) (cc : Addr) : Env := PySem.W.ksEnv qual sc L fI cdv cc
/-- the frame of __init__ -/
def cxI (P : Program) (w : World) (K : PySem.W.Frag) (mg : Str → Option Value) (base : Heap) (N : List Str) (qual : Str) (sc : Scope) (fI : Addr) (cdv : Value) (cc : Addr) (A : Around) (outer : List Env) (s : Shared) (H : Hp) : Cx where
  prog := P
  w := w
  K := K
  mg := mg
  base := base
  A := A.deeper (envI qual sc s.heap.objs.size fI cdv cc)
  N := N
  s_0 := s
  H_0 := H
  env := envI qual sc s.heap.objs.size fI cdv cc
  outer := outer
  stack := envI qual sc s.heap.objs.size fI cdv cc :: outer
  ex := []
  calm := true
  fn := fun _ => false
  pn := []
  xe := fun _ _ => False
section
variable {P : Program} {w : World} {K : PySem.W.Frag} {mg : Str → Option Value} {base : Heap} {qual : Str} {N : List Str} {sc : Scope} {fI cc : Addr} {cdv : Value} {A : Around} {outer : List Env} {s : Shared} {H : Hp} {h1 : Heap} {tk : Nat} {vs : List V} {us : List Value}
theorem inv_init (e0 : Env0 P w K mg base A outer s H) (hd : A.handled = none) (kind : sc.kind = .function) (only : ∀ y, sc.names.lookup y = some .cell ∨ sc.names.lookup y = some .free → y = "__class__")
    (hN : N.Nodup) (lc : ∀ n ∈ N, sc.names.lookup n = some .local) (cell : ∃ v, base.IsCell cc v)
    (ns : h1.Ns s.heap.objs.size fun y => (N.zip us).reverse.lookup y) (kp : ∀ b o, s.heap.get? b = some o → h1.get? b = some o) (r : Vals vs us) (hl : vs.length = N.length) :
    L2.Inv (cxI P w K mg base N qual sc fI cdv cc A outer s H) [] (vs.map some) H { s with heap := h1, toks := tk } := by
  have noA : ∀ b : Addr, b ∉ (cxI P w K mg base N qual sc fI cdv cc A outer s H).ex := fun b z => by cases (show b ∈ ([] : List Addr) from z)
  have one : ∀ {y : Str} {c : Addr}, (cxI P w K mg base N qual sc fI cdv cc A outer s H).env.cells.lookup y = some c → y = "__class__" ∧ c = cc := fun {y c} e => by
    have e : ([(("__class__" : Str), cc)] : List (Str × Addr)).lookup y = some c := e
    simp only [List.lookup] at e
    split at e
    · rename_i q
      cases e
      exact ⟨beq_iff_eq.mp q, rfl⟩
    · cases e
  obtain ⟨cv, co, ce1, ce2⟩ := cell
  obtain ⟨c1, c2⟩ := e0.bs _ _ ce1
  refine ⟨⟨e0.mod, kind, rfl, rfl, Nat.le_refl _, fun y z c e1 e2 => (one e1).1.trans (one e2).1.symm, fun y hy => ?_, fun y c z _ => (nomatch (show false = true from z)), fun _ => hd, Around.frames_deeper e0.frames, .inr ⟨rfl, rfl⟩, fun b z => (noA b z).elim, e0.bs, e0.bsz, fun b _ _ => noA b, fun b z => (noA b z).elim, e0.funs, e0.frf⟩,
    rfl, e0.bare, Un.kept kp, ⟨_, ns, fun i y v e1 e2 e3 => ?_⟩, fun y c e => ?_, e0.hok.fresh (Nat.le_refl _), fun y c e => ?_, fun p hp => (nomatch (show p ∈ ([] : List (Addr × Obj)) from hp)), e0.hok.kept kp, by rw [List.length_map]; exact hl⟩
  · rw [only y hy]
    exact ⟨cc, by simp [cxI, envI, PySem.W.ksEnv, List.lookup]⟩
  · have e1 : N[i]? = some y := e1
    rw [List.getElem?_map] at e2
    obtain ⟨v', hv, ev⟩ := Option.map_eq_some_iff.mp e2
    cases ev
    obtain ⟨u, hu, rv⟩ := r.get hv
    exact ⟨u, rv, .inl ⟨lc y (List.mem_of_getElem? e1), NdefX.zip_look hN e1 hu⟩⟩
  · obtain ⟨rfl, rfl⟩ := one e
    exact ⟨cv, co, kp _ _ c1, ce2⟩
  · obtain ⟨rfl, rfl⟩ := one e
    exact c2
end
/-- what the head must tell of a class C whose __init__ says super().__init__(text) first -/
structure SupC (K : PySem.W.Frag) (C : Addr) : Prop where
  ox : OexC K C
  xc : L2.ExcC K C
  sup : PySem.W.ks_superIn K C C "__init__" = some (some (.builtin "ValueError.__init__"))
  opq : PySem.W.nsIn K PySem.cStatics "thirdparty.any" = some none
  isV : PySem.W.subIn K (.ref C) (.type "ValueError") = some true
  slf : PySem.W.mroIn K C (.ref C) = some true
section
variable {X : Cx} {pins : List (Addr × Obj)} {σ : L2.St} {H : Hp} {s : Shared} {a C : Addr}
/-- the __init__ of ValueError, bound, is called -/
theorem boundInit {u : Addr} {us : List Value} {Q : Value → Shared → Prop} (T : OexC X.K C) (I : L2.Inv X pins σ H s) (e : H a = some (exo a C none)) (hu : s.heap.get? u = some (PySem.W.kxs_mw "ValueError.__init__" a)) (hl : us.length ≤ sizeLine) (h : ∀ s', L2.Inv X pins σ H s' → Q .none s') :
    wpAny (model X.prog X.w) X.A (call (.ref u) us) Q X.xe s := by
  obtain ⟨nm, q, N, bs, bm, sn, sub, ab, col, dd, k0, k1, k2, k3, k5, hC, hbm⟩ := T.cls
  have known := I.kIn _ _ hC
  obtain ⟨t1, ho⟩ := exo_at I.hok e
  rcases s with ⟨hp, gs, dr, tk, os⟩
  apply wpAny_call
  apply codeAny_of_tree
  show wpAny _ X.A.in1 (callAny (.ref u) ⟨us, []⟩) _ _ _
  simp only [callAny]
  refine wpAny_bind (wpAny_load hu ?_)
  have isMw : (Value.type "method-wrapper" == Value.type "method" || Value.type "method-wrapper" == Value.type "builtin_function_or_method" || Value.type "method-wrapper" == Value.type "method-wrapper") = true := by decide
  simp only [PySem.W.kxs_mw, isMw, if_true]
  refine PySem.W.KFB.if_so (by decide) ?_
  apply wpAny_bind
  refine PySem.W.check_bound_init F.excBase_ValueError.toExcCallFacts known ho rfl ?_
  unfold again
  refine wpAny_pure ?_
  constructor
  · exact plainId_quiet F.excBase_ValueError.init.plain _
  apply codeAny_builtin F.excBase_ValueError.initEntry
  refine PySem.W.exc_init_tree (cls := .ref C) (t0 := t1) (dv := none) (c2 := .none) (c3 := .none) (b4 := .bool false) ho hl ?_
  intro h' k hx _
  have J := I.write (t' := tk) (x := a) (e := a) (o := exo a C none) (by rw [e]; exact True.intro) (.inl rfl) k ⟨_, hx⟩ (exo_ok hx)
  have same : upd H a (exo a C none) = H := by
    funext b
    by_cases hb : b = a
    · rw [hb, upd_same, e]
    · rw [upd_ne hb]
  rw [same] at J
  exact h _ J
end
end NC

set_option Elab.async false
set_option linter.all false
set_option maxRecDepth 100000
set_option maxHeartbeats 1000000
/-! NC20: C(e, ..) of such a class. -/
namespace NC
open PySem PySem.Spec PyProof.Rows L2
open Evl (Ex)

/-- the class's name, of the exception that is being made -/
theorem pe_cn {X : Cx} {C a : Addr} {nm n1 : Str} {p1 p2 p3 : Pos} (T : L2.ExcC X.K C) (N : NameC X.K C nm) (hN : X.N[0]? = some n1) (hv : Vis X.env.scope n1)
    (hd : (n1 == ("__debug__" : Str)) = false := by decide) (hcd : (n1 == ("__classdict__" : Str)) = false := by decide)
    (hb1 : attributeBase (.Attribute (.Name n1 p1) "__class__" p2) "__name__" X.env (eval (.Attribute (.Name n1 p1) "__class__" p2) X.env) = eval (.Attribute (.Name n1 p1) "__class__" p2) X.env := by rfl)
    (hb2 : attributeBase (.Name n1 p1) "__class__" X.env (eval (.Name n1 p1) X.env) = eval (.Name n1 p1) X.env := by rfl) :
    PE X (.Attribute (.Attribute (.Name n1 p1) "__class__" p2) "__name__" p3) (fun σ H Q => H a = some (exo a C none) ∧ σ[0]? = some (some (.ref a)) ∧ Q (.str nm) H) := by
  constructor
  rintro pins s σ H Q I ⟨ha, h0, q⟩
  apply attr_of hb1
  apply attr_of hb2
  refine thn ((pe_var (pos := p1) (i := 0) hN hv hd hcd).run pins s σ H (fun v H1 => v = .ref a ∧ H1 = H) I ⟨.ref a, h0, rfl, rfl⟩) ?_
  rintro u s1 ⟨v, H1, I1, rv, rfl, rfl⟩
  obtain rfl : u = Value.ref a := rv
  obtain ⟨t1, ho⟩ := exo_at I1.hok ha
  have J : PySem.W.InstAt s1.heap a _ C none := ⟨ho, rfl, rfl, True.intro⟩
  apply classGot T I1.kIn J
  refine nameGot (s := { s1 with toks := s1.toks + 1 }) N I1.kIn ?_
  intro t u
  exact ⟨.str nm, H1, I1.tok _, ⟨t, rfl⟩, q⟩
/-- the text that super().__init__ is told: any text will do -/
abbrev supText (n1 n2 : Str) (sep : Str) (j : Nat) (p1 p2 p3 p4 p5 p6 p7 p8 : Pos) : Expr :=
  .JoinedStr [.FormattedValue (.Name n2 p1) (-1) none p2, .Constant (.str sep) j p3, .FormattedValue (.Attribute (.Attribute (.Name n1 p4) "__class__" p5) "__name__" p6) (-1) none p7] p8
theorem pe_text {X : Cx} {C a : Addr} {nm n1 n2 sep pt : Str} {j : Nat} {p1 p2 p3 p4 p5 p6 p7 p8 : Pos} (T : L2.ExcC X.K C) (N : NameC X.K C nm) (hN1 : X.N[0]? = some n1) (hv1 : Vis X.env.scope n1) (hN2 : X.N[1]? = some n2) (hv2 : Vis X.env.scope n2)
    (small : pt.length + sep.length + nm.length ≤ sizeLine)
    (hd1 : (n1 == ("__debug__" : Str)) = false := by decide) (hcd1 : (n1 == ("__classdict__" : Str)) = false := by decide) (hd2 : (n2 == ("__debug__" : Str)) = false := by decide) (hcd2 : (n2 == ("__classdict__" : Str)) = false := by decide)
    (hb1 : attributeBase (.Attribute (.Name n1 p4) "__class__" p5) "__name__" X.env (eval (.Attribute (.Name n1 p4) "__class__" p5) X.env) = eval (.Attribute (.Name n1 p4) "__class__" p5) X.env := by rfl)
    (hb2 : attributeBase (.Name n1 p4) "__class__" X.env (eval (.Name n1 p4) X.env) = eval (.Name n1 p4) X.env := by rfl) :
    PE X (supText n1 n2 sep j p1 p2 p3 p4 p5 p6 p7 p8) (fun σ H Q => H a = some (exo a C none) ∧ σ[0]? = some (some (.ref a)) ∧ σ[1]? = some (some (.str pt)) ∧ ∀ x : Str, Q (.str x) H) :=
  (pe_joined (.cons (pe_fmt (pe_var (i := 1) hN2 hv2 hd2 hcd2)) (.cons pe_str (.cons (pe_fmt (pe_cn (a := a) T N hN1 hv1 hd1 hcd1 hb1 hb2)) .nil)))).imp fun σ H Q ⟨ha, h0, h1, q⟩ => by
    have hlen : ∀ x y : Str, (x ++ y).length = x.length + y.length := fun x y => by
      show (x.cps ++ y.cps).size = _
      rw [Array.size_append]
      rfl
    have e0 : (Str.empty ++ pt).length = pt.length := by
      rw [hlen]
      show 0 + _ = _
      omega
    refine ⟨.str pt, h1, .inl ⟨pt, rfl, by omega, pt, rfl, by omega, sep, rfl, ?_, ha, h0, .inl ⟨nm, rfl, by omega, nm, rfl, ?_, q _⟩⟩⟩
    · rw [hlen, e0]
      omega
    · rw [hlen, hlen, e0]
      omega
/-- what the head tells of the def at fI, the __init__ of the class at C -/
structure InitF (P : Program) (K : PySem.W.Frag) (mg : Str → Option Value) (qual : Str) (st : Stmt) (fI C : Addr) (fd : FuncData) (cda cc : Addr) : Prop where
  ex : ∃ (oc : Value) (od : Option Addr) (dV kV doc pm : Value) (an : Option Addr) (ct : Value) (osl : Array (Option Value)),
    fd = PySem.W.ksFn "__init__" qual (defArgs st) (defBody st) (defScope st) dV kV doc pm an (.ref cda) ct cc ∧ K.lookup fI = some ⟨oc, od, .func fd, osl⟩ ∧ PySem.W.codeIn K (.ref cda) qual = true
  file : ∃ (cl : Value) (cd : Option Addr) (cs : Array (Option Value)) (vs : Array Value) (fl : Str) (tf : Tok), K.lookup cda = some ⟨cl, cd, .fields vs, cs⟩ ∧ vs[2]? = some (.str fl tf) ∧ ((P.main.file : Str) == fl) = true
  cell : ∃ (cl : Value) (cd : Option Addr) (cs : Array (Option Value)), K.lookup cc = some ⟨cl, cd, .cell (some (.ref C)), cs⟩
  miss : mg "super" = none
  top : (P.main.scope.names.lookup ("super" : Str)).isSome = false
/-- the names of such a def: self, the others, super, __class__ -/
structure InitS (sc : Scope) (N : List Str) : Prop where
  kind : sc.kind = .function
  co : sc.isCoroutine = false
  gen : sc.isGenerator = false
  only : ∀ y, sc.names.lookup y = some .cell ∨ sc.names.lookup y = some .free → y = "__class__"
  nocell : ∀ x ∈ sc.names, x.2 ≠ .cell
  nd : N.Nodup
  lc : ∀ n ∈ N, sc.names.lookup n = some .local
  cls : sc.names.lookup ("__class__" : Str) = some .free
  sup : sc.names.lookup ("super" : Str) = some .globalImplicit
abbrev supCall (e : Expr) (q1 q2 q3 q4 : Pos) : Expr := .Call (.Attribute (.Call (.Name "super" q1) [] [] q2) "__init__" q3) [e] [] q4
theorem bt_super : bootBuiltins "super" = some (.type "super") := by decide +kernel
theorem init_ok {P : Program} {w : World} {K : PySem.W.Frag} {mg : Str → Option Value} {base : Heap} {CX : CXT} {k : Nat} {qual n1 : Str} {N : List Str} {st : Stmt} {fI C cda cc : Addr} {fd : FuncData} {ar : Arg} {q1 q2 q3 q4 q5 : Pos} {e : Expr} {rest : List Stmt} {sp : Sp} {tx : List V → L2.St → Hp → VK → Prop} {tr : TS}
    (T : SupC K C) (F : InitF P K mg qual st fI C fd cda cc) (Sc : InitS (defScope st) (n1 :: N)) (hp : ((defArgs st).posonlyargs ++ (defArgs st).args).head? = some ar) (har : ar.arg = n1)
    (hl : ∀ vs H Q E, sp vs H Q E → vs.length = (n1 :: N).length)
    (body : defBody st = .Expr (supCall e q1 q2 q3 q4) q5 :: rest)
    (hc : ∀ env : Env, ∃ pl : Sem Bool, eval (supCall e q1 q2 q3 q4) env = (do
      let ov ← attributeBase (.Call (.Name "super" q1) [] [] q2) "__init__" env (eval (.Call (.Name "super" q1) [] [] q2) env)
      standAt q3.atName
      let (g, first) ← holding [ov] (getMethod ov "__init__" pl)
      callWith q4 g first (backTo q4 (starEach [e] env)) []))
    (hsw : ∀ env : Env, swapsWith (supCall e q1 q2 q3 q4) none q5.line env = pure false)
    (hse : ∀ env : Env, starEach [e] env = (false, eval e env) :: starEach [] env)
    (htx : ∀ (A : Around) (outer : List Env) (s : Shared) (H : Hp) (vs : List V), PE (cxI P w K mg base (n1 :: N) qual (defScope st) fI (.ref cda) cc A outer s H) e (tx vs))
    (htr : ∀ (A : Around) (outer : List Env) (s : Shared) (H : Hp), PSs (cxI P w K mg base (n1 :: N) qual (defScope st) fI (.ref cda) cc A outer s H) rest tr)
    (hs : ∀ vs H Q E, sp vs H Q E → ∃ a vs', vs = .ref a :: vs' ∧ H a = some (exo a C none) ∧ (∀ Q' : VK, (∀ x : Str, Q' (.str x) H) → tx vs (vs.map some) H Q') ∧ tr { nx := fun _ H' => Q .non H', rt := fun _ _ => False } (vs.map some) H) :
    FnOk P w K mg base CX (k + 1) fI fd (n1 :: N) sp := by
  obtain ⟨oc, od, dV, kV, doc, pm, an, ct, osl, rfl, lk, hcode⟩ := F.ex
  obtain ⟨fcl, fcd, fcs, vs, fl, tf, flk, hvs, hfl⟩ := F.file
  obtain ⟨ccl, ccd, ccs, clk⟩ := F.cell
  refine ⟨hl, ?_⟩
  rintro A outer s H args us vs' Q E hr e0 hb r hsp
  have size := hl _ _ _ _ hsp
  obtain ⟨a, vr, rfl, ha, htx', htr'⟩ := hs _ _ _ _ hsp
  have kin : K.In s.heap := e0.mod.kin.keeps fun b o e => (e0.bs b o e).1
  have lim : s.heap.NoLimit := e0.mod.nolimit.keeps fun b o e => (e0.bs b o e).1
  obtain ⟨nm, q, NN, bs, bm, sn, sub, ab, col, dd, k0, k1, k2, k3, k5, hC, hbm⟩ := T.ox.cls
  have hloc : ∀ y ∈ (n1 :: N).zip us, (defScope st).names.lookup y.1 = some .local := fun y hy => Sc.lc _ (List.of_mem_zip (show (y.1, y.2) ∈ (n1 :: N).zip us from hy)).1
  refine ks_codeAny_call_defAt (binds := (n1 :: N).zip us) hr.depth (kin _ _ lk) rfl lim (PySem.W.codeRec_of kin hcode) rfl hb Sc.nocell hloc (fun h1 ns kp => ?_) Sc.co Sc.gen Sc.kind
  have I := inv_init (qual := qual) (fI := fI) (cdv := .ref cda) (cc := cc) (tk := s.toks + ((n1 :: N).zip us).length) e0 hr.hd Sc.kind Sc.only Sc.nd Sc.lc ⟨_, _, e0.mod.kin _ _ clk, rfl⟩ ns kp r size
  let X := cxI P w K mg base (n1 :: N) qual (defScope st) fI (.ref cda) cc A outer s H
  have I : L2.Inv X [] (V.ref a :: vr |>.map some) H { s with heap := h1, toks := s.toks + ((n1 :: N).zip us).length } := I
  have main : PySem.wpAt (model P w) X.A (.func (defBody st) X.env) (execs (defBody st) X.env) (fun fl s' => fl = .next ∧ CE outer P w H s Q .none s') (fun _ _ => False) { s with heap := h1, toks := s.toks + ((n1 :: N).zip us).length } := by
    rw [body]
    apply ks_wpAt_execs_cons
    obtain ⟨pl, hpl⟩ := hc X.env
    refine ks_wpAt_Expr_any ?_ I.quiet (hsw _)
    refine ks_wpAt_MethodCall (pl := pl) ?_ hpl
    have kin1 : K.In h1 := kin.keeps kp
    have hfd := kp _ _ (kin _ _ lk)
    refine ks_wpAt_super_base (env := envI qual (defScope st) s.heap.objs.size fI (.ref cda) cc) (f := fI) (cc := cda) Sc.sup Sc.cls (by decide) rfl hfd rfl hp rfl (kp _ _ (kin _ _ flk)) rfl hvs hfl F.top ?_
    obtain ⟨mb, b1, b2⟩ := I.mod.blt
    refine PySem.W.ks_loadName_global Sc.kind Sc.sup (PySem.Calls.loadGlobal_builtin (env := envI qual (defScope st) s.heap.objs.size fI (.ref cda) cc) (I.mod.glob.keeps I.bk) F.miss (b1.keeps I.bk) ((b2 "super" (by decide)).trans bt_super) ⟨rfl, ?_⟩)
    refine wpAny_loadName_free Sc.kind Sc.cls rfl ⟨_, kin1 _ _ clk, rfl⟩ ?_
    obtain ⟨u1, ur, eus, r1, r2⟩ : ∃ u1 ur, us = u1 :: ur ∧ RelV (.ref a) u1 ∧ Vals vr ur := by
      cases r with
      | cons r1 r2 => exact ⟨_, _, rfl, r1, r2⟩
    have eu1 : u1 = Value.ref a := r1
    rw [har]
    refine wpAny_loadName_local (v := .ref a) Sc.kind (Sc.lc _ (List.mem_cons_self ..)) ns (by rw [eus, eu1]; exact NdefX.zip_look (i := 0) Sc.nd rfl rfl) ?_
    refine ks_wpAny_isType_cls (kin1 _ _ hC) rfl ⟨rfl, ?_⟩
    obtain ⟨t1, ho⟩ := exo_at I.hok ha
    have sub1 : PySem.W.Looks (model P w) h1 (isSubtype (.ref C) (.ref C)) true := PySem.W.looks_mroIn kin1 T.slf
    refine ks_wpAny_call_super (kin1 _ _ hC) rfl ho rfl (fun c z => nomatch z) sub1 (fun h2 hso kp2 => ?_)
    have kin2 : K.In h2 := kin1.keeps kp2
    have ho2 := kp2 _ _ ho
    have J2 : PySem.W.InstAt h2 a _ C none := ⟨ho2, rfl, rfl, True.intro⟩
    have sp' := T.sup
    unfold PySem.W.ks_superIn at sp'
    cases hcl : PySem.W.clsIn K C with
    | none => rw [hcl] at sp'; cases sp'
    | some cd =>
    rw [hcl] at sp'
    have hI : PySem.W.Looks (model P w) h2 (isInstance (.ref a) (.type "ValueError")) true := J2.type.andThen (PySem.W.looks_subIn kin2 T.isV)
    refine PySem.W.kxs_getMethod PySem.W.kxs_ValueError hso (PySem.W.looks_opaque kin2 T.opq) (l₀ := cd.mro) (fun A Q E s k q => wpAny_bind ((PySem.W.looks_clsIn kin2 hcl) A _ E s k (wpAny_pure q))) rfl kin2 sp' hI (PySem.W.ks_ne kin2 J2 hcl) (by decide) ?_
    show wpAny _ _ (callWith q4 (.ref h2.objs.size) [] (backTo q4 (starEach [e] _)) []) _ _ _
    have kp3 : ∀ b o, h1.get? b = some o → (h2.push (PySem.W.kxs_mw "ValueError.__init__" a)).get? b = some o := fun b o z => Heap.get?_push_of_some _ (kp2 _ _ z)
    have hu : (h2.push (PySem.W.kxs_mw "ValueError.__init__" a)).get? h2.objs.size = some (PySem.W.kxs_mw "ValueError.__init__" a) := Heap.get?_push_at rfl rfl
    have ge : h1.objs.size ≤ h2.objs.size := Nat.le_of_lt (Heap.lt_size hso)
    have I3 : L2.Inv X [] (V.ref a :: vr |>.map some) H { s with heap := h2.push (PySem.W.kxs_mw "ValueError.__init__" a), toks := s.toks + ((n1 :: N).zip us).length + 1 } := I.kept (h' := h2.push (PySem.W.kxs_mw "ValueError.__init__" a)) kp3
    have I4 : L2.Inv X [(h2.objs.size, PySem.W.kxs_mw "ValueError.__init__" a)] (V.ref a :: vr |>.map some) H { s with heap := h2.push (PySem.W.kxs_mw "ValueError.__init__" a), toks := s.toks + ((n1 :: N).zip us).length + 1 } := by
      refine I3.pins_of fun p hp => ?_
      rw [List.mem_singleton.mp hp]
      refine ⟨hu, I.hok.fresh ge, fun z => ?_, I.nofs ge, fun v z => nomatch z⟩
      have := I.lt
      have z' : h2.objs.size = X.env.locals := z
      have l : X.env.locals < h1.objs.size := this
      exact Nat.lt_irrefl _ (Nat.lt_of_lt_of_le l (Nat.le_trans ge (Nat.le_of_eq z')))
    refine PySem.W.kxs_callWith (i := "ValueError.__init__") (x := a) (by rw [hse]; rfl) ?_
    have hpa : PA X [e] (tCons (tx (.ref a :: vr)) tNil) := pa_cons (htx A outer s H (.ref a :: vr)) pa_nil (hse _)
    rw [show backTo q4 (starEach [e] X.env) = (false, eval e X.env) :: backTo q4 (starEach [] X.env) by rw [hse]; rfl]
    refine PySem.Calls.evalArgs_plain ?_
    have run := hpa.run q4 _ _ _ _ (fun vs H1 => ∃ z : Str, vs = [.str z] ∧ H1 = H) I4 (htx' _ fun z => ⟨z, rfl, rfl⟩)
    rw [show backTo q4 (starEach [e] X.env) = (false, eval e X.env) :: backTo q4 (starEach [] X.env) by rw [hse]; rfl] at run
    refine thn run ?_
    rintro as s4 ⟨vz, H1, I5, rz, z, rfl, rfl⟩
    have pin := I5.pin _ (List.mem_append_right _ (List.mem_singleton.mpr rfl))
    refine ⟨pin.1, ?_⟩
    have l1 : as.length ≤ sizeLine := by rw [← rz.length]; exact (by decide : 1 ≤ sizeLine)
    refine boundInit T.ox I5 ha pin.1 l1 fun s5 I6 => ?_
    have I7 : L2.Inv X [] (V.ref a :: vr |>.map some) H1 s5 := I6.pins_of fun p hp => (nomatch hp)
    have last := (htr A outer s H1).run [] s5 _ H1 _ I7 htr'
    refine wpAt_of_wpAny (wpAny_mono last (fun fl s6 done => ?_) fun _ _ z => z)
    cases fl with
    | next =>
      obtain ⟨σ6, H6, I8, q8⟩ := done
      exact ⟨rfl, .non, H6, I8.os, I8.bare, I8.base, I8.hok, rfl, q8⟩
    | ret u => exact (done.choose_spec.choose_spec.choose_spec.2.2).elim
    | brk => exact (done.choose_spec.choose_spec.2).elim
    | cont => exact (done.choose_spec.choose_spec.2).elim
  refine ks_wpAt_mono main (fun fl s' hh => ?_) fun _ _ z => z.elim
  obtain ⟨rfl, hh⟩ := hh
  exact hh
end NC

set_option Elab.async false
set_option linter.all false
set_option maxRecDepth 100000
set_option maxHeartbeats 1000000
/-! NC21: a law's end where lambdas are made: the tables of code objects. -/
namespace NC
open PySem PySem.Spec PyProof.Rows L2
open Evl (Ex)

/-- a def that makes lambdas: its code object, its table, the lambdas' name -/
structure Maker where
  c : Addr
  P : Addr
  q : Str
abbrev tabs (cs : List Maker) : List (Addr × Str) := cs.map fun m => (m.P, m.q)
abbrev tabAt (cs : List Maker) : List Addr := cs.map fun m => m.P
theorem ok_tabs {K : PySem.W.Frag} {H : Hp} {cs : List Maker} (h : ∀ m ∈ cs, H m.P = some (.tbl #[])) : Ok K ⟨[], tabs cs⟩ (tabAt cs) [] [] H := by
  have back : ∀ a ∈ tabAt cs, H a = some (.tbl #[]) := fun a ha => by
    obtain ⟨m, hm, rfl⟩ := List.mem_map.mp ha
    exact h m hm
  refine ⟨rfl, List.nodup_nil, fun _ z => (nomatch z), fun _ z => (nomatch z), fun a ha => by rw [back a ha]; exact fun z => (nomatch z), fun n o e => by simp at e, fun w z => (nomatch z), ⟨fun p hp => ?_, fun p hp => ?_⟩⟩
  · obtain ⟨m, hm, rfl⟩ := List.mem_map.mp hp
    exact LamX.TabS.nil (h m hm)
  · obtain ⟨m, hm, rfl⟩ := List.mem_map.mp hp
    exact List.mem_map.mpr ⟨m, hm, rfl⟩
theorem top_spT {K : PySem.W.Frag} {r : RDs} {n : Nat} {cs : List Maker} (h : TrueAt r n) {H : Hp} {a : Addr} {ns : List Int} (hl : ns.length ≤ n) (hH : ∀ m ∈ cs, H m.P = some (.tbl #[])) (hS : SqL K H a (ns.map V.int)) (hid' : Ex H H ∧ SqL K (hid (tabAt cs) [] [] H) a (ns.map V.int)) :
    lsp K (tabs cs) r [.ref a] H (fun v _ => v = .bl true) fun _ _ _ => False :=
  ⟨tabAt cs, [], [], [.ro (ns.map D.int)], _, ok_tabs hH, .cons (.ro hid'.2 (Reps.ofInts ns)) .nil, h ns hl, fun d S v β' H' _ r1 e => by
    subst e
    cases r1
    rfl⟩
section
variable {P : Program} {w : World} {K : PySem.W.Frag} {mg mb : Str → Option Value} {k n : Nat} {fa a : Addr} {fd : FuncData} {x : Str} {r : RDs} {s : Shared} {vs : List Value} {ns : List Int} {cs : List Maker} {CX : CXT}
abbrev emptyT : Obj := { cls := .none, data := .fields #[] }
/-- the law's own call, tables empty -/
theorem askedT (kin : K.In s.heap) (gl : s.heap.Ns mainGlobals mg) (bl : s.heap.Ns builtinsNs mb) (bb : ∀ z : Str, z ≠ "__name__" → mb z = bootBuiltins z) (lim : s.heap.NoLimit) (gens : s.gens = #[])
    (tE : ∀ m ∈ cs, s.heap.get? m.P = some emptyT) (tK : ∀ m ∈ cs, K.lookup m.P = none) (tC : ∀ m ∈ cs, PySem.W.CodeHd s.heap m.c m.P)
    (tM : ∃ (bm : Addr) (ob : Obj), mg "__builtins__" = some (.ref bm) ∧ bm ≠ builtinsNs ∧ s.heap.get? bm = some ob ∧ ob.cls = .type "module" ∧ ob.dict = some builtinsNs ∧ ob.data = .plain)
    (ha : s.heap.get? a = some { cls := .type "list", data := .seq vs.toArray }) (isInts : IntsAre vs ns) (few : ns.length ≤ n) (small : n ≤ sizeLine) (room : Room k callerA)
    (F : ∀ base : Heap, K.In base → base.Ns mainGlobals mg → (∀ m ∈ cs, LamX.TabB base mg m.c m.P) → FnG P w K mg base CX k fa fd [x] (lsp K (tabs cs) r)) (bind : ∀ (t : Shared) (u : Value), BindsTo t fd ⟨[u], []⟩ [(x, u)]) (ht : TrueAt r n)
    (quiet : ∀ H e t, CX [] H s (fun _ _ _ => False) e t → False) :
    codeAny (model P w) callerA (.call (.ref fa) ⟨[.ref a], []⟩) (fun z t => z = .ok (.ret (.bool true)) ∧ OldK s.heap t.heap ∧ t.os = s.os ∧ AllBare t.gens) s := by
  have size := isInts.length
  have vals := vals_ints isInts
  have atT : ∀ b ∈ tabAt cs, s.heap.get? b = some emptyT := fun b hb => by
    obtain ⟨m, hm, rfl⟩ := List.mem_map.mp hb
    exact tE m hm
  have inT : ∀ m ∈ cs, m.P ∈ tabAt cs := fun m hm => List.mem_map.mpr ⟨m, hm, rfl⟩
  have aOut : a ∉ tabAt cs := fun z => by
    have e := atT a z
    rw [ha] at e
    cases e
  have one : ∀ H : Hp, (∀ m ∈ cs, H m.P = some (.tbl #[])) → (∀ b, H b ≠ none → b ∈ tabAt cs ∨ ∃ ob xs, H b = some (.frz ob (.lst xs))) → SqL K H a (ns.map V.int) → HOk P w H s.heap → (∀ b, H b ≠ none → b ∈ tabAt cs ∨ b = a ∧ K.lookup a = none) →
      codeAny (model P w) callerA (.call (.ref fa) ⟨[.ref a], []⟩) (fun z t => z = .ok (.ret (.bool true)) ∧ OldK s.heap t.heap ∧ t.os = s.os ∧ AllBare t.gens) s := by
    intro H hH only hS hok at_a
    have keep : ∀ {b : Addr} {o : Obj}, s.heap.get? b = some o → o ≠ emptyT → (b = a → K.lookup a ≠ none ∨ o.cls ≠ .type "list") → (hidT s.heap H).get? b = some o := fun {b o} e ne hne => by
      refine hidT_get e (Classical.byContradiction fun q => ?_)
      rcases at_a b q with z | ⟨eb, kn⟩
      · rw [atT b z] at e
        exact ne (Option.some.inj e).symm
      · subst eb
        rcases hne rfl with h | h
        · exact h kn
        · rw [ha] at e
          cases e
          exact h rfl
    have space : ∀ {b : Addr} {m : Str → Option Value}, s.heap.Ns b m → (hidT s.heap H).Ns b m := fun {b m} ⟨o, es, ep, e, d, q⟩ => by
      refine ⟨o, es, ep, keep e (fun z => by rw [z] at d; cases d) fun eb => .inr fun hc => ?_, d, q⟩
      subst eb
      rw [ha] at e
      cases e
      cases d
    have base_in : K.In (hidT s.heap H) := fun b o e => by
      by_cases hb : b ∈ tabAt cs
      · obtain ⟨m, hm, rfl⟩ := List.mem_map.mp hb
        rw [tK m hm] at e
        cases e
      · refine hidT_get (kin b o e) (Classical.byContradiction fun q => ?_)
        rcases at_a b q with z | ⟨eb, kn⟩
        · exact hb z
        · rw [eb, kn] at e
          cases e
    have module : Mod K mg (hidT s.heap H) := ⟨base_in, space gl, ⟨mb, space bl, bb⟩, by
      obtain ⟨mc, h1, h2⟩ := lim
      exact ⟨mc, space h1, h2⟩⟩
    have tB : ∀ m ∈ cs, LamX.TabB (hidT s.heap H) mg m.c m.P := fun m hm => by
      have eP := tE m hm
      refine ⟨?_, ?_, fun z => ?_⟩
      · obtain ⟨o, us, fl, tf, gs, tg, iF, tx, tt, e1, e2, more⟩ := tC m hm
        refine ⟨o, us, fl, tf, gs, tg, iF, tx, tt, keep e1 (fun z => by rw [z] at e2; cases e2) fun eb => .inr fun z => ?_, e2, more⟩
        rw [z] at e2
        simp at e2
      · obtain ⟨bm, ob, m1, m2, m3, m4, m5, m6⟩ := tM
        refine ⟨bm, ob, m1, m2, fun z => ?_, fun z => ?_, keep m3 (fun z => by rw [z] at m6; cases m6) fun eb => .inr fun z => ?_, m4, m5, m6⟩
        · obtain ⟨o, es, ep, e, d, _⟩ := gl
          rw [z, e] at m3
          cases m3
          rw [d] at m6
          cases m6
        · rw [z, eP] at m3
          cases m3
          cases m6
        · rw [m4] at z
          simp at z
      · obtain ⟨o, es, ep, e, d, _⟩ := gl
        rw [z, eP] at e
        cases e
        cases d
    have env : Env0 P w K mg (hidT s.heap H) callerA [] s H := ⟨rfl, module, fun b o e => of_hidT e, Nat.le_of_eq (hidT_size _ _), trivial, fun b hb => (List.not_mem_nil (show b ∈ ([] : List Addr) from hb)).elim, hok, .of_eq gens⟩
    have hS' : SqL K (hid (tabAt cs) [] [] H) a (ns.map V.int) := by
      have same : hid (tabAt cs) [] [] H a = H a := hid_of aOut fun n o e _ => by simp at e
      rcases hS with (h | ⟨o, h⟩) | h
      · exact .inl (.inl (same.trans h))
      · exact .inl (.inr ⟨o, same.trans h⟩)
      · exact .inr h
    refine codeAny_mono ((F _ base_in (space gl) tB).go callerA [] s H ⟨[.ref a], []⟩ [.ref a] [.ref a] _ _ room rfl env (bind s (.ref a)) (.cons rfl .nil) (top_spT ht few hH hS ⟨Ex.refl _, hS'⟩)) ?_
    rintro (err | fl) t ht
    · exact (quiet H err t ht).elim
    · cases fl with
      | ret u =>
        obtain ⟨v, H', os, bare, un, hok', rv, ev⟩ := ht
        have ev' : v = .bl true := ev
        subst ev'
        have eu : u = Value.bool true := rv
        subst eu
        have stay : ∀ b o, b ∉ tabAt cs → s.heap.get? b = some o → t.heap.get? b = some o := fun b o nb e => by
          by_cases hn : H b = none
          · exact un.keep b o e hn (fun z => (List.not_mem_nil (show b ∈ ([] : List Addr) from z)).elim) (by simp)
          · rcases only b hn with z | ⟨ob, xs, hf⟩
            · exact (nb z).elim
            · have before := (hok b _ hf).1
              have after := (hok' b _ (un.frzs b ob _ hf)).1
              rw [e] at before
              cases before
              exact after
        have grown : ∀ m ∈ cs, ∃ more : Array Value, t.heap.get? m.P = some { cls := .none, data := .fields more } := fun m hm => by
          obtain ⟨more, z⟩ := un.tbls m.P #[] (hH m hm)
          exact ⟨_, hok' m.P _ z⟩
        refine ⟨rfl, ⟨fun b o e => ?_, fun b o e => ?_⟩, os, bare⟩
        · by_cases hb : b ∈ tabAt cs
          · obtain ⟨m, hm, rfl⟩ := List.mem_map.mp hb
            obtain ⟨more, g⟩ := grown m hm
            rw [tE m hm] at e
            cases e
            exact .inr (.inl ⟨((tC m hm).tab (tE m hm)).isCodeTable, rfl, #[], more, rfl, by rw [Array.empty_append]; exact g⟩)
          · exact .inl (stay b o hb e)
        · by_cases hb : b ∈ tabAt cs
          · obtain ⟨m, hm, rfl⟩ := List.mem_map.mp hb
            exact (grown m hm).elim fun more g => ⟨_, g⟩
          · exact ⟨o, stay b o hb e⟩
      | next => exact ht.elim
      | brk => exact ht.elim
      | cont => exact ht.elim
  classical
  have tb : ∀ b u, (if b ∈ tabAt cs then some (HO.tbl #[]) else none) = some u → b ∈ tabAt cs ∧ u = .tbl #[] := fun b u z => by
    split at z
    · rename_i hb
      cases z
      exact ⟨hb, rfl⟩
    · cases z
  cases hk : K.lookup a with
  | some o =>
    have e := kin a o hk
    rw [ha] at e
    cases e
    refine one (fun b => if b ∈ tabAt cs then some (.tbl #[]) else none) (fun m hm => if_pos (inT m hm)) (fun b z => ?_) (.inr ⟨_, vs.toArray, _, hk, rfl, rfl, rfl, ?_, by simpa using vals⟩) (fun b u z => ?_) fun b z => ?_
    · obtain ⟨u, hu⟩ := Option.ne_none_iff_exists'.mp z
      exact .inl (tb b u hu).1
    · rw [List.size_toArray, size]
      exact Nat.le_trans few small
    · obtain ⟨hb, rfl⟩ := tb b u z
      exact atT b hb
    · obtain ⟨u, hu⟩ := Option.ne_none_iff_exists'.mp z
      exact .inl (tb b u hu).1
  | none =>
    have ne : ∀ m ∈ cs, m.P ≠ a := fun m hm z => aOut (z ▸ inT m hm)
    have track : ∀ b u, upd (fun b => if b ∈ tabAt cs then some (HO.tbl #[]) else none) a (.frz { cls := .type "list", data := .seq vs.toArray } (.lst (ns.map V.int))) b = some u → b ∈ tabAt cs ∧ u = .tbl #[] ∨ b = a ∧ u = .frz { cls := .type "list", data := .seq vs.toArray } (.lst (ns.map V.int)) := fun b u z => by
      by_cases eb : b = a
      · subst eb
        rw [upd_same] at z
        cases z
        exact .inr ⟨rfl, rfl⟩
      · rw [upd_ne eb] at z
        exact .inl (tb b u z)
    refine one (upd (fun b => if b ∈ tabAt cs then some (.tbl #[]) else none) a (.frz { cls := .type "list", data := .seq vs.toArray } (.lst (ns.map V.int)))) (fun m hm => ?_) (fun b z => ?_) (.inl (.inr ⟨_, upd_same⟩)) (fun b u z => ?_) fun b z => ?_
    · rw [upd_ne (ne m hm)]
      exact if_pos (inT m hm)
    · obtain ⟨u, hu⟩ := Option.ne_none_iff_exists'.mp z
      rcases track b u hu with ⟨h, _⟩ | ⟨rfl, rfl⟩
      · exact .inl h
      · exact .inr ⟨_, _, hu⟩
    · rcases track b u z with ⟨h, rfl⟩ | ⟨rfl, rfl⟩
      · exact atT b h
      · exact ⟨ha, by rw [List.length_map]; exact Nat.le_trans few small, vs, _, vals, ha⟩
    · obtain ⟨u, hu⟩ := Option.ne_none_iff_exists'.mp z
      rcases track b u hu with ⟨h, _⟩ | ⟨rfl, _⟩
      · exact .inl h
      · exact .inr ⟨rfl, hk⟩
end
/-- what is asked of a maker at the head: its def's name, among the top's defs -/
def makerIn (K : PySem.W.Frag) (q : Program) (x : Str) (m : Maker) : Prop := PySem.W.tabIn K x = some (m.c, m.P) ∧ ((recsOf q).find? (fun e => e.name == x)).isSome = true ∧ K.lookup m.P = none
/-- the goal that k_head leaves, lambdas made -/
theorem end_ofT {l : PySem.W.OpenLaw} {n k : Nat} {q : Program} {loose : List Str} {XP : (Str → Option Value) → Heap → Prop} {YP : World → Heap → Prop} {d : DefRec} {K : Params → PySem.W.Frag} {r : RDs} {x : Str} {CX : World → CXT}
    (most : l.most = some n) (small : n ≤ sizeLine) (nodef : d.params.defaults = []) (room : Room k callerA) (kin : ∀ (w : World) (h : Heap), YP w h → (K w.params).In h) (ht : TrueAt r n)
    (quiet : ∀ w H s e t, CX w [] H s (fun _ _ _ => False) e t → False)
    (F : ∀ (w : World) (mg : Str → Option Value) (fa : Addr) (h : Heap), (K w.params).In h → h.Ns mainGlobals mg → mg d.name = some (.ref fa) →
      ∃ (fd : FuncData) (cs : List Maker), (∀ m ∈ cs, ∃ z, makerIn (K w.params) q z m) ∧ (∀ (s : Shared) (u : Value), BindsTo s fd ⟨[u], []⟩ [(x, u)]) ∧
        ∀ base : Heap, (K w.params).In base → base.Ns mainGlobals mg → (∀ m ∈ cs, LamX.TabB base mg m.c m.P) → FnG l.prog w (K w.params) mg base (CX w) k fa fd [x] (lsp (K w.params) (tabs cs) r)) :
    PySem.W.WalkO q loose XP YP l.row.toRowW d [] (fun f vs => PySem.call f vs) := by
  refine Att.attach_call most nodef fun w s₀ s mg mb fa o pm cd doc a vs ns G Y ho hd hcd hmg hobj hints few gens => ?_
  obtain ⟨fd, cs, hcs, hb, hF⟩ := F w mg fa _ (kin w _ Y) G.T.g hmg
  have known : ∀ m ∈ cs, PySem.W.CodeHd _ m.c m.P ∧ _ := fun m hm => by
    obtain ⟨z, h1, h2, h3⟩ := hcs m hm
    obtain ⟨dz, h2⟩ := Option.isSome_iff_exists.mp h2
    exact PySem.W.tab_of G.T (kin w _ Y) h2 h1
  exact askedT (kin w _ Y) G.T.g G.T.b G.T.builtins G.T.nolimit gens (fun m hm => (known m hm).2) (fun m hm => (hcs m hm).elim fun z h => h.2.2) (fun m hm => (known m hm).1) G.T.bmain hobj hints few small room hF hb ht fun H e t => quiet w H s e t
end NC

set_option Elab.async false
set_option linter.all false
set_option maxRecDepth 100000
set_option maxHeartbeats 1000000
/-! NC22: the classes of errors: what the head tells of each, C(e, ..) over data, raise. -/
namespace NC
open PySem PySem.Spec PyProof.Rows L2
open Evl (Ex)

/-- what may be told: a part is a short text -/
def okV (part : Bool) (n : Nat) (ws : List V) : Prop := ws.length = n ∧ (part = true → ∃ p : Str, ws = [.str p] ∧ p.length ≤ 900)
/-- the fields, the last one first -/
def fldV (ns : List Str) (ws : List V) : List (Str × V) := (ns.zip ws).reverse
/-- what __init__ promises of self -/
def spF (C : Addr) (part : Bool) (ns : List Str) : Sp := fun vs H Q _ => ∃ (a : Addr) (ws : List V), vs = .ref a :: ws ∧ okV part ns.length ws ∧ H a = some (exo a C none) ∧
  ∀ (dx : Addr) (H' : Hp), H dx = none → dx ≠ a → H' a = some (exo a C (some dx)) → H' dx = some (exd dx (fldV ns ws)) → (∀ b, b ≠ a → b ≠ dx → H' b = H b) → Q .non H'
section
variable {P : Program} {w : World} {K : PySem.W.Frag} {mg : Str → Option Value} {base : Heap} {CX : CXT} {k : Nat} {qual n1 n2 n3 f f2 nm sep : Str} {st : Stmt} {fI C cda cc : Addr} {fd : FuncData} {ar : Arg} {j : Nat} {q1 q2 q3 q4 q5 q6 q7 q8 q9 p1 p2 p3 p4 p5 p6 p7 p8 : Pos} {e : Expr}
abbrev ReadsSup (e : Expr) (q1 q2 q3 q4 : Pos) : Prop := ∀ env : Env, ∃ pl : Sem Bool, eval (supCall e q1 q2 q3 q4) env = (do
      let ov ← attributeBase (.Call (.Name "super" q1) [] [] q2) "__init__" env (eval (.Call (.Name "super" q1) [] [] q2) env)
      standAt q3.atName
      let (g, first) ← holding [ov] (getMethod ov "__init__" pl)
      callWith q4 g first (backTo q4 (starEach [e] env)) [])
/-- self.f = n2, behind super().__init__(f"{n2}: {self.__class__.__name__}") -/
theorem init_part (T : SupC K C) (F : InitF P K mg qual st fI C fd cda cc) (Sc : InitS (defScope st) [n1, n2]) (N : NameC K C nm) (hp : ((defArgs st).posonlyargs ++ (defArgs st).args).head? = some ar) (har : ar.arg = n1)
    (hrd : ReadsSup (supText n1 n2 sep j p1 p2 p3 p4 p5 p6 p7 p8) q1 q2 q3 q4)
    (body : defBody st = [.Expr (supCall (supText n1 n2 sep j p1 p2 p3 p4 p5 p6 p7 p8) q1 q2 q3 q4) q5, .Assign [.Attribute (.Name n1 q6) f q7] (.Name n2 q8) q9]) (hs1 : sep.length ≤ 10) (hs2 : nm.length ≤ 50) (hno : PySem.W.findIn K (.ref C) f = some none)
    (hd1 : (n1 == ("__debug__" : Str)) = false := by decide) (hcd1 : (n1 == ("__classdict__" : Str)) = false := by decide) (hd2 : (n2 == ("__debug__" : Str)) = false := by decide) (hcd2 : (n2 == ("__classdict__" : Str)) = false := by decide) :
    FnOk P w K mg base CX (k + 1) fI fd [n1, n2] (spF C true [f]) := by
  refine init_ok (tx := fun vs => fun σ H Q => ∃ (a : Addr) (pt : Str), pt.length ≤ 900 ∧ H a = some (exo a C none) ∧ σ[0]? = some (some (.ref a)) ∧ σ[1]? = some (some (.str pt)) ∧ ∀ x : Str, Q (.str x) H) T F Sc hp har (fun vs H Q E h => ?_) body hrd (fun _ => rfl) (fun _ => rfl) (fun A outer s H vs => ?_) (fun A outer s H => ?_) (fun vs H Q E h => ?_)
    (tr := tOst K f (tVar 0) (tVar 1))
  · obtain ⟨a, ws, rfl, ⟨hl, _⟩, _⟩ := h
    simpa using hl
  · have v1 : Vis (cxI P w K mg base [n1, n2] qual (defScope st) fI (.ref cda) cc A outer s H).env.scope n1 := .inl (Sc.lc _ (by simp))
    have v2 : Vis (cxI P w K mg base [n1, n2] qual (defScope st) fI (.ref cda) cc A outer s H).env.scope n2 := .inl (Sc.lc _ (by simp))
    refine ⟨fun pins s1 σ H1 Q I ⟨a, pt, hpt, ha, h0, h1, q⟩ => ?_⟩
    exact (pe_text (a := a) (pt := pt) T.xc N rfl v1 rfl v2 (Nat.le_trans (show pt.length + sep.length + nm.length ≤ 1000 by omega) (by decide)) hd1 hcd1 hd2 hcd2).run pins s1 σ H1 Q I ⟨ha, h0, h1, q⟩
  · have v1 : Vis (cxI P w K mg base [n1, n2] qual (defScope st) fI (.ref cda) cc A outer s H).env.scope n1 := .inl (Sc.lc _ (by simp))
    have v2 : Vis (cxI P w K mg base [n1, n2] qual (defScope st) fI (.ref cda) cc A outer s H).env.scope n2 := .inl (Sc.lc _ (by simp))
    exact pss_one (ps_ost (pe_var (i := 0) rfl v1 hd1 hcd1) (pe_var (i := 1) rfl v2 hd2 hcd2))
  · obtain ⟨a, ws, rfl, ⟨hl, hpt⟩, ha, q⟩ := h
    obtain ⟨p, rfl, lp⟩ := hpt rfl
    refine ⟨a, _, rfl, ha, fun Q' q' => ⟨a, p, lp, ha, rfl, rfl, q'⟩, .str p, rfl, .ref a, rfl, a, C, rfl, T.ox, hno, .inl ⟨ha, fun dx hn ne => ?_⟩⟩
    exact q dx _ hn ne upd_same (by rw [upd_ne ne, upd_same]; rfl) fun b h1 h2 => by rw [upd_ne h1, upd_ne h2]
/-- self.f = n2, behind super().__init__(a text) -/
theorem init_one {m : Str} (T : SupC K C) (F : InitF P K mg qual st fI C fd cda cc) (Sc : InitS (defScope st) [n1, n2]) (hp : ((defArgs st).posonlyargs ++ (defArgs st).args).head? = some ar) (har : ar.arg = n1)
    (hrd : ReadsSup (.Constant (.str m) j p1) q1 q2 q3 q4)
    (body : defBody st = [.Expr (supCall (.Constant (.str m) j p1) q1 q2 q3 q4) q5, .Assign [.Attribute (.Name n1 q6) f q7] (.Name n2 q8) q9]) (hno : PySem.W.findIn K (.ref C) f = some none)
    (hd1 : (n1 == ("__debug__" : Str)) = false := by decide) (hcd1 : (n1 == ("__classdict__" : Str)) = false := by decide) (hd2 : (n2 == ("__debug__" : Str)) = false := by decide) (hcd2 : (n2 == ("__classdict__" : Str)) = false := by decide) :
    FnOk P w K mg base CX (k + 1) fI fd [n1, n2] (spF C false [f]) := by
  refine init_ok (tx := fun _ => tC (.str m)) T F Sc hp har (fun vs H Q E h => ?_) body hrd (fun _ => rfl) (fun _ => rfl) (fun A outer s H vs => pe_str) (fun A outer s H => ?_) (fun vs H Q E h => ?_)
    (tr := tOst K f (tVar 0) (tVar 1))
  · obtain ⟨a, ws, rfl, ⟨hl, _⟩, _⟩ := h
    simpa using hl
  · have v1 : Vis (cxI P w K mg base [n1, n2] qual (defScope st) fI (.ref cda) cc A outer s H).env.scope n1 := .inl (Sc.lc _ (by simp))
    have v2 : Vis (cxI P w K mg base [n1, n2] qual (defScope st) fI (.ref cda) cc A outer s H).env.scope n2 := .inl (Sc.lc _ (by simp))
    exact pss_one (ps_ost (pe_var (i := 0) rfl v1 hd1 hcd1) (pe_var (i := 1) rfl v2 hd2 hcd2))
  · obtain ⟨a, ws, rfl, ⟨hl, _⟩, ha, q⟩ := h
    match ws, hl with
    | [p], _ =>
      refine ⟨a, _, rfl, ha, fun Q' q' => q' m, p, rfl, .ref a, rfl, a, C, rfl, T.ox, hno, .inl ⟨ha, fun dx hn ne => ?_⟩⟩
      exact q dx _ hn ne upd_same (by rw [upd_ne ne, upd_same]; rfl) fun b h1 h2 => by rw [upd_ne h1, upd_ne h2]
/-- two fields -/
theorem init_two {m : Str} {r6 r7 r8 r9 : Pos} (T : SupC K C) (F : InitF P K mg qual st fI C fd cda cc) (Sc : InitS (defScope st) [n1, n2, n3]) (hp : ((defArgs st).posonlyargs ++ (defArgs st).args).head? = some ar) (har : ar.arg = n1)
    (hrd : ReadsSup (.Constant (.str m) j p1) q1 q2 q3 q4)
    (body : defBody st = [.Expr (supCall (.Constant (.str m) j p1) q1 q2 q3 q4) q5, .Assign [.Attribute (.Name n1 q6) f q7] (.Name n2 q8) q9, .Assign [.Attribute (.Name n1 r6) f2 r7] (.Name n3 r8) r9])
    (hno : PySem.W.findIn K (.ref C) f = some none) (hno2 : PySem.W.findIn K (.ref C) f2 = some none)
    (hd1 : (n1 == ("__debug__" : Str)) = false := by decide) (hcd1 : (n1 == ("__classdict__" : Str)) = false := by decide) (hd2 : (n2 == ("__debug__" : Str)) = false := by decide) (hcd2 : (n2 == ("__classdict__" : Str)) = false := by decide)
    (hd3 : (n3 == ("__debug__" : Str)) = false := by decide) (hcd3 : (n3 == ("__classdict__" : Str)) = false := by decide) :
    FnOk P w K mg base CX (k + 1) fI fd [n1, n2, n3] (spF C false [f, f2]) := by
  refine init_ok (tx := fun _ => tC (.str m)) T F Sc hp har (fun vs H Q E h => ?_) body hrd (fun _ => rfl) (fun _ => rfl) (fun A outer s H vs => pe_str) (fun A outer s H => ?_) (fun vs H Q E h => ?_)
    (tr := tSeq (tOst K f (tVar 0) (tVar 1)) (tOst K f2 (tVar 0) (tVar 2)))
  · obtain ⟨a, ws, rfl, ⟨hl, _⟩, _⟩ := h
    simpa using hl
  · have v1 : Vis (cxI P w K mg base [n1, n2, n3] qual (defScope st) fI (.ref cda) cc A outer s H).env.scope n1 := .inl (Sc.lc _ (by simp))
    have v2 : Vis (cxI P w K mg base [n1, n2, n3] qual (defScope st) fI (.ref cda) cc A outer s H).env.scope n2 := .inl (Sc.lc _ (by simp))
    have v3 : Vis (cxI P w K mg base [n1, n2, n3] qual (defScope st) fI (.ref cda) cc A outer s H).env.scope n3 := .inl (Sc.lc _ (by simp))
    exact pss_cons (ps_ost (pe_var (i := 0) rfl v1 hd1 hcd1) (pe_var (i := 1) rfl v2 hd2 hcd2)) (pss_one (ps_ost (pe_var (i := 0) rfl v1 hd1 hcd1) (pe_var (i := 2) rfl v3 hd3 hcd3)))
  · obtain ⟨a, ws, rfl, ⟨hl, _⟩, ha, q⟩ := h
    match ws, hl with
    | [p, p'], _ =>
      refine ⟨a, _, rfl, ha, fun Q' q' => q' m, p, rfl, .ref a, rfl, a, C, rfl, T.ox, hno, .inl ⟨ha, fun dx hn ne => ?_⟩⟩
      refine ⟨p', rfl, .ref a, rfl, a, C, rfl, T.ox, hno2, .inr ⟨dx, [(f, p)], upd_same, by rw [upd_ne ne, upd_same], by simp, ?_⟩⟩
      refine q dx _ hn ne ?_ upd_same fun b h1 h2 => ?_
      · rw [upd_ne (Ne.symm ne), upd_same]
      · rw [upd_ne h2, upd_ne h1, upd_ne h2]
end
/-- what is known of a class of errors -/
structure ErrOk (P : Program) (w : World) (K : PySem.W.Frag) (mg : Str → Option Value) (base : Heap) (x : Str) (C : Addr) (part : Bool) (ns : List Str) : Prop where
  ox : OexC K C
  xf : XfC K C
  xc : L2.ExcC K C
  no : ∀ f ∈ ns, PySem.W.findIn K (.ref C) f = some none
  at_ : mg x = some (.ref C)
  run : ∀ CX : CXT, ∃ (fI : Addr) (fd : FuncData) (ps : List Str), PySem.W.findIn K (.ref C) "__init__" = some (some (.ref fI)) ∧ PySem.W.typeIn K (.ref fI) = some (.type "function") ∧ FnOk P w K mg base CX 1 fI fd ps (spF C part ns) ∧ L2.Binds K fd ps []
/-- C(e, ..) -/
def tMkF (C : Addr) (part : Bool) (ns : List Str) (ta : TA) : L2.St → Hp → XK → Prop := fun σ H Q => ta σ H fun vs H1 => okV part ns.length vs ∧ ∀ dd, H1 dd = none → Q (.ref C) (some dd) (upd H1 dd (.xd (fldV ns vs)))
section
variable {X : Cx} {x : Str} {C : Addr} {part : Bool} {ns : List Str} {p pos : Pos} {e : Expr} {es : List Expr} {ta : TA}
theorem pmk_f (O : ErrOk X.prog X.w X.K X.mg X.base x C part ns) (hl : ns.length ≤ 5) (hr : Room 2 X.A) (hg : Gl X x) (ha : PA X (e :: es) ta) (mono : ∀ σ H (Q Q' : List V → Hp → Prop), (∀ vs H1, Q vs H1 → Q' vs H1) → ta σ H Q → ta σ H Q')
    (hdb : (x == ("__debug__" : Str)) = false := by decide) (he : starEach (e :: es) X.env = (false, eval e X.env) :: starEach es X.env := by rfl) (hpl : (backTo pos (starEach es X.env)).any (·.1) = false := by rfl) :
    PMk X (.Call (.Name x p) (e :: es) [] pos) (tMkF C part ns ta) := by
  obtain ⟨fI, fd, ps, iC, tI, F1, hb⟩ := O.run (L2.CX X.prog X.w)
  intro pins s σ H Q I h
  refine pmk_oex (pos := pos) (p := p) O.ox iC tI F1 hr hb .nil passN hg O.at_ ha hdb he hpl pins s σ H Q I ?_
  refine mono σ H _ _ (fun vs H1 ⟨ok, q⟩ => ?_) h
  have hv : vs.length = ns.length := ok.1
  refine ⟨by omega, fun a ha0 => ⟨a, vs ++ [], rfl, by rw [List.append_nil]; exact ok, upd_same, fun dx H' hdx ne e1 e2 e3 => ?_⟩⟩
  have hdx0 : H1 dx = none := by rwa [upd_ne ne] at hdx
  refine ⟨rfl, dx, _, e1, e2, hdx0, ?_⟩
  rw [List.append_nil]
  have same : upd (del H' a) dx (.xd (fldV ns vs)) = upd H1 dx (.xd (fldV ns vs)) := by
    funext b
    by_cases hb1 : b = dx
    · rw [hb1, upd_same, upd_same]
    · rw [upd_ne hb1, upd_ne hb1]
      by_cases hb2 : b = a
      · rw [hb2, del_same, ha0]
      · rw [del_ne hb2, e3 b hb2 hb1, upd_ne hb2]
  rw [same]
  exact q dx hdx0
end
/-! ### over data -/
def okD (part : Bool) (n : Nat) (ds : List D) : Prop := ds.length = n ∧ (part = true → ∃ p : Str, ds = [.str p] ∧ p.length ≤ 900)
def fldD (ns : List Str) (ds : List D) : List (Str × D) := (ns.zip ds).reverse
section
variable {K : PySem.W.Frag} {B : Hp} {β : List Addr}
theorem okV_of {part : Bool} {n : Nat} {ds : List D} {vs : List V} (r : Reps K B β vs ds) (h : okD part n ds) : okV part n vs := by
  refine ⟨r.len.trans h.1, fun hp => ?_⟩
  obtain ⟨p, rfl, hl⟩ := h.2 hp
  obtain ⟨v, hv, r1⟩ := r.one
  cases r1
  exact ⟨p, hv, hl⟩
theorem RepF.app {vs us : List (Str × V)} {ds es : List (Str × D)} (a : RepF K B β vs ds) (b : RepF K B β us es) : RepF K B β (vs ++ us) (ds ++ es) := by
  induction a with
  | nil => exact b
  | cons r _ ih => exact .cons r ih
theorem fld_of : ∀ {ns : List Str} {vs : List V} {ds : List D}, Reps K B β vs ds → RepF K B β (fldV ns vs) (fldD ns ds)
  | [], _, _, _ => .nil
  | _ :: _, [], ds, r => by cases r; exact .nil
  | n :: ns, v :: vs, ds, r => by
    cases r with
    | cons r1 r2 =>
      unfold fldV fldD
      rw [List.zip_cons_cons, List.zip_cons_cons, List.reverse_cons, List.reverse_cons]
      exact RepF.app (fld_of r2) (.cons r1 .nil)
end
section
variable {L : List W0} {X : Cx} {ED : XD} {w0 : W0} {T : List (Addr × Str)} {x : Str} {C : Addr} {part : Bool} {ns : List Str} {p pos pos' : Pos} {e : Expr} {es : List Expr} {tl : TLs}
/-- raise C(e, ..) -/
def sRaiseF (ED : XD) (C : Addr) (part : Bool) (ns : List Str) (tl : TLs) : TSd := fun _ ρ S => tl ρ S fun ds S1 => okD part ns.length ds ∧ ED (C, fldD ns ds) S1
theorem tA_mono {G : Gh} {K : PySem.W.Frag} (σ : L2.St) (H : Hp) (Q Q' : List V → Hp → Prop) (i : ∀ vs H1, Q vs H1 → Q' vs H1) (h : tA K G tl σ H Q) : tA K G tl σ H Q' := by
  obtain ⟨Y, β, S, ρ, R, rl, q, k⟩ := h
  exact ⟨Y, β, S, ρ, R, rl, q, fun ds S' vs β' H' s r q' => i _ _ (k ds S' vs β' H' s r q')⟩
theorem ds_raiseF (hc : X.calm = true) (tk : Takes X (fun cls d _ H => WD X.K T w0 ED cls d H)) (O : ErrOk X.prog X.w X.K X.mg X.base x C part ns) (hl : ns.length ≤ 5) (hr : Room 2 X.A) (hg : Gl X x) (ha : PA X (e :: es) (tA X.K ⟨w0 :: L, T⟩ tl))
    (hdb : (x == ("__debug__" : Str)) = false := by decide) (he : starEach (e :: es) X.env = (false, eval e X.env) :: starEach es X.env := by rfl) (hpl : (backTo pos (starEach es X.env)).any (·.1) = false := by rfl) :
    PS X (.Raise (some (.Call (.Name x p) (e :: es) [] pos)) none pos') (tS X.K ⟨w0 :: L, T⟩ (sRaiseF ED C part ns tl)) :=
  (ps_raise hc tk (pmk_f (p := p) O hl hr hg ha tA_mono hdb he hpl)).imp fun D' σ H ⟨Y, β, S, ρ, N, rl, q, l⟩ => ⟨Y, β, S, ρ, _, rl, q, fun ds S1 vs β1 H1 s1 r1 ⟨ok, q1⟩ => ⟨okV_of r1 ok, fun dd hdd => by
    have st := s1.ok.new (.xd (fldV ns vs)) hdd
    exact ⟨C, dd, fldV ns vs, fldD ns ds, Y, β1, S1, rfl, rfl, st.ok.less fun w hw => (by rw [List.mem_singleton.mp hw]; exact List.mem_cons_self ..), s1.ok.new_at _ hdd, fld_of (st.reps r1), q1⟩⟩⟩
end
end NC

set_option Elab.async false
set_option linter.all false
set_option maxRecDepth 100000
set_option maxHeartbeats 1000000
/-! NC23: what the head tells of a class of errors, as a Bool. -/
namespace NC
open PySem PySem.Spec PyProof.Rows L2
open Evl (Ex)

/-- the class's object -/
def clsB (K : PySem.W.Frag) (C : Addr) (nm : Str) : Bool := match K.lookup C with
  | some ⟨tp, _, .cls cd, sl⟩ => (match cd.mro, sl.toList with
    | .ref D :: bm, [_, _, some (.str z _), _, some (.builtin n), _] => tp == .type "type" && D == C && n == "ValueError.__new__" && (!cd.hasDel) && cd.hasDict && PySem.HandSPX.refsVE bm && z == nm
    | _, _ => false)
  | _ => false
theorem clsB_ok {K : PySem.W.Frag} {C : Addr} {nm : Str} (h : clsB K C nm = true) :
    (∃ nm q N bs bm sn sub ab col dd k0 k1 k2 k3 k5, K.lookup C = some (excClassObj nm q C N bs bm true sn sub ab col dd k0 k1 k2 k3 k5 "ValueError.__new__") ∧ PySem.HandSPX.refsVE bm = true) ∧ ∃ o t, K.lookup C = some o ∧ o.slots[2]? = some (some (.str nm t)) := by
  unfold clsB at h
  split at h
  · rename_i tp dd cd sl ho
    split at h
    · rename_i D bm k0 k1 z tz k3 n k5 hm hs
      simp only [Bool.and_eq_true, beq_iff_eq, Bool.not_eq_true'] at h
      obtain ⟨⟨⟨⟨⟨⟨e1, e2⟩, e3⟩, e4⟩, e5⟩, e6⟩, e7⟩ := h
      have hsl : sl = #[k0, k1, some (.str z tz), k3, some (.builtin n), k5] := by
        obtain ⟨l⟩ := sl
        exact congrArg Array.mk hs
      obtain ⟨cnm, bs, mro, ns, qn, hd, sn, sub, ab, col, del⟩ := cd
      dsimp only at hm e4 e5
      subst e1 e2 e3 e4 e5 e7 hsl hm
      exact ⟨⟨cnm, qn, ns, bs, bm, sn, sub, ab, col, dd, k0, k1, _, k3, k5, ho, e6⟩, _, tz, ho, rfl⟩
    · cases h
  · cases h
/-- what is told of a class beside its object -/
def ownB (K : PySem.W.Frag) (C : Addr) : Bool :=
  decide (PySem.W.findIn K (.ref C) "__setattr__" = some (some (.builtin "object.__setattr__"))) && xfB K C && decide (PySem.W.typeIn K (.ref C) = some (.type "type")) && PySem.W.keepIn K (.ref C) &&
  decide (PySem.W.findIn K (.ref C) "__class__" = some (some (.builtin "object.__class__"))) && decide (PySem.W.specialIn K (.builtin "object.__class__") "__get__" = some (some (.builtin "getset_descriptor.__get__"))) &&
  decide (PySem.W.takesIn K (.builtin "object.__class__") = some true) && decide (PySem.W.mroIn K C (.type "object") = some true) &&
  decide (PySem.W.ks_superIn K C C "__init__" = some (some (.builtin "ValueError.__init__"))) && decide (PySem.W.nsIn K PySem.cStatics "thirdparty.any" = some none) && decide (PySem.W.subIn K (.ref C) (.type "ValueError") = some true) &&
  decide (PySem.W.mroIn K C (.ref C) = some true)
theorem ownB_ok {K : PySem.W.Frag} {C : Addr} {nm : Str} (h : ownB K C = true) (h2 : clsB K C nm = true) : SupC K C ∧ XfC K C := by
  unfold ownB at h
  simp only [Bool.and_eq_true, decide_eq_true_eq] at h
  obtain ⟨⟨⟨⟨⟨⟨⟨⟨⟨⟨⟨a1, a2⟩, a3⟩, a4⟩, a5⟩, a6⟩, a7⟩, a8⟩, a9⟩, b1⟩, b2⟩, b3⟩ := h
  have x := xfB_ok a2
  exact ⟨⟨⟨(clsB_ok h2).1, a1, x.exC, a3, a4⟩, ⟨x.ga, x.gg, x.exC, x.hdC, a5, a6, a7, a8⟩, a9, b1, b2, b3⟩, x⟩
def nameB (K : PySem.W.Frag) (C : Addr) : Bool := PySem.W.readsIn K C (.type "type") && (match PySem.W.findCls K (.ref C) (.type "type") "__name__" with
  | some (.get g a c m) => g == .builtin "getset_descriptor.__get__" && a == .builtin "type.__name__" && c == .ref C && m == .type "type"
  | _ => false)
theorem nameB_ok {K : PySem.W.Frag} {C : Addr} {nm : Str} (h : nameB K C = true) (h2 : clsB K C nm = true) : NameC K C nm := by
  unfold nameB at h
  obtain ⟨h1, h⟩ := Bool.and_eq_true_iff.mp h
  refine ⟨h1, ?_, (clsB_ok h2).2⟩
  split at h
  · rename_i g a c m e
    simp only [Bool.and_eq_true, beq_iff_eq] at h
    obtain ⟨⟨⟨rfl, rfl⟩, rfl⟩, rfl⟩ := h
    exact e
  · cases h
def noB (K : PySem.W.Frag) (C : Addr) (fs : List Str) : Bool := fs.all fun f => decide (PySem.W.findIn K (.ref C) f = some none)
theorem noB_ok {K : PySem.W.Frag} {C : Addr} {fs : List Str} (h : noB K C fs = true) : ∀ f ∈ fs, PySem.W.findIn K (.ref C) f = some none := fun f hf => of_decide_eq_true (List.all_eq_true.mp h f hf)
/-- the def's code object, its cell -/
def codeB (K : PySem.W.Frag) (file : Str) (C fI cda cc : Addr) (qual : Str) : Bool :=
  decide (PySem.W.typeIn K (.ref fI) = some (.type "function")) && PySem.W.codeIn K (.ref cda) qual && (match K.lookup cda with
    | some ⟨_, _, .fields vs, _⟩ => (match (vs[2]? : Option Value) with
      | some (.str fl _) => file == fl
      | _ => false)
    | _ => false) && (match K.lookup cc with
    | some ⟨_, _, .cell (some (.ref D)), _⟩ => D == C
    | _ => false)
def scB (sc : Scope) (N : List Str) : Bool := sc.kind == .function && (!sc.isCoroutine) && (!sc.isGenerator) && (sc.names.all fun p => (p.2 != .cell && p.2 != .free) || (p.1 == "__class__" && p.2 != .cell)) && decide N.Nodup && (N.all fun n => sc.names.lookup n == some .local) &&
  (sc.names.lookup ("__class__" : Str) == some .free) && (sc.names.lookup ("super" : Str) == some .globalImplicit)
theorem scB_ok {sc : Scope} {N : List Str} (h : scB sc N = true) : InitS sc N := by
  unfold scB at h
  simp only [Bool.and_eq_true, beq_iff_eq, Bool.not_eq_true', decide_eq_true_eq] at h
  obtain ⟨⟨⟨⟨⟨⟨⟨a1, a2⟩, a3⟩, a4⟩, a5⟩, a6⟩, a7⟩, a8⟩ := h
  have a4' := List.all_eq_true.mp a4
  refine ⟨a1, a2, a3, fun y hy => ?_, fun x hx e => ?_, a5, fun n hn => beq_iff_eq.mp (List.all_eq_true.mp a6 n hn), a7, a8⟩
  · rcases hy with hy | hy
    · have := a4' _ (PySem.mem_of_lookup hy)
      simp at this
    · have := a4' _ (PySem.mem_of_lookup hy)
      simp at this
      exact this
  · have := a4' x hx
    rw [e] at this
    simp at this
section
variable {P : Program} {w : World} {K : PySem.W.Frag} {mg : Str → Option Value} {base : Heap} {x qual n1 n2 n3 f f2 nm sep : Str} {st : Stmt} {fI C cda cc : Addr} {ar : Arg} {j : Nat} {q1 q2 q3 q4 q5 q6 q7 q8 q9 p1 p2 p3 p4 p5 p6 p7 p8 r6 r7 r8 r9 : Pos} {e : Expr}
  {oc : Value} {od : Option Addr} {dV kV doc pm : Value} {an : Option Addr} {ct : Value} {osl : Array (Option Value)} {m : Str}
abbrev ini (qual : Str) (st : Stmt) (dV kV doc pm : Value) (an : Option Addr) (cda : Addr) (ct : Value) (cc : Addr) : FuncData := PySem.W.ksFn "__init__" qual (defArgs st) (defBody st) (defScope st) dV kV doc pm an (.ref cda) ct cc
def errB (K : PySem.W.Frag) (P : Program) (C fI cda cc : Addr) (nm qual : Str) (fs : List Str) : Bool := ownB K C && nameB K C && clsB K C nm && noB K C fs && codeB K P.main.file C fI cda cc qual && !(P.main.scope.names.lookup ("super" : Str)).isSome
theorem errB_ok {fs : List Str} (h : errB K P C fI cda cc nm qual fs = true) (hm : mg "super" = none) (lk : K.lookup fI = some ⟨oc, od, .func (ini qual st dV kV doc pm an cda ct cc), osl⟩) :
    SupC K C ∧ XfC K C ∧ NameC K C nm ∧ (∀ f ∈ fs, PySem.W.findIn K (.ref C) f = some none) ∧ PySem.W.typeIn K (.ref fI) = some (.type "function") ∧ InitF P K mg qual st fI C (ini qual st dV kV doc pm an cda ct cc) cda cc := by
  unfold errB codeB at h
  simp only [Bool.and_eq_true, decide_eq_true_eq, Bool.not_eq_true'] at h
  obtain ⟨⟨⟨⟨⟨h1, h2⟩, h3⟩, h4⟩, ⟨⟨h5, h6⟩, h7⟩, h8⟩, h9⟩ := h
  obtain ⟨s, xf⟩ := ownB_ok h1 h3
  refine ⟨s, xf, nameB_ok h2 h3, noB_ok h4, h5, ⟨⟨oc, od, dV, kV, doc, pm, an, ct, osl, rfl, lk, h6⟩, ?_, ?_, hm, h9⟩⟩
  · split at h7
    · rename_i cl cd vs cs hl
      split at h7
      · rename_i fl tf hv
        exact ⟨cl, cd, cs, vs, fl, tf, hl, hv, h7⟩
      · cases h7
    · cases h7
  · split at h8
    · rename_i cl cd D cs hl
      rw [beq_iff_eq.mp h8] at hl
      exact ⟨cl, cd, cs, hl⟩
    · cases h8
theorem err_part (hx : mg x = some (.ref C)) (hs : mg "super" = none) (iC : PySem.W.findIn K (.ref C) "__init__" = some (some (.ref fI))) (lk : K.lookup fI = some ⟨oc, od, .func (ini qual st dV kV doc pm an cda ct cc), osl⟩) (hB : errB K P C fI cda cc nm qual [f] = true)
    (Sc : scB (defScope st) [n1, n2] = true) (hp : ((defArgs st).posonlyargs ++ (defArgs st).args).head? = some ar) (har : ar.arg = n1) (hrd : ReadsSup (supText n1 n2 sep j p1 p2 p3 p4 p5 p6 p7 p8) q1 q2 q3 q4)
    (body : defBody st = [.Expr (supCall (supText n1 n2 sep j p1 p2 p3 p4 p5 p6 p7 p8) q1 q2 q3 q4) q5, .Assign [.Attribute (.Name n1 q6) f q7] (.Name n2 q8) q9]) (hsz : sep.length ≤ 10 ∧ nm.length ≤ 50) (hb : L2.Binds K (ini qual st dV kV doc pm an cda ct cc) [n1, n2] [])
    (hd1 : (n1 == ("__debug__" : Str)) = false := by decide) (hcd1 : (n1 == ("__classdict__" : Str)) = false := by decide) (hd2 : (n2 == ("__debug__" : Str)) = false := by decide) (hcd2 : (n2 == ("__classdict__" : Str)) = false := by decide) : ErrOk P w K mg base x C true [f] := by
  obtain ⟨s, xf, nc, no, ty, F⟩ := errB_ok hB hs lk
  exact ⟨s.ox, xf, s.xc, no, hx, fun CX => ⟨fI, _, _, iC, ty, init_part s F (scB_ok Sc) nc hp har hrd body hsz.1 hsz.2 (no f (List.mem_singleton.mpr rfl)) hd1 hcd1 hd2 hcd2, hb⟩⟩
theorem err_one (hx : mg x = some (.ref C)) (hs : mg "super" = none) (iC : PySem.W.findIn K (.ref C) "__init__" = some (some (.ref fI))) (lk : K.lookup fI = some ⟨oc, od, .func (ini qual st dV kV doc pm an cda ct cc), osl⟩) (hB : errB K P C fI cda cc nm qual [f] = true)
    (Sc : scB (defScope st) [n1, n2] = true) (hp : ((defArgs st).posonlyargs ++ (defArgs st).args).head? = some ar) (har : ar.arg = n1) (hrd : ReadsSup (.Constant (.str m) j p1) q1 q2 q3 q4)
    (body : defBody st = [.Expr (supCall (.Constant (.str m) j p1) q1 q2 q3 q4) q5, .Assign [.Attribute (.Name n1 q6) f q7] (.Name n2 q8) q9]) (hb : L2.Binds K (ini qual st dV kV doc pm an cda ct cc) [n1, n2] [])
    (hd1 : (n1 == ("__debug__" : Str)) = false := by decide) (hcd1 : (n1 == ("__classdict__" : Str)) = false := by decide) (hd2 : (n2 == ("__debug__" : Str)) = false := by decide) (hcd2 : (n2 == ("__classdict__" : Str)) = false := by decide) : ErrOk P w K mg base x C false [f] := by
  obtain ⟨s, xf, nc, no, ty, F⟩ := errB_ok hB hs lk
  exact ⟨s.ox, xf, s.xc, no, hx, fun CX => ⟨fI, _, _, iC, ty, init_one s F (scB_ok Sc) hp har hrd body (no f (List.mem_singleton.mpr rfl)) hd1 hcd1 hd2 hcd2, hb⟩⟩
theorem err_two (hx : mg x = some (.ref C)) (hs : mg "super" = none) (iC : PySem.W.findIn K (.ref C) "__init__" = some (some (.ref fI))) (lk : K.lookup fI = some ⟨oc, od, .func (ini qual st dV kV doc pm an cda ct cc), osl⟩) (hB : errB K P C fI cda cc nm qual [f, f2] = true)
    (Sc : scB (defScope st) [n1, n2, n3] = true) (hp : ((defArgs st).posonlyargs ++ (defArgs st).args).head? = some ar) (har : ar.arg = n1) (hrd : ReadsSup (.Constant (.str m) j p1) q1 q2 q3 q4)
    (body : defBody st = [.Expr (supCall (.Constant (.str m) j p1) q1 q2 q3 q4) q5, .Assign [.Attribute (.Name n1 q6) f q7] (.Name n2 q8) q9, .Assign [.Attribute (.Name n1 r6) f2 r7] (.Name n3 r8) r9]) (hb : L2.Binds K (ini qual st dV kV doc pm an cda ct cc) [n1, n2, n3] [])
    (hd1 : (n1 == ("__debug__" : Str)) = false := by decide) (hcd1 : (n1 == ("__classdict__" : Str)) = false := by decide) (hd2 : (n2 == ("__debug__" : Str)) = false := by decide) (hcd2 : (n2 == ("__classdict__" : Str)) = false := by decide)
    (hd3 : (n3 == ("__debug__" : Str)) = false := by decide) (hcd3 : (n3 == ("__classdict__" : Str)) = false := by decide) : ErrOk P w K mg base x C false [f, f2] := by
  obtain ⟨s, xf, nc, no, ty, F⟩ := errB_ok hB hs lk
  exact ⟨s.ox, xf, s.xc, no, hx, fun CX => ⟨fI, _, _, iC, ty, init_two s F (scB_ok Sc) hp har hrd body (no f (List.mem_cons_self ..)) (no f2 (List.mem_cons_of_mem _ (List.mem_singleton.mpr rfl))) hd1 hcd1 hd2 hcd2 hd3 hcd3, hb⟩⟩
end
end NC

set_option Elab.async false
set_option linter.all false
set_option maxRecDepth 100000
set_option maxHeartbeats 1000000
/-! NC24: sorted pairs, reversed slices. -/
namespace NC
open PySem PySem.Spec PyProof.Rows L2
open Evl (Ex)

/-- a square as data -/
def sqD (p : Int × Int) : D := .tup [.int p.1, .int p.2]
theorem Reps.all {K : PySem.W.Frag} {B : Hp} {β : List Addr} : ∀ {vs : List V} {ds : List D}, Reps K B β vs ds → ∀ {v : V}, v ∈ vs → ∃ d ∈ ds, Rep K B β v d := fun {vs ds} r v hv => by
  obtain ⟨i, hi, e⟩ := List.getElem_of_mem hv
  obtain ⟨d, hd, rv⟩ := r.getV (List.getElem?_eq_some_iff.mpr ⟨hi, e⟩)
  exact ⟨d, List.mem_of_getElem? hd, rv⟩
theorem Reps.mapped {K : PySem.W.Frag} {B : Hp} {β : List Addr} {α : Type} {f : α → V} {g : α → D} : ∀ {l : List α}, (∀ a ∈ l, Rep K B β (f a) (g a)) → Reps K B β (l.map f) (l.map g)
  | [], _ => .nil
  | a :: l, h => .cons (h a (List.mem_cons_self ..)) (Reps.mapped fun b hb => h b (List.mem_cons_of_mem _ hb))
/-- sorted(a list of pairs of ints) -/
def rSortP : RDs := fun xs S Q => ∃ (x : D) (ps : List (Int × Int)), xs = [x] ∧ drf S x = .lst (ps.map sqD) ∧ ∀ qs : List (Int × Int), qs.Perm ps → qs.Pairwise (fun p q => SrtO.lexB q p = false) → Q (.lst (qs.map sqD)) S
theorem c_sortP {X : Cx} {G : Gh} : CallR X (.builtin "sorted") (ls X.K G rSortP) := by
  rintro pins s σ H vs us Q I r ⟨Y, β, S, xs, Q', o, rr, ⟨x, ps, rfl, hx, q⟩, k⟩
  obtain ⟨v, rfl, rv⟩ := rr.one
  obtain ⟨u, rfl, ru⟩ := vals1 r
  obtain ⟨a, ws, rfl, h1, rp⟩ := ok_lst o rv hx
  obtain rfl : u = Value.ref a := ru
  obtain ⟨its, rw', hl, hz⟩ := I.list (X := X) (.inl (.inl h1))
  have one : ∀ w ∈ ws, ∃ t p, p ∈ ps ∧ w = V.ref t ∧ Rep X.K (hid Y β S H) β (.ref t) (sqD p) ∧ SqT X.K H t [.int p.1, .int p.2] := fun w hw => by
    obtain ⟨d, hd, rd⟩ := rp.all hw
    obtain ⟨p, hp, rfl⟩ := List.mem_map.mp hd
    cases rd with
    | tup e1 e2 =>
      obtain ⟨w1, w2, rfl, q1, q2⟩ := e2.two
      cases q1
      cases q2
      exact ⟨_, p, hp, rfl, .tup e1 e2, .inl (.inl (hid_ex _ _ e1))⟩
  obtain ⟨e1, e2⟩ := refs_back rw' fun w hw => by
    obtain ⟨t, _, _, e, _⟩ := one w hw
    exact ⟨t, e⟩
  let kk : Value → Int × Int := fun u => ((TS.intsOf s.heap u).getD 0 0, (TS.intsOf s.heap u).getD 1 0)
  have at_ : ∀ u ∈ its, ∃ t p, u = Value.ref t ∧ p ∈ ps ∧ kk u = p ∧ Rep X.K (hid Y β S H) β (.ref t) (sqD p) ∧ Srt.IsPair s.heap u p.1 p.2 := fun u hu => by
    obtain ⟨t, rfl⟩ := e2 u hu
    have hm : V.ref t ∈ ws := by rw [e1]; exact List.mem_map.mpr ⟨_, hu, rfl⟩
    obtain ⟨t', p, hp, e, rd, sq⟩ := one _ hm
    cases e
    obtain ⟨us, r2, tp, _⟩ := I.tuple sq
    obtain ⟨u1, u2, rfl, ri, rj⟩ := vals2 r2
    obtain ⟨t1, rfl⟩ := ri
    obtain ⟨t2, rfl⟩ := rj
    have ti : TS.TupInts s.heap (.ref t) [p.1, p.2] := ⟨t, _, rfl, tp, .cons _ _ (.cons _ _ .nil)⟩
    refine ⟨t, p, rfl, hp, ?_, rd, ?_⟩
    · show ((TS.intsOf s.heap (.ref t)).getD 0 0, (TS.intsOf s.heap (.ref t)).getD 1 0) = p
      rw [ti.ints]
      rfl
    · obtain ⟨ob, ho, hc, n, hd⟩ := tp
      exact ⟨t, ob, t1, t2, n, rfl, ho, hc, hd⟩
  refine SrtO.sorted_pairsO (k := kk) hl.isList (by rw [← rw'.length]; exact hz) (fun u hu => ?_) fun h' d out h1 h2 kp hd hn => ?_
  · obtain ⟨t, p, rfl, _, e, _, ip⟩ := at_ u hu
    rw [e]
    exact ip
  · have inI : ∀ u ∈ out, u ∈ its := fun u hu => h2.perm.mem_iff.mp hu
    have h3 : ∀ u ∈ out, ∃ a, u = Value.ref a := fun u hu => e2 u (inI u hu)
    obtain ⟨n, hn⟩ := hn
    have nd : H d = none := I.hok.fresh hd
    have hps : its.map kk = ps := by
      have : ∀ {us : List Value} {ws : List V} {qs : List (Int × Int)}, Vals ws us → Reps X.K (hid Y β S H) β ws (qs.map sqD) → (∀ u ∈ us, ∃ t p, u = Value.ref t ∧ kk u = p ∧ Rep X.K (hid Y β S H) β (.ref t) (sqD p)) → us.map kk = qs := by
        intro us
        induction us with
        | nil =>
          intro ws qs a b _
          cases a
          cases qs with
          | nil => rfl
          | cons q qs => cases b
        | cons u us ih =>
          intro ws qs a b c
          cases a with
          | cons a1 a2 =>
            cases qs with
            | nil => cases b
            | cons q qs =>
              cases b with
              | cons b1 b2 =>
                rw [List.map_cons, ih a2 b2 fun z hz => c z (List.mem_cons_of_mem _ hz)]
                obtain ⟨t, p, rfl, e, rp⟩ := c u (List.mem_cons_self ..)
                have : p = q := by
                  cases b1 with
                  | @tup a0 vs0 ds0 z1 z2 =>
                    have a1' : Value.ref t = Value.ref a0 := a1
                    cases a1'
                    cases rp with
                    | tup y1 y2 =>
                      have same := I.tuple_inj (.inl (.inl (hid_ex _ _ z1))) (.inl (.inl (hid_ex _ _ y1)))
                      obtain ⟨w1, w2, rfl, g1, g2⟩ := z2.two
                      obtain ⟨w3, w4, rfl, g3, g4⟩ := y2.two
                      cases g1
                      cases g2
                      cases g3
                      cases g4
                      simp only [List.cons.injEq, V.int.injEq, and_true] at same
                      exact Prod.ext same.1.symm same.2.symm
                rw [e, this]
      exact this rw' rp fun u hu => by
        obtain ⟨t, p, e, _, e', rd, _⟩ := at_ u hu
        exact ⟨t, p, e, e', rd⟩
    have st := o.new (.lst (out.map backV)) nd
    refine ⟨.ref d, upd H d (.lst (out.map backV)), I.laid (t' := s.toks) kp hd ⟨?_, out, n, vals_back h3, hn⟩, rfl, ?_⟩
    · rw [List.length_map, h2.perm.length_eq, ← rw'.length]
      exact hz
    · refine k (.lst ((out.map kk).map sqD)) S _ β _ st (o.newLst nd ?_) (q (out.map kk) (by rw [← hps]; exact h2.perm.map kk) (List.pairwise_map.mpr h1))
      rw [List.map_map]
      refine Reps.mapped fun u hu => ?_
      obtain ⟨t, p, rfl, _, e, rd, _⟩ := at_ u (inI u hu)
      show Rep _ _ _ (.ref t) (sqD (kk (.ref t)))
      rw [e]
      exact rd

/-! xs[::-1] -/
section
open PySem.W
variable {prog : Program} {w : World} {M : Model} {A : Around} {E : Value → Shared → Prop} {s : Shared}
theorem adjust_back (n : Nat) : Builtin.Slice.sliceAdjust none none (-1) (n : Int) = ((n : Int) - 1, -1) := by
  unfold Builtin.Slice.sliceAdjust
  simp
theorem places_back (n : Nat) : Builtin.Slice.slicePlaces ((n : Int) - 1) (-1) (-1) = n := by
  unfold Builtin.Slice.slicePlaces
  have h1 : ¬ ((-1 : Int) > 0) := by decide
  simp only [h1, if_false, show (- -1 : Int) = 1 by decide, Int.ediv_one]
  split <;> omega
theorem applied_back {sl : Addr} {vl vu vs : Value} {n : Nat} {Q : Int × Int × Nat → Shared → Prop} (hs : s.heap.IsSliceOf sl vl vu vs) (pl : IsPart vl none) (pu : IsPart vu none) (ps : IsPart vs (some (-1)))
    (h : Q ((n : Int) - 1, -1, n) s) : wpAny (model prog w) A (Builtin.Slice.sliceApplied (.ref sl) (pure (n : Int))) Q E s := by
  obtain ⟨os, e1, e2, e3⟩ := id hs
  unfold Builtin.Slice.sliceApplied Builtin.Slice.sliceFields
  refine wpAny_bind (wpAny_bind (wpAny_field e1 e3 (x := vl) rfl (wpAny_bind (wpAny_field e1 e3 (x := vu) rfl (wpAny_bind (wpAny_field e1 e3 (x := vs) rfl (wpAny_pure ?_)))))))
  refine wpAny_bind (HT.slicePart_ ps ?_)
  show wpAny _ _ (if ((-1 : Int) == 0) = true then _ else _) _ _ s
  rw [if_neg (by decide)]
  refine wpAny_bind (HT.slicePart_ pl (wpAny_bind (HT.slicePart_ pu (wpAny_bind (wpAny_pure ?_)))))
  show wpAny _ _ (match Builtin.Slice.sliceAdjust none none (-1) (n : Int) with | (lo, hi) => pure (lo, (-1 : Int), Builtin.Slice.slicePlaces lo hi (-1))) _ _ s
  rw [adjust_back]
  show wpAny _ _ (pure ((n : Int) - 1, (-1 : Int), Builtin.Slice.slicePlaces ((n : Int) - 1) (-1) (-1))) _ _ s
  rw [places_back]
  exact wpAny_pure h
theorem fm_congr {α β : Type} {f g : α → Option β} : ∀ {l : List α}, (∀ a ∈ l, f a = g a) → l.filterMap f = l.filterMap g
  | [], _ => rfl
  | a :: l, h => by rw [List.filterMap_cons, List.filterMap_cons, h a (List.mem_cons_self ..), fm_congr fun b hb => h b (List.mem_cons_of_mem _ hb)]
theorem pick_back (xs : Array Value) : ((List.range xs.size).filterMap fun (m : Nat) => xs[((xs.size : Int) - 1 + (m : Int) * (-1)).toNat]?).toArray = xs.toList.reverse.toArray := by
  have e : (List.range xs.size).filterMap (fun (m : Nat) => xs[((xs.size : Int) - 1 + (m : Int) * (-1)).toNat]?) = ((List.range xs.size).map fun k => xs.size - 1 - k).filterMap (xs[·]?) := by
    rw [List.filterMap_map]
    refine fm_congr fun m hm => ?_
    have := List.mem_range.mp hm
    have e : ((xs.size : Int) - 1 + (m : Int) * (-1)).toNat = xs.size - 1 - m := by omega
    rw [e]
    rfl
  rw [e, krv_range, List.filterMap_reverse, krv_all]
theorem getItem_tuple_back {t sl : Addr} {items : Array Value} {vl vu vs : Value} {Q : Value → Shared → Prop} (ht : IsTup s.heap t items) (hs : s.heap.IsSliceOf sl vl vu vs) (pl : IsPart vl none) (pu : IsPart vu none) (ps : IsPart vs (some (-1)))
    (h : Q (.ref s.heap.objs.size) { s with heap := s.heap.push { cls := .type "tuple", data := .seq items.toList.reverse.toArray } }) (hsz : items.size ≤ sizeLine) : wpAny (model prog w) A (getItem (.ref t) (.ref sl)) Q E s := by
  have room : sizeOk (.seq items.toList.reverse.toArray) := by
    show items.toList.reverse.toArray.size ≤ sizeLine
    rw [List.size_toArray, List.length_reverse, Array.length_toList]
    exact hsz
  obtain ⟨os, e1, e2, e3⟩ := id hs
  have isSl : s.TypeIs (.ref sl) "slice" := ⟨os, e1, e2⟩
  unfold getItem
  try with_reducible refine wpAny_holding ?_
  first | refine wpAny_bind (wpAny_pure ?_) | skip
  refine wpAny_bind (wpAny_sequenceKey ht.typeIs (by decide) ?_)
  refine wpAny_bind (wpAny_callSpecial?_slot (name := Str.ofString "__getitem__") ht.typeIs PyProof.Rows.slot_tuple_getitem
    (wpAny_call_entry PyProof.Rows.slot_tuple_getitem ht.typeIs PyProof.Rows.entry_tuple_getitem ?_ (PyProof.Rows.args_tuple_getitem _ _)))
  show wpAny _ _ (Builtin.Tuple.tupleItemsOf (.ref t) >>= _) _ _ s
  refine wpAny_bind (tupleItemsOf_ ht ?_)
  refine wpAny_bind (wpAny_typeOf isSl ?_)
  rw [if_pos (by decide)]
  refine wpAny_bind (applied_back hs pl pu ps ?_)
  have no : ¬ (((items.size : Int) - 1 == 0 && (-1 : Int) == 1 && items.size == items.size) = true) := by simp
  show wpAny _ _ (if ((items.size : Int) - 1 == 0 && (-1 : Int) == 1 && items.size == items.size) = true then _ else _) _ _ s
  rw [if_neg no, pick_back]
  first
    | exact wpAny_bind (m := Builtin.Tuple.tupleExact _) (wpAny_newObj_type (wpAny_pure ⟨_, rfl, wpAny_pure h⟩) room)
    | exact wpAny_bind (m := Builtin.Tuple.tupleExact _) (wpAny_newObj_type (wpAny_bind (wpAny_pure (wpAny_pure ⟨_, rfl, wpAny_pure h⟩))) room)
    | exact wpAny_bind (wpAny_bind (m := Builtin.Tuple.tupleExact _) (wpAny_newObj_type (wpAny_pure (wpAny_pure ⟨_, rfl, wpAny_pure h⟩)) room))
    | exact wpAny_bind (wpAny_bind (m := Builtin.Tuple.tupleExact _) (wpAny_newObj_type (wpAny_pure ⟨_, rfl, wpAny_pure h⟩) room))
end
section
variable {X : Cx} {G : Gh} {e : Expr} {ta : TD} {k : Nat} {p1 p2 p3 pos : Pos}
def rRev : RD1 := fun x S Q => match drf S x with
  | .lst xs => Q (.lst xs.reverse) S
  | .tup xs => Q (.tup xs.reverse) S
  | _ => False
theorem Reps.rev {K : PySem.W.Frag} {B : Hp} {β : List Addr} : ∀ {vs : List V} {ds : List D}, Reps K B β vs ds → Reps K B β vs.reverse ds.reverse
  | [], _, r => by cases r; exact .nil
  | v :: vs, _, r => by
    cases r with
    | cons r1 r2 =>
      rw [List.reverse_cons, List.reverse_cons]
      exact (Reps.rev r2).append (.cons r1 .nil)
abbrev backE (e : Expr) (k : Nat) (p1 p2 p3 pos : Pos) : Expr := .Subscript e (.Slice none none (some (.UnaryOp .USub (.Constant (.int 1) k p1) p2)) p3) pos
theorem de_rev (he : PE X e (tE X.K G ta)) : PE X (backE e k p1 p2 p3 pos) (tE X.K G (eUn rRev ta)) := by
  refine ⟨fun pins s σ H Q I ⟨Y, β, S, ρ, Q', rl, q, kk⟩ => ?_⟩
  refine Subscript_ (thn (he.run pins s σ H (fun v H1 => ∃ d S1 β1, Step X.K G Y β S H β1 S1 H1 ∧ Rep X.K (hid Y β1 S1 H1) β1 v d ∧ rRev d S1 Q') I ⟨Y, β, S, ρ, _, rl, q, fun d S1 v β1 H1 s1 r1 q1 => ⟨d, S1, β1, s1, r1, q1⟩⟩) fun u s1 ⟨v, H1, I1, r1, d, S1, β1, st, rd, q1⟩ => ?_)
  have hst : PO X (some (.UnaryOp .USub (.Constant (.int 1) k p1) p2)) (tPart (tUn (rU fun i => .int (-i)) (tC (.int 1)))) := po_some (pe_un un_neg pe_int)
  refine wpAny_Slice (thn (po_none.run pins s1 σ H1 (fun o H2 => o = none ∧ H2 = H1) I1 ⟨rfl, rfl⟩) fun vl s2 ⟨l, H2, I2, pl, el, e2⟩ => ?_)
  subst el e2
  refine thn (po_none.run pins s2 σ H2 (fun o H3 => o = none ∧ H3 = H2) I2 ⟨rfl, rfl⟩) fun vu s3 ⟨u', H3, I3, pu, eu, e3⟩ => ?_
  subst eu e3
  refine thn (hst.run pins s3 σ H3 (fun o H4 => o = some (-1) ∧ H4 = H3) I3 ⟨1, rfl, -1, rfl, rfl, rfl⟩) fun vs s4 ⟨o, H4, I4, ps, eo, e4⟩ => ?_
  subst eo e4
  have I5 : L2.Inv X pins σ H4 { s4 with heap := s4.heap.push { cls := .type "slice", data := .fields #[vl, vu, vs] } } := I4.kept (t' := s4.toks) fun b ob q => Heap.get?_push_of_some _ q
  unfold rRev at q1
  generalize hx : drf S1 d = x at q1
  cases x with
  | lst ys =>
    obtain ⟨a, ws, rfl, h1, rr⟩ := ok_lst st.ok rd hx
    obtain rfl : u = Value.ref a := r1
    obtain ⟨its, rw', ht, hz⟩ := I5.list (.inl (.inl h1))
    have hlen := rw'.length
    show wpAny (model X.prog X.w) X.A (subscriptTail e _ (.ref a) (.ref s4.heap.objs.size)) (EP X pins σ Q) X.xe _
    refine tail_any (ops := [.ref a, .ref s4.heap.objs.size]) ht.isList.typeIs (PySem.slot_list_getitem.lookup) ?_ (by with_unfolding_all rfl)
    refine wpAny_getItem_list_slice ht.isList (Heap.IsSliceOf.new _ vl vu vs) pl pu ps (by decide) ?_ (by rw [List.size_toArray]; omega)
    rw [PySem.W.krv_pick]
    have np := I5.hok.fresh (Nat.le_refl _)
    exact ⟨.ref _, _, I5.laid (t' := s4.toks) (o := .lst ws.reverse) (fun b ob q => Heap.get?_push_of_some _ q) (Nat.le_refl _) ⟨by rw [List.length_reverse]; exact hz, _, 0, rw'.reverse, Heap.get?_push_size _ rfl⟩, rfl,
      kk _ S1 _ β1 _ (st.trans (st.ok.new _ np)) (st.ok.newLst np rr.rev) q1⟩
  | tup ys =>
    obtain ⟨a, ws, rfl, h1, rr⟩ := ok_tup st.ok rd hx
    obtain rfl : u = Value.ref a := r1
    obtain ⟨its, rw', ht, hz⟩ := I5.tuple (.inl (.inl (hid_ex _ _ h1)))
    have hlen := rw'.length
    show wpAny (model X.prog X.w) X.A (subscriptTail e _ (.ref a) (.ref s4.heap.objs.size)) (EP X pins σ Q) X.xe _
    refine tail_any (ops := [.ref a, .ref s4.heap.objs.size]) ht.typeIs (PyProof.Rows.slot_tuple_getitem.lookup) ?_ (by with_unfolding_all rfl)
    refine getItem_tuple_back ht (Heap.IsSliceOf.new _ vl vu vs) pl pu ps ?_ (by rw [List.size_toArray]; omega)
    have np := I5.hok.fresh (Nat.le_refl _)
    exact ⟨.ref _, _, I5.laid (t' := s4.toks) (o := .tup ws.reverse) (fun b ob q => Heap.get?_push_of_some _ q) (Nat.le_refl _) ⟨by rw [List.length_reverse]; exact hz, _, rw'.reverse, ⟨_, Heap.get?_push_size _ rfl, rfl, 0, rfl⟩⟩, rfl,
      kk _ S1 _ β1 _ (st.trans (st.ok.new _ np)) (st.ok.newTup np rr.rev) q1⟩
  | _ => exact q1.elim
end
end NC

set_option Elab.async false
set_option linter.all false
set_option maxRecDepth 100000
set_option maxHeartbeats 1000000
/-! NC25: dicts whose keys are tuples. -/
namespace NC
open PySem PySem.Spec PyProof.Rows L2
open Evl (Ex)

section
variable {X : Cx} {pins : List (Addr × Obj)} {σ : L2.St} {H : Hp} {s : Shared} {a b : Addr} {kvs : List (List Key × V)} {ks : List Key} {y : V} {u : Value} {A : Around} {E : Value → Shared → Prop} {Q : Unit → Shared → Prop}
/-- a tuple's entry is written -/
theorem dt_set (hu : A.units < cLine) (I : L2.Inv X pins σ H s) (ha : H a = some (.dT kvs)) (hb : H b = some (.tup (ks.map kV))) (ry : RelV y u) (hz : kvs.length < sizeLine) (h : ∀ s', L2.Inv X pins σ (upd H a (.dT (putK kvs ks y))) s' → Q () s') :
    wpAny (model X.prog X.w) A (dictSet a (.ref b) u) Q E s := by
  obtain ⟨_, hd, xs, rel, dd⟩ := dt_of I.hok ha
  have few : xs.length ≤ sizeLine := by
    rw [← Paired.length rel]
    omega
  have room : (putK kvs ks y).length ≤ sizeLine := by
    have := length_putK kvs ks y
    omega
  refine wpAny_dictSet_heap (hsz := few) hu (key_of I.hok hb) dd fun h' d' same => h _ ?_
  obtain ⟨o, es, ep, q1, q2, q3, q4, _, q5⟩ := d'
  exact d_write I (by rw [ha]; exact True.intro) same ⟨o, q1⟩ ⟨room, hd, _, (rel.put ks hb ry).keeps fun c zs ec => by rw [upd_ne (ne_of ec ha fun z => nomatch z)]; exact ec, o, es, ep, q1, q2, q3, q4, q5⟩
end
section
variable {X : Cx} {G : Gh} {k v : Expr} {tk tv : TE} {ta tb : TD} {pos : Pos}
/-- {k: v}, k a tuple of ints and texts -/
def tDit1 (tk tv : TE) : TE := fun σ H Q => ∀ p, H p = none → tk σ (upd H p (.dT [])) fun x H1 => tv σ H1 fun y H2 => ∃ (b : Addr) (ks : List Key), x = .ref b ∧ H2 b = some (.tup (ks.map kV)) ∧ H2 p = some (.dT []) ∧ Q (.ref p) (upd H2 p (.dT [(ks, y)]))
theorem pe_dit1 (hu : X.A.units + 65 < cLine) (hk : PE X k tk) (hv : PE X v tv) : PE X (.Dict [some k] [v] pos) (tDit1 tk tv) := by
  refine ⟨fun pins s σ H Q I h => ?_⟩
  have two : ([(some (eval k X.env), (do let x ← eval v X.env; standAt pos; pure x : Sem Value))] : List (Option (Sem Value) × Sem Value)) = [(eval k X.env, (do let x ← eval v X.env; standAt pos; pure x : Sem Value))].map fun p => (some p.1, p.2) := rfl
  have shape : eval (.Dict [some k] [v] pos) X.env = (do standAt pos; dictDisplay [(some (eval k X.env), (do let x ← eval v X.env; standAt pos; pure x : Sem Value))]) := rfl
  rw [shape, two, dictDisplay_pairs _ (by simp) (by simp)]
  refine wpAny_bind (wpAny_standAt (wpAny_bind ?_))
  unfold subDict
  refine wpAny_bind (wpAny_alloc ?_)
  refine wpAny_bind (wpAny_holding ?_)
  rw [if_pos (by simp)]
  have hn := I.hok.fresh (Nat.le_refl s.heap.objs.size)
  have I1 := I.laid (a := s.heap.objs.size) (o := .dT []) (h' := s.heap.push { cls := .type "dict", data := .dict #[] }) (t' := s.toks) (fun _ _ q => Heap.get?_push_of_some _ q) (Nat.le_refl _) (dt_empty s.heap I.big)
  refine wpAny_bind (evalPairs_cons (thn (hk.run pins _ σ _ _ I1 (h _ hn)) fun kv s1 ⟨x, H1, I2, rx, q1⟩ => ?_))
  refine wpAny_bind (thn (hv.run pins s1 σ H1 _ I2 q1) fun vv s2 ⟨y, H2, I3, ry, b, ks, ex, hb, hp, q2⟩ => ?_)
  refine wpAny_bind (wpAny_standAt (wpAny_pure (evalPairs_nil ?_)))
  subst ex
  obtain rfl : kv = Value.ref b := rx
  refine wpAny_holding (wpAny_bind ?_)
  rw [List.forIn_cons]
  refine wpAny_bind ?_
  show wpAny _ _ (dictSet s.heap.objs.size (.ref b) vv >>= fun _ => _) _ _ _
  refine wpAny_bind (dt_set (by omega) I3 hp hb ry (by decide) fun s3 I4 => ?_)
  exact wpAny_pure (wpAny_pure (wpAny_pure (wpAny_pure (wpAny_pure ⟨.ref _, _, I4, rfl, q2⟩))))
/-! over data -/
def eDit1 (ta tb : TD) : TD := fun ρ S Q => ta ρ S fun x S1 => tb ρ S1 fun y S2 => ∃ ks : List Key, x = .tup (ks.map kD) ∧ Q (.dit [(ks, y)]) S2
theorem Reps.keys {K : PySem.W.Frag} {B : Hp} {β : List Addr} : ∀ {ks : List Key} {vs : List V}, Reps K B β vs (ks.map kD) → vs = ks.map kV
  | [], _, h => by cases h; rfl
  | .inl i :: ks, _, h => by
    cases h with
    | cons h1 h2 =>
      cases h1
      rw [Reps.keys h2]
      rfl
  | .inr x :: ks, _, h => by
    cases h with
    | cons h1 h2 =>
      cases h1
      rw [Reps.keys h2]
      rfl
theorem code_dT {c : Addr} {q : Str} {us : List (List Key × V)} : HO.dT us ≠ LamX.CodeO c q := fun z => by
  unfold LamX.CodeO at z
  cases z
theorem de_dit1 (hu : X.A.units + 65 < cLine) (hk : PE X k (tE X.K G ta)) (hv : PE X v (tE X.K G tb)) : PE X (.Dict [some k] [v] pos) (tE X.K G (eDit1 ta tb)) :=
  (pe_dit1 hu hk hv).imp fun σ H Q ⟨Y, β, S, ρ, Q', rl, q, kk⟩ => fun p hp => by
    have hpY : p ∉ Y := fun hm => rl.ok.xtrk p hm hp
    obtain ⟨ok0, ex0⟩ := rl.ok.open hp (.dT [])
    have hgp := rl.ok.unseen hp
    have rl1 : Rel X.K G (p :: Y) β S ρ σ (upd H p (.dT [])) := ⟨ok0, rl.len, fun j d e => let ⟨v, e1, r⟩ := rl.get j d e; ⟨v, e1, r.mono ex0 (.refl _)⟩⟩
    refine ⟨p :: Y, β, S, ρ, _, rl1, q, fun x S1 v β1 H1 s1 r1 q1 => ⟨p :: Y, β1, S1, ρ, _, rl1.step s1, q1, fun y S2 w β2 H2 s2 r2 ⟨ks, ex, q2⟩ => ?_⟩⟩
    subst ex
    have s12 := s1.trans s2
    have r1' := s2.rep r1
    cases r1' with
    | @tup b vs _ hb rv =>
      have ev := rv.keys
      subst ev
      have hpd : H2 p = some (.dT []) := (s12.ext p (by simp)).at upd_same fun _ z => (by cases z)
      refine ⟨b, ks, rfl, hid_ex _ _ hb, hpd, ?_⟩
      have o1 := s12.ok.touch hgp ⟨hpd, fun _ z => (by cases z), fun _ _ => code_dT⟩ (.dT [(ks, w)])
      obtain ⟨ok', ex'⟩ := o1.close hgp upd_same fun _ z => (by cases z)
      have eh : hid (p :: Y) β2 S2 (upd H2 p (.dT [(ks, w)])) = hid (p :: Y) β2 S2 H2 := hid_upd
      have hl' : hid Y β2 S2 (upd H2 p (.dT [(ks, w)])) p = some (.dT [(ks, w)]) := by
        rw [hid_of hpY fun n o e1 _ => s12.ok.out p (List.mem_of_getElem? e1) (by simp)]
        exact upd_same
      refine kk _ S2 _ β2 _ ⟨s12.pre, ?_, fun a ha => ?_, fun a ha => ?_, ok'⟩ (.dit hl' (.cons (r2.mono (by rw [← eh]; exact ex') (.refl _)) .nil)) q2
      · exact (ex0.trans s12.ex).trans (by rw [← eh]; exact ex')
      · have e : a ≠ p := fun e => hpY (e ▸ ha)
        have k1 : Kept H (upd H p (.dT [])) a := .inl (upd_ne e)
        exact (k1.trans (s12.ext a (by simp [ha]))).trans (.inl (upd_ne e))
      · by_cases e : a = p
        · rw [e, upd_same]
          simp
        · rw [upd_ne e]
          exact s12.trk a (by rw [upd_ne e]; exact ha)
end
end NC

set_option Elab.async false
set_option linter.all false
set_option maxRecDepth 100000
set_option maxHeartbeats 1000000
/-! NC26: defs that make lambdas; the facts about classes in one place. -/
namespace NC
open PySem PySem.Spec PyProof.Rows L2
open Evl (Ex)

section
variable {P : Program} {w : World} {K : PySem.W.Frag} {mg : Str → Option Value} {base : Heap} {k : Nat} {f c : Addr} {fd : FuncData} {ps N : List Str} {r : RDs} {x qual : Str} {st : Stmt} {tb : TSd} {T : List (Addr × Str)}
/-- a def whose code object is told -/
theorem def_okm (F : Fun K x qual st f fd) (hc : fd.code = .ref c) (Sc : FnScope N ps (defScope st)) (hl : ∀ xs S Q, r xs S Q → xs.length = ps.length)
    (hb : ∀ (A : Around) (outer : List Env) (s : Shared) (H : Hp) (E : XK), Room k (A.deeper (envOfC qual (defScope st) s.heap.objs.size f (.ref c))) → A.guards = some [] →
      PSs (cxOf CX0 P w K mg base N qual (defScope st) f (.ref c) A outer s H E).nox (defBody st) (tS K ⟨[], T⟩ tb))
    (hr : ∀ xs S Q, r xs S Q → runD N.length tb xs S Q) : FnG P w K mg base CX0 (k + 1) f fd ps (lsp K T r) := by
  obtain ⟨oc, od, kV, doc, pm, an, cdv, ct, osl, rfl, lk, hcd⟩ := F.ex
  have ec : cdv = .ref c := hc
  subst ec
  refine ⟨fun vs H Q E h => ?_, ?_⟩
  · obtain ⟨Y, β, S, xs, Q', o, rr, q, _⟩ := h
    rw [rr.len]
    exact hl _ _ _ q
  intro A outer s H args us vs Q E room grd e0 bnd rel hsp
  obtain ⟨Y, β, S, xs, Q', o, rr, q, kk⟩ := hsp
  have size : vs.length = ps.length := by
    rw [rr.len]
    exact hl _ _ _ q
  have kin : K.In s.heap := e0.mod.kin.keeps fun b o z => (e0.bs b o z).1
  have lim := e0.mod.nolimit.keeps (h' := s.heap) fun b o z => (e0.bs b o z).1
  have kinds : ∀ y ∈ ps.zip us, (defScope st).names.lookup y.1 = some .local ∨
      ((defScope st).names.lookup y.1 = some .cell ∧ ((cellsFrom (s.heap.objs.size + 1) (defScope st).names []).lookup y.1).isSome = true) := by
    rintro ⟨n, v⟩ hy
    rcases Sc.par n (List.of_mem_zip hy).1 with q | q
    · exact .inl q
    · exact .inr ⟨q, PySem.W.cellsFrom_some _ _ _ (.inl q)⟩
  apply codeAny_call_function room.depth (kin _ _ lk) rfl Sc.co Sc.gen rfl (PySem.W.codeRec_of kin hcd)
  apply bnd
  refine wpAny_newFunctionEnv_cells Sc.kind kinds ?_
  rintro env rfl s1 inc
  refine ⟨lim.keeps inc.toInCall.keep, codeAny_func ?_⟩
  have I := inv_start (CX := CX0) (E := E) (f := f) (cd := .ref c) (qual := qual) Sc room.hd e0 size rel inc
  refine wpAny_mono ((hb A outer s H E (room.deeper _) grd).nox.run [] s1 (L2.start N vs) H { nx := fun _ H' => Q .non H', rt := Q } I ⟨Y, β, S, _, _, start_rel o rr, hr xs S Q' q, ⟨fun ρ' S' σ' β' H' s' r' q' => kk .non S' .non β' H' s' .non q', fun d S' v β' H' s' r' q' => kk d S' v β' H' s' r' q', fun _ _ _ _ _ _ _ z => z.elim, fun _ _ _ _ _ _ _ z => z.elim⟩⟩) ?_ fun e s' z => z
  rintro fl s' hs
  cases fl with
  | ret u => exact hs.elim fun v hs => hs.elim fun σ' hs => hs.elim fun H' ⟨J, rv, q⟩ => ⟨v, H', J.os, J.bare, J.base, J.hok, rv, q⟩
  | next => exact hs.elim fun σ' hs => hs.elim fun H' ⟨J, q⟩ => ⟨.non, H', J.os, J.bare, J.base, J.hok, rfl, q⟩
  | brk => exact hs.elim fun σ' hs => hs.elim fun H' hs => hs.2.elim
  | cont => exact hs.elim fun σ' hs => hs.elim fun H' hs => hs.2.elim
end
/-- the name of a class, as a value -/
theorem pe_C {X : Cx} {x : Str} {C : Addr} {pos : Pos} (hm : X.mg x = some (.ref C)) (hg : Gl X x := by rfl) (hd : (x == ("__debug__" : Str)) = false := by decide) : PE X (.Name x pos) (tC (.ref C)) := pe_glob hg hm rfl hd
theorem names_C {X : Cx} {x : Str} {C : Addr} (hm : X.mg x = some (.ref C)) (hg : Gl X x := by rfl) (hd : (x == ("__debug__" : Str)) = false := by decide) : Names X x (.ref C) := ⟨hg, hd, .inl hm⟩
/-- nothing leaves -/
theorem out_no {X : Cx} {G : Gh} (Y β : List Addr) (S : Store) (H : Hp) (_ : Ok X.K G Y β S H) (cls : Value) (d : Option Addr) (σ2 : L2.St) (H2 : Hp) (h : WD X.K G.T ⟨Y, β, S, H⟩ NoX cls d H2) : (fun _ _ _ _ => False : WX) cls d σ2 H2 := by
  obtain ⟨_, _, _, _, _, _, _, _, _, _, _, _, z⟩ := h
  exact z
/-- of two classes -/
def exmB (K : PySem.W.Frag) (a b : Addr) (r : Bool) : Bool := PySem.W.exmOne K (.ref a) (.ref b) == some r
def kitBB (K : PySem.W.Frag) (a b : Addr) (r : Bool) : Bool := PySem.W.kitOne K (.ref a) (.ref b) == some r
def kitN (K : PySem.W.Frag) (b : Addr) : Bool := PySem.W.kitOne K (.type "NoneType") (.ref b) == some false
theorem exmB_ok {K : PySem.W.Frag} {a b : Addr} {r : Bool} (h : exmB K a b r = true) : PySem.W.exmOne K (.ref a) (.ref b) = some r := beq_iff_eq.mp h
theorem kitBB_ok {K : PySem.W.Frag} {a b : Addr} {r : Bool} (h : kitBB K a b r = true) : PySem.W.kitOne K (.ref a) (.ref b) = some r := beq_iff_eq.mp h
theorem kitN_ok {K : PySem.W.Frag} {b : Addr} (h : kitN K b = true) : PySem.W.kitOne K (.type "NoneType") (.ref b) = some false := beq_iff_eq.mp h
/-- the suites of a class statement -/
def clsItem (st : Stmt) (i : Nat) : Stmt := match st with
  | .ClassDef _ _ _ body _ _ _ _ _ _ _ => body.getD i (.Pass ⟨0, 0, 0, 0⟩)
  | _ => .Pass ⟨0, 0, 0, 0⟩
theorem bt_sorted : bootBuiltins "sorted" = some (.builtin "sorted") := by decide +kernel
end NC

set_option Elab.async false
set_option linter.all false
set_option maxRecDepth 100000
set_option maxHeartbeats 1000000
/-! NC27: plain tools: what stands between two statements told by the slots that change; heads of the newer readings; squares. -/
namespace NC
open PySem PySem.Spec PyProof.Rows L2

section
variable {ρ : Rho} {S : Store} {Q : QD} {N : DN} {su sv : TSd} {i j k : Nat}
theorem cut0 (P : Store → Prop) (h1 : ∀ N' : DN, N'.rt = N.rt → (∀ S', P S' → N'.nx ρ S') → su N' ρ S) (h2 : ∀ S', P S' → sv N ρ S') : sSeq su sv N ρ S :=
  cut (fun ρ' S' => ρ' = ρ ∧ P S') (fun N' hrt hnx => h1 N' hrt fun S' p => hnx _ _ ⟨rfl, p⟩) fun ρ' S' ⟨e, p⟩ => by rw [e]; exact h2 S' p
theorem cut1 (i : Nat) (P : D → Store → Prop) (h1 : ∀ N' : DN, N'.rt = N.rt → (∀ d S', P d S' → N'.nx (ρ.set i (some d)) S') → su N' ρ S) (h2 : ∀ d S', P d S' → sv N (ρ.set i (some d)) S') : sSeq su sv N ρ S :=
  cut (fun ρ' S' => ∃ d, ρ' = ρ.set i (some d) ∧ P d S') (fun N' hrt hnx => h1 N' hrt fun d S' p => hnx _ _ ⟨d, rfl, p⟩) fun ρ' S' ⟨d, e, p⟩ => by rw [e]; exact h2 d S' p
theorem cut2 (i j : Nat) (P : D → D → Store → Prop) (h1 : ∀ N' : DN, N'.rt = N.rt → (∀ d e S', P d e S' → N'.nx ((ρ.set i (some d)).set j (some e)) S') → su N' ρ S) (h2 : ∀ d e S', P d e S' → sv N ((ρ.set i (some d)).set j (some e)) S') : sSeq su sv N ρ S :=
  cut (fun ρ' S' => ∃ d e, ρ' = (ρ.set i (some d)).set j (some e) ∧ P d e S') (fun N' hrt hnx => h1 N' hrt fun d e S' p => hnx _ _ ⟨d, e, rfl, p⟩) fun ρ' S' ⟨d, e, eq, p⟩ => by rw [eq]; exact h2 d e S' p
end
section
variable {ρ : Rho} {S : Store} {Q : QD} {N : DN} {ta tb : TD} {tl tk : TLs} {rx : RDx} {ED : XD} {n m : Nat} {pm : List Nat} {K : PySem.W.Frag} {C : Addr} {part : Bool} {ns : List Str} {f : Str} {cl : List ClD} {ts : XD → TSd} {EDo : XD}
theorem i_eCallX (h : tl ρ S fun xs S1 => rx xs S1 Q ED) : eCallX rx ED tl ρ S Q := h
theorem i_eCallKwX (h : tl ρ S fun xs S1 => tk ρ S1 fun ys S2 => xs.length = n ∧ ys.length = m ∧ rx (pick pm (xs ++ ys) .non) S2 Q ED) : eCallKwX rx ED n m pm tl tk ρ S Q := h
theorem i_sRaiseF (h : tl ρ S fun ds S1 => okD part ns.length ds ∧ ED (C, fldD ns ds) S1) : sRaiseF ED C part ns tl N ρ S := h
theorem i_eIsX (h : ta ρ S fun x S1 => (∀ n D es, x = .ref n → S1[n]? = some (some (.exc D es)) → L2.ExcC K D) ∧ ∃ b, xis K S1 x C = some b ∧ Q (.bl b) S1) : eIsX K C ta ρ S Q := h
theorem i_eFld (h : ta ρ S fun x S1 => ∃ n C es d, x = .ref n ∧ S1[n]? = some (some (.exc C es)) ∧ XfC K C ∧ PySem.W.findIn K (.ref C) f = some none ∧ es.lookup f = some d ∧ Q d S1) : eFld K f ta ρ S Q := h
theorem i_eDit1 (h : ta ρ S fun x S1 => tb ρ S1 fun y S2 => ∃ ks : List Key, x = .tup (ks.map kD) ∧ Q (.dit [(ks, y)]) S2) : eDit1 ta tb ρ S Q := h
theorem i_sTry (h : ts (handle K n EDo N cl) N ρ S) : sTry K n EDo ts cl N ρ S := h
theorem i_runX {xs : List D} {E : XD} (h : ts E { nx := fun _ S' => Q .non S', rt := Q } (startD n xs) S) : runX n ts xs S Q E := h
/-- isinstance of None, of a caught exception -/
theorem isx_non {b : Bool} {P : Bool → Prop} (h : PySem.W.kitOne K (.type "NoneType") (.ref C) = some b) (q : P b) : (∀ (n : Nat) (D' : Addr) (es : List (Str × NC.D)), NC.D.non = NC.D.ref n → S[n]? = some (some (.exc D' es)) → L2.ExcC K D') ∧ ∃ b, xis K S .non C = some b ∧ P b :=
  ⟨fun _ _ _ e _ => (nomatch e), b, h, q⟩
theorem isx_exc {b : Bool} {P : Bool → Prop} {D : Addr} {es : List (Str × NC.D)} (e : S[n]? = some (some (.exc D es))) (T : L2.ExcC K D) (h : PySem.W.kitOne K (.ref D) (.ref C) = some b) (q : P b) :
    (∀ (m : Nat) (D' : Addr) (es : List (Str × NC.D)), NC.D.ref n = NC.D.ref m → S[m]? = some (some (.exc D' es)) → L2.ExcC K D') ∧ ∃ b, xis K S (.ref n) C = some b ∧ P b :=
  ⟨fun m D' es' e1 e2 => by
    cases e1
    rw [e] at e2
    cases e2
    exact T, b, by unfold xis; simp only [e]; exact h, q⟩
theorem rev_lst {x : D} {xs : List D} (h : drf S x = .lst xs) (q : Q (.lst xs.reverse) S) : rRev x S Q := by
  unfold rRev
  rw [h]
  exact q
theorem rev_tup {x : D} {xs : List D} (h : drf S x = .tup xs) (q : Q (.tup xs.reverse) S) : rRev x S Q := by
  unfold rRev
  rw [h]
  exact q
theorem okD_part {p : Str} (h : p.length ≤ 900) : okD true 1 [.str p] := ⟨rfl, fun _ => ⟨p, rfl, h⟩⟩
end
/-- a draw -/
theorem draw_of {k : Nat} {o : SO} {T : Store} {many : Int} {Q : QD} (u : Urn k o) (hk : k < 1000000) (h0 : 0 < many) (h1 : many ≤ 10 ^ 100) (q : ∀ (o' : SO) (n : Int), Urn (k + 1) o' → 0 ≤ n → n < many → Q (.int n) (some o' :: T)) : rDraw [.ref 0, .int many] (some o :: T) Q :=
  ⟨k, o, T, many, rfl, rfl, u, hk, h0, h1, q⟩
/-- a comprehension over things of a type -/
theorem lc_ty {α : Type} {enc : α → D} {l : List α} {p : α → Bool} {g : α → D} {stays : Store → Prop} {S : Store} {t : Tg} {tt : TB} {te : TD} {vs : List Nat} {ρ : Rho} {R : List D → Store → Prop} (hs : stays S) (hl : l.length ≤ sizeLine)
    (step : ∀ a ∈ l, ∃ ρ2, bindT t (enc a) (wipeD ρ vs) = some ρ2 ∧ (∀ Q' : Bool → Store → Prop, Q' (p a) S → tt ρ2 S Q') ∧ (p a = true → ∀ Q' : QD, Q' (g a) S → te ρ2 S Q')) (fin : R ((l.filter p).map g) S) : Lc1 t tt te vs ρ (l.map enc) stays S R := by
  refine ⟨fun i acc S' => S' = S ∧ acc = ((l.take i).filter p).map g, ⟨rfl, rfl⟩, fun i acc S' h => by rw [h.1]; exact hs, by rw [List.length_map]; exact hl, ?_, ?_⟩
  · rintro i d acc S' hd ⟨rfl, rfl⟩
    rw [List.getElem?_map] at hd
    obtain ⟨a, ha, rfl⟩ := Option.map_eq_some_iff.mp hd
    obtain ⟨ρ2, e, ht, he⟩ := step a (List.mem_of_getElem? ha)
    refine ⟨ρ2, e, ht _ ?_⟩
    have tk : l.take (i + 1) = l.take i ++ [a] := by rw [List.take_add_one, ha]; rfl
    cases hp : p a with
    | true =>
      rw [if_pos rfl]
      refine he hp _ ⟨rfl, ?_⟩
      rw [tk, List.filter_append, List.map_append, List.filter_cons_of_pos hp]
      rfl
    | false =>
      rw [if_neg (by decide)]
      refine ⟨rfl, ?_⟩
      rw [tk, List.filter_append, List.filter_cons_of_neg (by rw [hp]; decide)]
      simp
  · rintro acc S' ⟨rfl, rfl⟩
    rw [List.length_map, List.take_length]
    exact fin
/-- each thing of a type to a value -/
theorem lc_each {α : Type} {enc : α → D} {l : List α} {g : α → D} {stays : Store → Prop} {S : Store} {t : Tg} {te : TD} {vs : List Nat} {ρ : Rho} {R : List D → Store → Prop} (hs : stays S) (hl : l.length ≤ sizeLine)
    (step : ∀ a ∈ l, ∃ ρ2, bindT t (enc a) (wipeD ρ vs) = some ρ2 ∧ ∀ Q' : QD, Q' (g a) S → te ρ2 S Q') (fin : R (l.map g) S) : Lc1 t bYes te vs ρ (l.map enc) stays S R :=
  lc_ty (p := fun _ => true) hs hl (fun a ha => let ⟨ρ2, e, h⟩ := step a ha; ⟨ρ2, e, fun _ q => q, fun _ => h⟩) (by rw [List.filter_eq_self.mpr fun _ _ => rfl]; exact fin)
/-! squares -/
theorem fl_sq (n : Nat) (p : Int × Int) : fl (n + 1) (sqD p) = true := by
  show fls n ([p.1, p.2].map .int) = true
  exact fl_ints _
theorem fls_sq (n : Nat) (ps : List (Int × Int)) : fls (n + 1) (ps.map sqD) = true := fls_all.mpr fun d hd => by
  obtain ⟨p, _, rfl⟩ := List.mem_map.mp hd
  exact fl_sq n p
theorem eqd_sq (p q : Int × Int) : eqd (sqD p) (sqD q) = decide (p = q) := by
  have h := eqd_tups [p.1, p.2] [q.1, q.2]
  refine h.trans ?_
  rw [Bool.eq_iff_iff]
  simp only [decide_eq_true_eq, List.cons.injEq, and_true]
  exact ⟨fun h => Prod.ext h.1 h.2, fun h => by rw [h]; exact ⟨rfl, rfl⟩⟩
theorem any_sq (p : Int × Int) : ∀ ps : List (Int × Int), ((ps.map sqD).any fun z => eqd z (sqD p)) = decide (p ∈ ps)
  | [] => rfl
  | a :: l => by
    rw [List.map_cons, List.any_cons, any_sq p l, eqd_sq, Bool.eq_iff_iff]
    simp only [Bool.or_eq_true, decide_eq_true_eq, List.mem_cons]
    exact ⟨fun h => h.elim (fun e => .inl e.symm) .inr, fun h => h.elim (fun e => .inl e.symm) .inr⟩
theorem drf_sq (S : Store) (p : Int × Int) : drf S (sqD p) = sqD p := rfl
theorem in_sq {p : Int × Int} {y : D} {ps : List (Int × Int)} {S : Store} {Q : QD} (h : itemsD (drf S y) = some (ps.map sqD)) (q : Q (.bl (decide (p ∈ ps))) S) : rInD2 (sqD p) y S Q :=
  ⟨_, h, fl_sq 59 p, fls_sq 58 ps, by rw [drf_sq, any_sq]; exact q⟩
theorem ni_sq {p : Int × Int} {y : D} {ps : List (Int × Int)} {S : Store} {Q : QD} (h : itemsD (drf S y) = some (ps.map sqD)) (q : Q (.bl (!decide (p ∈ ps))) S) : rNiD2 (sqD p) y S Q :=
  ⟨_, h, fl_sq 59 p, fls_sq 58 ps, by rw [drf_sq, any_sq]; exact q⟩
theorem ne_dat {x y : D} {S : Store} {Q : QD} (hx : fl 60 (drf S x) = true) (hy : fl 60 (drf S y) = true) (q : Q (.bl (!eqd (drf S x) (drf S y))) S) : rNe3 x y S Q := ⟨_, .of (.data hx hy), q⟩
theorem eq_dat {x y : D} {S : Store} {Q : QD} (hx : fl 60 (drf S x) = true) (hy : fl 60 (drf S y) = true) (q : Q (.bl (eqd (drf S x) (drf S y))) S) : rEq3 x y S Q := ⟨_, .of (.data hx hy), q⟩
/-- what is ordered, of squares: just one list -/
abbrev ltS (p q : Int × Int) : Bool := SrtO.lexB p q
theorem lt_irr (p : Int × Int) : ltS p p = false := SrtO.lexB_no.mpr (by omega)
theorem lt_tot {p q : Int × Int} (h1 : ltS p q = false) (h2 : ltS q p = false) : p = q := by
  have a := SrtO.lexB_no.mp h1
  have b := SrtO.lexB_no.mp h2
  exact Prod.ext (by omega) (by omega)
theorem srt_uniq : ∀ {l m : List (Int × Int)}, l.Perm m → l.Pairwise (fun p q => ltS q p = false) → m.Pairwise (fun p q => ltS q p = false) → l = m
  | [], m, h, _, _ => (List.Perm.eq_nil h.symm).symm
  | x :: l, [], h, _, _ => absurd h.length_eq (by simp)
  | x :: l, y :: m, h, hl, hm => by
    obtain ⟨l1, l2⟩ := List.pairwise_cons.mp hl
    obtain ⟨m1, m2⟩ := List.pairwise_cons.mp hm
    have e : x = y := by
      have a : ltS x y = false := by
        rcases List.mem_cons.mp (h.mem_iff.mp (List.mem_cons_self (a := x) (l := l))) with z | z
        · rw [z]; exact lt_irr y
        · exact m1 x z
      have b : ltS y x = false := by
        rcases List.mem_cons.mp (h.mem_iff.mpr (List.mem_cons_self (a := y) (l := m))) with z | z
        · rw [z]; exact lt_irr x
        · exact l1 y z
      exact lt_tot a b
    subst e
    rw [srt_uniq h.cons_inv l2 m2]
end NC

set_option Elab.async false
set_option linter.all false
set_option maxRecDepth 100000
set_option maxHeartbeats 4000000
/-! NC28: the package's checks: integers, squares. -/
namespace NC
open PySem PySem.Spec PyProof.Rows L2

/-- where the package's classes lie -/
structure Cs where
  FlightError : Addr := 0
  BadNumber : Addr := 0
  BadSquare : Addr := 0
  BadSquares : Addr := 0
  BadBurns : Addr := 0
  BadBoard : Addr := 0
  BadStand : Addr := 0
  BadClimb : Addr := 0
  BadSeat : Addr := 0
  BadPaper : Addr := 0
  Misfit : Addr := 0
  NoName : Addr := 0
  Twice : Addr := 0
  TooMany : Addr := 0
  Nothing : Addr := 0
  BadText : Addr := 0
  BadLine : Addr := 0

def r_is_integer : RDs := fun xs S Q => ∃ d t, xs = [d] ∧ tyD d = some t ∧ Q (.bl (isNum d)) S
def Flat (d : D) : Prop := (∃ t, tyD d = some t) ∧ (∀ zs, d ≠ .ro zs) ∧ ∀ ys, seqOf d = some ys → ys.length ≤ sizeLine ∧ ∀ y ∈ ys, ∃ t, tyD y = some t
def isSq (d : D) : Bool := match seqOf d with
  | some [x, y] => isNum x && isNum y
  | _ => false
def r_is_square : RDs := fun xs S Q => ∃ d, xs = [d] ∧ Flat d ∧ Q (.bl (isSq d)) S
/-- the square that a value is -/
def sqOf (d : D) : Int × Int := match seqOf d with
  | some [.int a, .int b] => (a, b)
  | _ => (0, 0)
/-- the squares that a value is -/
def sqsOf (d : D) : List (Int × Int) := match seqOf d with
  | some ys => ys.map sqOf
  | none => []
def areSq (d : D) : Bool := match seqOf d with
  | some ys => ys.all isSq && decide (ys.map sqOf).Nodup
  | none => false
/-- what may be asked whether it is squares -/
def Lot (S : Store) (d e : D) : Prop := drf S d = e ∧ (∃ t, tyD e = some t) ∧ ∀ ys, seqOf e = some ys → ys.length < 60 ∧ ∀ y ∈ ys, Flat y
def r_are_squares : RDs := fun xs S Q => ∃ d e, xs = [d] ∧ Lot S d e ∧ Q (.bl (areSq e)) S
def r_next_to : RDs := fun xs S Q => ∃ p : Int × Int, xs = [sqD p] ∧ Q (.tup ([(p.1 + 1, p.2), (p.1 - 1, p.2), (p.1, p.2 + 1), (p.1, p.2 - 1)].map sqD)) S
def r_need_square (cs : Cs) : RDx := fun xs S Q E => ∃ d p, xs = [d, .str p] ∧ p.length ≤ 900 ∧ Flat d ∧ (isSq d = false → E (cs.BadSquare, [("part", .str p)]) S) ∧ (isSq d = true → Q (sqD (sqOf d)) S)
def r_need_squares (cs : Cs) : RDx := fun xs S Q E => ∃ d e p, xs = [d, .str p] ∧ p.length ≤ 900 ∧ Lot S d e ∧ (areSq e = false → E (cs.BadSquares, [("part", .str p)]) S) ∧
  (areSq e = true → ∀ qs : List (Int × Int), qs.Perm (sqsOf e) → qs.Pairwise (fun p q => ltS q p = false) → Q (.tup (qs.map sqD)) S)

/-- is_integer: 0=value -/
def b_is_integer : TSd := (sRet (eAnd (eIsi "int" (eVar 0)) (eNot (eIsi "bool" (eVar 0)))))

/-- is_square: 0=value 1=number -/
def b_is_square : TSd := (sRet (eAnd (eIsi2 "list" "tuple" (eVar 0)) (eAnd (eOp rEq3 (eB rLen (aCons (eVar 0) aNil)) (eC (.int 2))) (eB rAll2 (aCons (eLc (sSq (eVar 0)) (.nm 1) bYes (eCall r_is_integer (aCons (eVar 1) aNil)) [1]) aNil)))))

/-- are_squares: 0=value 1=each -/
def b_are_squares : TSd := (sSeq (sIf (bOr (bNot (bOf (eIsi2 "list" "tuple" (eVar 0)))) (bNot (bOf (eB rAll2 (aCons (eLc (sSq (eVar 0)) (.nm 1) bYes (eCall r_is_square (aCons (eVar 1) aNil)) [1]) aNil)))))
    (sRet (eC (.bl false)))
    sNil)
    (sRet (eOp rEq3 (eUn rLenSet (eLc (sSq (eVar 0)) (.nm 1) bYes (eB rTuple (aCons (eVar 1) aNil)) [1])) (eB rLen (aCons (eVar 0) aNil)))))

/-- next_to: 0=square 1=x 2=y -/
def b_next_to : TSd := (sSeq (sAsg (.tp [(.nm 1), (.nm 2)]) (eVar 0))
    (sRet (eTup (aCons (eTup (aCons (eOp rAdd (eVar 1) (eC (.int 1))) (aCons (eVar 2) aNil))) (aCons (eTup (aCons (eOp rSub (eVar 1) (eC (.int 1))) (aCons (eVar 2) aNil))) (aCons (eTup (aCons (eVar 1) (aCons (eOp rAdd (eVar 2) (eC (.int 1))) aNil))) (aCons (eTup (aCons (eVar 1) (aCons (eOp rSub (eVar 2) (eC (.int 1))) aNil))) aNil)))))))

/-- need_square: 0=value 1=part -/
def b_need_square (K : PySem.W.Frag) (cs : Cs) : XD → TSd := fun ED => (sSeq (sIf (bNot (bOf (eCall r_is_square (aCons (eVar 0) aNil))))
    (sRaiseF ED cs.BadSquare true ["part"] (aCons (eVar 1) aNil))
    sNil)
    (sRet (eB rTuple (aCons (eVar 0) aNil))))

/-- need_squares: 0=value 1=part 2=each -/
def b_need_squares (K : PySem.W.Frag) (cs : Cs) : XD → TSd := fun ED => (sSeq (sIf (bNot (bOf (eCall r_are_squares (aCons (eVar 0) aNil))))
    (sRaiseF ED cs.BadSquares true ["part"] (aCons (eVar 1) aNil))
    sNil)
    (sRet (eB rTuple (aCons (eB rSortP (aCons (eLc (sSq (eVar 0)) (.nm 2) bYes (eB rTuple (aCons (eVar 2) aNil)) [2]) aNil)) aNil))))



theorem len_is_integer (xs : List D) (S : Store) (Q : QD) (h : r_is_integer xs S Q) : xs.length = 1 := by obtain ⟨_, _, rfl, _⟩ := h; rfl
theorem len_is_square (xs : List D) (S : Store) (Q : QD) (h : r_is_square xs S Q) : xs.length = 1 := by obtain ⟨_, rfl, _⟩ := h; rfl
theorem len_are_squares (xs : List D) (S : Store) (Q : QD) (h : r_are_squares xs S Q) : xs.length = 1 := by obtain ⟨_, _, rfl, _⟩ := h; rfl
theorem len_next_to (xs : List D) (S : Store) (Q : QD) (h : r_next_to xs S Q) : xs.length = 1 := by obtain ⟨_, rfl, _⟩ := h; rfl
theorem len_need_square (cs : Cs) (xs : List D) (S : Store) (Q : QD) (E : XD) (h : r_need_square cs xs S Q E) : xs.length = 2 := by obtain ⟨_, _, rfl, _⟩ := h; rfl
theorem len_need_squares (cs : Cs) (xs : List D) (S : Store) (Q : QD) (E : XD) (h : r_need_squares cs xs S Q E) : xs.length = 2 := by obtain ⟨_, _, _, rfl, _⟩ := h; rfl

theorem run_is_integer (xs : List D) (S : Store) (Q : QD) (h : r_is_integer xs S Q) : runD 1 b_is_integer xs S Q := by
  obtain ⟨d, t, rfl, ht, q⟩ := h
  unfold b_is_integer
  simp only [ap_runD, ap_sSeq, ap_sIf, ap_sNil, ap_sRet, ap_sAsg, ap_sDrop, ap_sPut, ap_sPar, ap_nm, ap_eVar, ap_eC, ap_eOp, ap_eChain, ap_eB, ap_eUn, ap_eTup, ap_eLst, ap_eLstM, ap_eAnd, ap_eOr, ap_eNot, ap_eIf, ap_bOf, ap_bAnd, ap_bOr, ap_bNot, ap_bYes, ap_aNil, ap_aCons, ap_eCall, ap_eCallKw, ap_eCut, ap_oNone, ap_oSome, ap_eM, ap_sSq, ap_sRange1, ap_sRange2, ap_sEnum, ap_eIsi, ap_eLc, ap_eLcM, ap_sFor, startD, List.map_cons, List.map_nil, List.length_cons, List.length_nil, List.getElem?_cons_zero, List.getElem?_cons_succ, List.set_cons_zero, List.set_cons_succ, List.replicate, List.cons_append, List.nil_append, Option.some.injEq, exists_eq_left', Option.bind_some, Nat.sub_self, Nat.reduceAdd, Nat.reduceSub, Nat.reduceLeDiff]
  rw [drf_ty ht]
  refine ⟨_, isi_int ht, _, rfl, ?_⟩
  cases d <;> first | exact q | (cases ht; done) | exact ⟨_, isi_bool ht, _, rfl, q⟩
theorem isSq_no {d : D} {ys : List D} (h : seqOf d = some ys) (h2 : ys.length ≠ 2) : isSq d = false := by
  unfold isSq
  rw [h]
  match ys, h2 with
  | [], _ => rfl
  | [_], _ => rfl
  | [_, _], h2 => exact (h2 rfl).elim
  | _ :: _ :: _ :: _, _ => rfl
theorem run_is_square (xs : List D) (S : Store) (Q : QD) (h : r_is_square xs S Q) : runD 2 b_is_square xs S Q := by
  obtain ⟨d, rfl, ⟨⟨t, ht⟩, _, hf⟩, q⟩ := h
  refine i_runD ?_
  unfold b_is_square
  repeat (first | (with_reducible first | refine i_sIf ?_ | refine i_sNil ?_ | refine i_sRet ?_ | refine i_sAsg ?_ | refine i_sDrop ?_ | refine i_sPut ?_ | refine i_sPar ?_ | refine i_eC ?_ | refine i_eOp ?_ | refine i_eChain ?_ | refine i_eB ?_ | refine i_eUn ?_ | refine i_eTup ?_ | refine i_eLst ?_ | refine i_eLstM ?_ | refine i_eAnd ?_ | refine i_eOr ?_ | refine i_eNot ?_ | refine i_eIf ?_ | refine i_bOf ?_ | refine i_bAnd ?_ | refine i_bOr ?_ | refine i_bNot ?_ | refine i_bYes ?_ | refine i_aNil ?_ | refine i_aCons ?_ | refine i_eCall ?_ | refine i_eCallKw ?_ | refine i_eCut ?_ | refine i_oNone ?_ | refine i_oSome ?_ | refine i_eM ?_ | refine i_sSq ?_ | refine i_sRange1 ?_ | refine i_sRange2 ?_ | refine i_sEnum ?_ | refine i_eIsi ?_ | refine i_eIsi2 ?_ | refine i_eLc ?_ | refine i_eLcM ?_ | refine i_sFor ?_ | refine i_eDisp1 ?_ | refine i_bl ?_ | refine i_int ?_ | refine i_nm ?_ | refine i_one ?_ | refine i_two ?_ | refine i_rng ?_ | refine i_len0 ?_ | refine i_int1 ?_ | refine i_intb ?_ | refine i_abs ?_ | refine i_add ?_ | refine i_sub ?_ | refine i_lt ?_ | refine i_le ?_ | refine i_gt ?_ | refine i_ge ?_ | refine i_eqi ?_ | refine i_is ?_ | refine i_isn ?_ | refine i_nes ?_ | refine i_rbl ?_ | refine i_eCallX ?_ | refine i_eCallKwX ?_ | refine i_sRaiseF ?_ | refine i_eIsX ?_ | refine i_eFld ?_ | refine i_eDit1 ?_ | refine i_sTry ?_ | refine i_runX ?_) | ((with_reducible refine i_eVarX ?_); refine ⟨_, rfl, ?_⟩) | ((with_reducible refine i_len1 ?_ ?_); · exact Nat.le_of_ble_eq_true rfl))
  rw [drf_ty ht]
  refine ⟨_, _, isi_list ht, isi_tuple ht, ?_⟩
  repeat (first | (with_reducible first | refine i_sIf ?_ | refine i_sNil ?_ | refine i_sRet ?_ | refine i_sAsg ?_ | refine i_sDrop ?_ | refine i_sPut ?_ | refine i_sPar ?_ | refine i_eC ?_ | refine i_eOp ?_ | refine i_eChain ?_ | refine i_eB ?_ | refine i_eUn ?_ | refine i_eTup ?_ | refine i_eLst ?_ | refine i_eLstM ?_ | refine i_eAnd ?_ | refine i_eOr ?_ | refine i_eNot ?_ | refine i_eIf ?_ | refine i_bOf ?_ | refine i_bAnd ?_ | refine i_bOr ?_ | refine i_bNot ?_ | refine i_bYes ?_ | refine i_aNil ?_ | refine i_aCons ?_ | refine i_eCall ?_ | refine i_eCallKw ?_ | refine i_eCut ?_ | refine i_oNone ?_ | refine i_oSome ?_ | refine i_eM ?_ | refine i_sSq ?_ | refine i_sRange1 ?_ | refine i_sRange2 ?_ | refine i_sEnum ?_ | refine i_eIsi ?_ | refine i_eIsi2 ?_ | refine i_eLc ?_ | refine i_eLcM ?_ | refine i_sFor ?_ | refine i_eDisp1 ?_ | refine i_bl ?_ | refine i_int ?_ | refine i_nm ?_ | refine i_one ?_ | refine i_two ?_ | refine i_rng ?_ | refine i_len0 ?_ | refine i_int1 ?_ | refine i_intb ?_ | refine i_abs ?_ | refine i_add ?_ | refine i_sub ?_ | refine i_lt ?_ | refine i_le ?_ | refine i_gt ?_ | refine i_ge ?_ | refine i_eqi ?_ | refine i_is ?_ | refine i_isn ?_ | refine i_nes ?_ | refine i_rbl ?_ | refine i_eCallX ?_ | refine i_eCallKwX ?_ | refine i_sRaiseF ?_ | refine i_eIsX ?_ | refine i_eFld ?_ | refine i_eDit1 ?_ | refine i_sTry ?_ | refine i_runX ?_) | ((with_reducible refine i_eVarX ?_); refine ⟨_, rfl, ?_⟩) | ((with_reducible refine i_len1 ?_ ?_); · exact Nat.le_of_ble_eq_true rfl))
  refine ite_by (fun hs => ?_) (fun hs => ?_)
  · obtain ⟨ys, hy⟩ := seq_lt hs
    obtain ⟨hl, hit⟩ := hf ys hy
    repeat (first | (with_reducible first | refine i_sIf ?_ | refine i_sNil ?_ | refine i_sRet ?_ | refine i_sAsg ?_ | refine i_sDrop ?_ | refine i_sPut ?_ | refine i_sPar ?_ | refine i_eC ?_ | refine i_eOp ?_ | refine i_eChain ?_ | refine i_eB ?_ | refine i_eUn ?_ | refine i_eTup ?_ | refine i_eLst ?_ | refine i_eLstM ?_ | refine i_eAnd ?_ | refine i_eOr ?_ | refine i_eNot ?_ | refine i_eIf ?_ | refine i_bOf ?_ | refine i_bAnd ?_ | refine i_bOr ?_ | refine i_bNot ?_ | refine i_bYes ?_ | refine i_aNil ?_ | refine i_aCons ?_ | refine i_eCall ?_ | refine i_eCallKw ?_ | refine i_eCut ?_ | refine i_oNone ?_ | refine i_oSome ?_ | refine i_eM ?_ | refine i_sSq ?_ | refine i_sRange1 ?_ | refine i_sRange2 ?_ | refine i_sEnum ?_ | refine i_eIsi ?_ | refine i_eIsi2 ?_ | refine i_eLc ?_ | refine i_eLcM ?_ | refine i_sFor ?_ | refine i_eDisp1 ?_ | refine i_bl ?_ | refine i_int ?_ | refine i_nm ?_ | refine i_one ?_ | refine i_two ?_ | refine i_rng ?_ | refine i_len0 ?_ | refine i_int1 ?_ | refine i_intb ?_ | refine i_abs ?_ | refine i_add ?_ | refine i_sub ?_ | refine i_lt ?_ | refine i_le ?_ | refine i_gt ?_ | refine i_ge ?_ | refine i_eqi ?_ | refine i_is ?_ | refine i_isn ?_ | refine i_nes ?_ | refine i_rbl ?_ | refine i_eCallX ?_ | refine i_eCallKwX ?_ | refine i_sRaiseF ?_ | refine i_eIsX ?_ | refine i_eFld ?_ | refine i_eDit1 ?_ | refine i_sTry ?_ | refine i_runX ?_) | ((with_reducible refine i_eVarX ?_); refine ⟨_, rfl, ?_⟩) | ((with_reducible refine i_len1 ?_ ?_); · exact Nat.le_of_ble_eq_true rfl))
    refine len_seq (by rw [drf_ty ht]; exact hy) ?_
    repeat (first | (with_reducible first | refine i_sIf ?_ | refine i_sNil ?_ | refine i_sRet ?_ | refine i_sAsg ?_ | refine i_sDrop ?_ | refine i_sPut ?_ | refine i_sPar ?_ | refine i_eC ?_ | refine i_eOp ?_ | refine i_eChain ?_ | refine i_eB ?_ | refine i_eUn ?_ | refine i_eTup ?_ | refine i_eLst ?_ | refine i_eLstM ?_ | refine i_eAnd ?_ | refine i_eOr ?_ | refine i_eNot ?_ | refine i_eIf ?_ | refine i_bOf ?_ | refine i_bAnd ?_ | refine i_bOr ?_ | refine i_bNot ?_ | refine i_bYes ?_ | refine i_aNil ?_ | refine i_aCons ?_ | refine i_eCall ?_ | refine i_eCallKw ?_ | refine i_eCut ?_ | refine i_oNone ?_ | refine i_oSome ?_ | refine i_eM ?_ | refine i_sSq ?_ | refine i_sRange1 ?_ | refine i_sRange2 ?_ | refine i_sEnum ?_ | refine i_eIsi ?_ | refine i_eIsi2 ?_ | refine i_eLc ?_ | refine i_eLcM ?_ | refine i_sFor ?_ | refine i_eDisp1 ?_ | refine i_bl ?_ | refine i_int ?_ | refine i_nm ?_ | refine i_one ?_ | refine i_two ?_ | refine i_rng ?_ | refine i_len0 ?_ | refine i_int1 ?_ | refine i_intb ?_ | refine i_abs ?_ | refine i_add ?_ | refine i_sub ?_ | refine i_lt ?_ | refine i_le ?_ | refine i_gt ?_ | refine i_ge ?_ | refine i_eqi ?_ | refine i_is ?_ | refine i_isn ?_ | refine i_nes ?_ | refine i_rbl ?_ | refine i_eCallX ?_ | refine i_eCallKwX ?_ | refine i_sRaiseF ?_ | refine i_eIsX ?_ | refine i_eFld ?_ | refine i_eDit1 ?_ | refine i_sTry ?_ | refine i_runX ?_) | ((with_reducible refine i_eVarX ?_); refine ⟨_, rfl, ?_⟩) | ((with_reducible refine i_len1 ?_ ?_); · exact Nat.le_of_ble_eq_true rfl))
    refine ite_by (fun h2 => ?_) (fun h2 => ?_)
    · repeat (first | (with_reducible first | refine i_sIf ?_ | refine i_sNil ?_ | refine i_sRet ?_ | refine i_sAsg ?_ | refine i_sDrop ?_ | refine i_sPut ?_ | refine i_sPar ?_ | refine i_eC ?_ | refine i_eOp ?_ | refine i_eChain ?_ | refine i_eB ?_ | refine i_eUn ?_ | refine i_eTup ?_ | refine i_eLst ?_ | refine i_eLstM ?_ | refine i_eAnd ?_ | refine i_eOr ?_ | refine i_eNot ?_ | refine i_eIf ?_ | refine i_bOf ?_ | refine i_bAnd ?_ | refine i_bOr ?_ | refine i_bNot ?_ | refine i_bYes ?_ | refine i_aNil ?_ | refine i_aCons ?_ | refine i_eCall ?_ | refine i_eCallKw ?_ | refine i_eCut ?_ | refine i_oNone ?_ | refine i_oSome ?_ | refine i_eM ?_ | refine i_sSq ?_ | refine i_sRange1 ?_ | refine i_sRange2 ?_ | refine i_sEnum ?_ | refine i_eIsi ?_ | refine i_eIsi2 ?_ | refine i_eLc ?_ | refine i_eLcM ?_ | refine i_sFor ?_ | refine i_eDisp1 ?_ | refine i_bl ?_ | refine i_int ?_ | refine i_nm ?_ | refine i_one ?_ | refine i_two ?_ | refine i_rng ?_ | refine i_len0 ?_ | refine i_int1 ?_ | refine i_intb ?_ | refine i_abs ?_ | refine i_add ?_ | refine i_sub ?_ | refine i_lt ?_ | refine i_le ?_ | refine i_gt ?_ | refine i_ge ?_ | refine i_eqi ?_ | refine i_is ?_ | refine i_isn ?_ | refine i_nes ?_ | refine i_rbl ?_ | refine i_eCallX ?_ | refine i_eCallKwX ?_ | refine i_sRaiseF ?_ | refine i_eIsX ?_ | refine i_eFld ?_ | refine i_eDit1 ?_ | refine i_sTry ?_ | refine i_runX ?_) | ((with_reducible refine i_eVarX ?_); refine ⟨_, rfl, ?_⟩) | ((with_reducible refine i_len1 ?_ ?_); · exact Nat.le_of_ble_eq_true rfl))
      refine ⟨ys, by rw [drf_ty ht]; exact hy, lc_map (fun d => .bl (isNum d)) rfl hl (fun y hm => ?_) ?_⟩
      · obtain ⟨ty, hty⟩ := hit y hm
        refine ⟨_, rfl, fun Q' q' => ?_⟩
        repeat (first | (with_reducible first | refine i_sIf ?_ | refine i_sNil ?_ | refine i_sRet ?_ | refine i_sAsg ?_ | refine i_sDrop ?_ | refine i_sPut ?_ | refine i_sPar ?_ | refine i_eC ?_ | refine i_eOp ?_ | refine i_eChain ?_ | refine i_eB ?_ | refine i_eUn ?_ | refine i_eTup ?_ | refine i_eLst ?_ | refine i_eLstM ?_ | refine i_eAnd ?_ | refine i_eOr ?_ | refine i_eNot ?_ | refine i_eIf ?_ | refine i_bOf ?_ | refine i_bAnd ?_ | refine i_bOr ?_ | refine i_bNot ?_ | refine i_bYes ?_ | refine i_aNil ?_ | refine i_aCons ?_ | refine i_eCall ?_ | refine i_eCallKw ?_ | refine i_eCut ?_ | refine i_oNone ?_ | refine i_oSome ?_ | refine i_eM ?_ | refine i_sSq ?_ | refine i_sRange1 ?_ | refine i_sRange2 ?_ | refine i_sEnum ?_ | refine i_eIsi ?_ | refine i_eIsi2 ?_ | refine i_eLc ?_ | refine i_eLcM ?_ | refine i_sFor ?_ | refine i_eDisp1 ?_ | refine i_bl ?_ | refine i_int ?_ | refine i_nm ?_ | refine i_one ?_ | refine i_two ?_ | refine i_rng ?_ | refine i_len0 ?_ | refine i_int1 ?_ | refine i_intb ?_ | refine i_abs ?_ | refine i_add ?_ | refine i_sub ?_ | refine i_lt ?_ | refine i_le ?_ | refine i_gt ?_ | refine i_ge ?_ | refine i_eqi ?_ | refine i_is ?_ | refine i_isn ?_ | refine i_nes ?_ | refine i_rbl ?_ | refine i_eCallX ?_ | refine i_eCallKwX ?_ | refine i_sRaiseF ?_ | refine i_eIsX ?_ | refine i_eFld ?_ | refine i_eDit1 ?_ | refine i_sTry ?_ | refine i_runX ?_) | ((with_reducible refine i_eVarX ?_); refine ⟨_, rfl, ?_⟩) | ((with_reducible refine i_len1 ?_ ?_); · exact Nat.le_of_ble_eq_true rfl))
        exact ⟨y, ty, rfl, hty, q'⟩
      · repeat (first | (with_reducible first | refine i_sIf ?_ | refine i_sNil ?_ | refine i_sRet ?_ | refine i_sAsg ?_ | refine i_sDrop ?_ | refine i_sPut ?_ | refine i_sPar ?_ | refine i_eC ?_ | refine i_eOp ?_ | refine i_eChain ?_ | refine i_eB ?_ | refine i_eUn ?_ | refine i_eTup ?_ | refine i_eLst ?_ | refine i_eLstM ?_ | refine i_eAnd ?_ | refine i_eOr ?_ | refine i_eNot ?_ | refine i_eIf ?_ | refine i_bOf ?_ | refine i_bAnd ?_ | refine i_bOr ?_ | refine i_bNot ?_ | refine i_bYes ?_ | refine i_aNil ?_ | refine i_aCons ?_ | refine i_eCall ?_ | refine i_eCallKw ?_ | refine i_eCut ?_ | refine i_oNone ?_ | refine i_oSome ?_ | refine i_eM ?_ | refine i_sSq ?_ | refine i_sRange1 ?_ | refine i_sRange2 ?_ | refine i_sEnum ?_ | refine i_eIsi ?_ | refine i_eIsi2 ?_ | refine i_eLc ?_ | refine i_eLcM ?_ | refine i_sFor ?_ | refine i_eDisp1 ?_ | refine i_bl ?_ | refine i_int ?_ | refine i_nm ?_ | refine i_one ?_ | refine i_two ?_ | refine i_rng ?_ | refine i_len0 ?_ | refine i_int1 ?_ | refine i_intb ?_ | refine i_abs ?_ | refine i_add ?_ | refine i_sub ?_ | refine i_lt ?_ | refine i_le ?_ | refine i_gt ?_ | refine i_ge ?_ | refine i_eqi ?_ | refine i_is ?_ | refine i_isn ?_ | refine i_nes ?_ | refine i_rbl ?_ | refine i_eCallX ?_ | refine i_eCallKwX ?_ | refine i_sRaiseF ?_ | refine i_eIsX ?_ | refine i_eFld ?_ | refine i_eDit1 ?_ | refine i_sTry ?_ | refine i_runX ?_) | ((with_reducible refine i_eVarX ?_); refine ⟨_, rfl, ?_⟩) | ((with_reducible refine i_len1 ?_ ?_); · exact Nat.le_of_ble_eq_true rfl))
        have h2' : ys.length = 2 := by
          have : (ys.length : Int) = 2 := by simpa using h2
          omega
        refine ⟨ys.map isNum, by rw [List.map_map]; rfl, ?_⟩
        unfold isSq at q
        rw [hy] at q
        match ys, h2' with
        | [x, y], _ => simpa using q
    · have h2' : ys.length ≠ 2 := fun e => by
        rw [e] at h2
        cases h2
      rw [isSq_no hy h2'] at q
      exact q
  · have e : isSq d = false := by
      unfold isSq
      rw [seq_no hs]
    rw [e] at q
    exact q
theorem sq_pair {d : D} (h : isSq d = true) : seqOf d = some [.int (sqOf d).1, .int (sqOf d).2] := by
  unfold isSq at h
  split at h
  · rename_i x y e
    cases x with
    | int a =>
      cases y with
      | int b =>
        have : sqOf d = (a, b) := by unfold sqOf; rw [e]
        rw [this]
        exact e
      | _ => cases h
    | _ => cases h
  · cases h
theorem items_seq {d : D} {ys : List D} (h : seqOf d = some ys) (hr : ∀ zs, d ≠ .ro zs) : itemsD d = some ys := by
  cases d with
  | lst xs => exact h
  | tup xs => exact h
  | ro xs => exact (hr xs rfl).elim
  | _ => cases h
def pr2 (p : Int × Int) : List Int := [p.1, p.2]
theorem pr2_inj {p q : Int × Int} (h : pr2 p = pr2 q) : p = q := by
  simp only [pr2, List.cons.injEq, and_true] at h
  exact Prod.ext h.1 h.2
theorem nodup_pr2 {ps : List (Int × Int)} : (ps.map pr2).Nodup ↔ ps.Nodup := by
  unfold List.Nodup
  rw [List.pairwise_map]
  exact ⟨fun h => h.imp fun h e => h (by rw [e]), fun h => h.imp fun h e => h (pr2_inj e)⟩
/-- tuple(each) for each of the squares -/
theorem lc_tuples {ys : List D} {S : Store} {stays : Store → Prop} {ρ : Rho} {R : List D → Store → Prop} {i : Nat} (hs : stays S) (hi : i < ρ.length) (hl : ys.length < 60) (hit : ∀ y ∈ ys, Flat y) (ha : ys.all isSq = true) (q : R ((ys.map sqOf).map sqD) S) :
    Lc1 (.nm i) bYes (eB rTuple (aCons (eVar i) aNil)) [i] ρ ys stays S R := by
  refine lc_map (fun d => sqD (sqOf d)) hs (Nat.le_trans (Nat.le_of_lt hl) (by decide)) (fun y hm => ?_) (by rw [List.map_map] at q; exact q)
  have e := sq_pair (List.all_eq_true.mp ha y hm)
  obtain ⟨⟨ty, hty⟩, hro, _⟩ := hit y hm
  refine ⟨_, by unfold bindT; rfl, fun Q' q' => ?_⟩
  have gi : ((wipeD ρ [i]).set i (some y))[i]? = some (some y) := List.getElem?_set_self (by rw [wipeD_len]; exact hi)
  refine i_eB (i_aCons (i_eVar gi (i_aNil ?_)))
  exact ⟨_, by rw [drf_ty hty]; exact items_seq e hro, q'⟩
theorem run_are_squares (xs : List D) (S : Store) (Q : QD) (h : r_are_squares xs S Q) : runD 2 b_are_squares xs S Q := by
  obtain ⟨d, e, rfl, ⟨hde, ⟨t, ht⟩, hf⟩, q⟩ := h
  refine i_runD ?_
  unfold b_are_squares
  refine cut (fun ρ' S' => ∃ ys, seqOf e = some ys ∧ ys.all isSq = true ∧ S' = S ∧ ρ' = startD 2 [d]) (fun N' hrt hnx => ?_) (fun ρ' S' hP => ?_)
  · repeat (first | (with_reducible first | refine i_sIf ?_ | refine i_sNil ?_ | refine i_sRet ?_ | refine i_sAsg ?_ | refine i_sDrop ?_ | refine i_sPut ?_ | refine i_sPar ?_ | refine i_eC ?_ | refine i_eOp ?_ | refine i_eChain ?_ | refine i_eB ?_ | refine i_eUn ?_ | refine i_eTup ?_ | refine i_eLst ?_ | refine i_eLstM ?_ | refine i_eAnd ?_ | refine i_eOr ?_ | refine i_eNot ?_ | refine i_eIf ?_ | refine i_bOf ?_ | refine i_bAnd ?_ | refine i_bOr ?_ | refine i_bNot ?_ | refine i_bYes ?_ | refine i_aNil ?_ | refine i_aCons ?_ | refine i_eCall ?_ | refine i_eCallKw ?_ | refine i_eCut ?_ | refine i_oNone ?_ | refine i_oSome ?_ | refine i_eM ?_ | refine i_sSq ?_ | refine i_sRange1 ?_ | refine i_sRange2 ?_ | refine i_sEnum ?_ | refine i_eIsi ?_ | refine i_eIsi2 ?_ | refine i_eLc ?_ | refine i_eLcM ?_ | refine i_sFor ?_ | refine i_eDisp1 ?_ | refine i_bl ?_ | refine i_int ?_ | refine i_nm ?_ | refine i_one ?_ | refine i_two ?_ | refine i_rng ?_ | refine i_len0 ?_ | refine i_int1 ?_ | refine i_intb ?_ | refine i_abs ?_ | refine i_add ?_ | refine i_sub ?_ | refine i_lt ?_ | refine i_le ?_ | refine i_gt ?_ | refine i_ge ?_ | refine i_eqi ?_ | refine i_is ?_ | refine i_isn ?_ | refine i_nes ?_ | refine i_rbl ?_ | refine i_eCallX ?_ | refine i_eCallKwX ?_ | refine i_sRaiseF ?_ | refine i_eIsX ?_ | refine i_eFld ?_ | refine i_eDit1 ?_ | refine i_sTry ?_ | refine i_runX ?_) | ((with_reducible refine i_eVarX ?_); refine ⟨_, rfl, ?_⟩) | ((with_reducible refine i_len1 ?_ ?_); · exact Nat.le_of_ble_eq_true rfl))
    rw [hde]
    refine ⟨_, _, isi_list ht, isi_tuple ht, ?_⟩
    repeat (first | (with_reducible first | refine i_sIf ?_ | refine i_sNil ?_ | refine i_sRet ?_ | refine i_sAsg ?_ | refine i_sDrop ?_ | refine i_sPut ?_ | refine i_sPar ?_ | refine i_eC ?_ | refine i_eOp ?_ | refine i_eChain ?_ | refine i_eB ?_ | refine i_eUn ?_ | refine i_eTup ?_ | refine i_eLst ?_ | refine i_eLstM ?_ | refine i_eAnd ?_ | refine i_eOr ?_ | refine i_eNot ?_ | refine i_eIf ?_ | refine i_bOf ?_ | refine i_bAnd ?_ | refine i_bOr ?_ | refine i_bNot ?_ | refine i_bYes ?_ | refine i_aNil ?_ | refine i_aCons ?_ | refine i_eCall ?_ | refine i_eCallKw ?_ | refine i_eCut ?_ | refine i_oNone ?_ | refine i_oSome ?_ | refine i_eM ?_ | refine i_sSq ?_ | refine i_sRange1 ?_ | refine i_sRange2 ?_ | refine i_sEnum ?_ | refine i_eIsi ?_ | refine i_eIsi2 ?_ | refine i_eLc ?_ | refine i_eLcM ?_ | refine i_sFor ?_ | refine i_eDisp1 ?_ | refine i_bl ?_ | refine i_int ?_ | refine i_nm ?_ | refine i_one ?_ | refine i_two ?_ | refine i_rng ?_ | refine i_len0 ?_ | refine i_int1 ?_ | refine i_intb ?_ | refine i_abs ?_ | refine i_add ?_ | refine i_sub ?_ | refine i_lt ?_ | refine i_le ?_ | refine i_gt ?_ | refine i_ge ?_ | refine i_eqi ?_ | refine i_is ?_ | refine i_isn ?_ | refine i_nes ?_ | refine i_rbl ?_ | refine i_eCallX ?_ | refine i_eCallKwX ?_ | refine i_sRaiseF ?_ | refine i_eIsX ?_ | refine i_eFld ?_ | refine i_eDit1 ?_ | refine i_sTry ?_ | refine i_runX ?_) | ((with_reducible refine i_eVarX ?_); refine ⟨_, rfl, ?_⟩) | ((with_reducible refine i_len1 ?_ ?_); · exact Nat.le_of_ble_eq_true rfl))
    cases hs : (isLst e || isTup e) with
    | false =>
      refine iteT (iteT ?_)
      repeat (first | (with_reducible first | refine i_sIf ?_ | refine i_sNil ?_ | refine i_sRet ?_ | refine i_sAsg ?_ | refine i_sDrop ?_ | refine i_sPut ?_ | refine i_sPar ?_ | refine i_eC ?_ | refine i_eOp ?_ | refine i_eChain ?_ | refine i_eB ?_ | refine i_eUn ?_ | refine i_eTup ?_ | refine i_eLst ?_ | refine i_eLstM ?_ | refine i_eAnd ?_ | refine i_eOr ?_ | refine i_eNot ?_ | refine i_eIf ?_ | refine i_bOf ?_ | refine i_bAnd ?_ | refine i_bOr ?_ | refine i_bNot ?_ | refine i_bYes ?_ | refine i_aNil ?_ | refine i_aCons ?_ | refine i_eCall ?_ | refine i_eCallKw ?_ | refine i_eCut ?_ | refine i_oNone ?_ | refine i_oSome ?_ | refine i_eM ?_ | refine i_sSq ?_ | refine i_sRange1 ?_ | refine i_sRange2 ?_ | refine i_sEnum ?_ | refine i_eIsi ?_ | refine i_eIsi2 ?_ | refine i_eLc ?_ | refine i_eLcM ?_ | refine i_sFor ?_ | refine i_eDisp1 ?_ | refine i_bl ?_ | refine i_int ?_ | refine i_nm ?_ | refine i_one ?_ | refine i_two ?_ | refine i_rng ?_ | refine i_len0 ?_ | refine i_int1 ?_ | refine i_intb ?_ | refine i_abs ?_ | refine i_add ?_ | refine i_sub ?_ | refine i_lt ?_ | refine i_le ?_ | refine i_gt ?_ | refine i_ge ?_ | refine i_eqi ?_ | refine i_is ?_ | refine i_isn ?_ | refine i_nes ?_ | refine i_rbl ?_ | refine i_eCallX ?_ | refine i_eCallKwX ?_ | refine i_sRaiseF ?_ | refine i_eIsX ?_ | refine i_eFld ?_ | refine i_eDit1 ?_ | refine i_sTry ?_ | refine i_runX ?_) | ((with_reducible refine i_eVarX ?_); refine ⟨_, rfl, ?_⟩) | ((with_reducible refine i_len1 ?_ ?_); · exact Nat.le_of_ble_eq_true rfl))
      rw [hrt]
      have e' : areSq e = false := by
        unfold areSq
        rw [seq_no hs]
      rw [e'] at q
      exact q
    | true =>
      obtain ⟨ys, hy⟩ := seq_lt hs
      obtain ⟨hl, hit⟩ := hf ys hy
      refine iteF ?_
      repeat (first | (with_reducible first | refine i_sIf ?_ | refine i_sNil ?_ | refine i_sRet ?_ | refine i_sAsg ?_ | refine i_sDrop ?_ | refine i_sPut ?_ | refine i_sPar ?_ | refine i_eC ?_ | refine i_eOp ?_ | refine i_eChain ?_ | refine i_eB ?_ | refine i_eUn ?_ | refine i_eTup ?_ | refine i_eLst ?_ | refine i_eLstM ?_ | refine i_eAnd ?_ | refine i_eOr ?_ | refine i_eNot ?_ | refine i_eIf ?_ | refine i_bOf ?_ | refine i_bAnd ?_ | refine i_bOr ?_ | refine i_bNot ?_ | refine i_bYes ?_ | refine i_aNil ?_ | refine i_aCons ?_ | refine i_eCall ?_ | refine i_eCallKw ?_ | refine i_eCut ?_ | refine i_oNone ?_ | refine i_oSome ?_ | refine i_eM ?_ | refine i_sSq ?_ | refine i_sRange1 ?_ | refine i_sRange2 ?_ | refine i_sEnum ?_ | refine i_eIsi ?_ | refine i_eIsi2 ?_ | refine i_eLc ?_ | refine i_eLcM ?_ | refine i_sFor ?_ | refine i_eDisp1 ?_ | refine i_bl ?_ | refine i_int ?_ | refine i_nm ?_ | refine i_one ?_ | refine i_two ?_ | refine i_rng ?_ | refine i_len0 ?_ | refine i_int1 ?_ | refine i_intb ?_ | refine i_abs ?_ | refine i_add ?_ | refine i_sub ?_ | refine i_lt ?_ | refine i_le ?_ | refine i_gt ?_ | refine i_ge ?_ | refine i_eqi ?_ | refine i_is ?_ | refine i_isn ?_ | refine i_nes ?_ | refine i_rbl ?_ | refine i_eCallX ?_ | refine i_eCallKwX ?_ | refine i_sRaiseF ?_ | refine i_eIsX ?_ | refine i_eFld ?_ | refine i_eDit1 ?_ | refine i_sTry ?_ | refine i_runX ?_) | ((with_reducible refine i_eVarX ?_); refine ⟨_, rfl, ?_⟩) | ((with_reducible refine i_len1 ?_ ?_); · exact Nat.le_of_ble_eq_true rfl))
      refine ⟨ys, by rw [hde]; exact hy, lc_map (fun d => .bl (isSq d)) rfl (Nat.le_trans (Nat.le_of_lt hl) (by decide)) (fun y hm => ?_) ?_⟩
      · refine ⟨_, rfl, fun Q' q' => ?_⟩
        repeat (first | (with_reducible first | refine i_sIf ?_ | refine i_sNil ?_ | refine i_sRet ?_ | refine i_sAsg ?_ | refine i_sDrop ?_ | refine i_sPut ?_ | refine i_sPar ?_ | refine i_eC ?_ | refine i_eOp ?_ | refine i_eChain ?_ | refine i_eB ?_ | refine i_eUn ?_ | refine i_eTup ?_ | refine i_eLst ?_ | refine i_eLstM ?_ | refine i_eAnd ?_ | refine i_eOr ?_ | refine i_eNot ?_ | refine i_eIf ?_ | refine i_bOf ?_ | refine i_bAnd ?_ | refine i_bOr ?_ | refine i_bNot ?_ | refine i_bYes ?_ | refine i_aNil ?_ | refine i_aCons ?_ | refine i_eCall ?_ | refine i_eCallKw ?_ | refine i_eCut ?_ | refine i_oNone ?_ | refine i_oSome ?_ | refine i_eM ?_ | refine i_sSq ?_ | refine i_sRange1 ?_ | refine i_sRange2 ?_ | refine i_sEnum ?_ | refine i_eIsi ?_ | refine i_eIsi2 ?_ | refine i_eLc ?_ | refine i_eLcM ?_ | refine i_sFor ?_ | refine i_eDisp1 ?_ | refine i_bl ?_ | refine i_int ?_ | refine i_nm ?_ | refine i_one ?_ | refine i_two ?_ | refine i_rng ?_ | refine i_len0 ?_ | refine i_int1 ?_ | refine i_intb ?_ | refine i_abs ?_ | refine i_add ?_ | refine i_sub ?_ | refine i_lt ?_ | refine i_le ?_ | refine i_gt ?_ | refine i_ge ?_ | refine i_eqi ?_ | refine i_is ?_ | refine i_isn ?_ | refine i_nes ?_ | refine i_rbl ?_ | refine i_eCallX ?_ | refine i_eCallKwX ?_ | refine i_sRaiseF ?_ | refine i_eIsX ?_ | refine i_eFld ?_ | refine i_eDit1 ?_ | refine i_sTry ?_ | refine i_runX ?_) | ((with_reducible refine i_eVarX ?_); refine ⟨_, rfl, ?_⟩) | ((with_reducible refine i_len1 ?_ ?_); · exact Nat.le_of_ble_eq_true rfl))
        exact ⟨y, rfl, hit y hm, q'⟩
      · repeat (first | (with_reducible first | refine i_sIf ?_ | refine i_sNil ?_ | refine i_sRet ?_ | refine i_sAsg ?_ | refine i_sDrop ?_ | refine i_sPut ?_ | refine i_sPar ?_ | refine i_eC ?_ | refine i_eOp ?_ | refine i_eChain ?_ | refine i_eB ?_ | refine i_eUn ?_ | refine i_eTup ?_ | refine i_eLst ?_ | refine i_eLstM ?_ | refine i_eAnd ?_ | refine i_eOr ?_ | refine i_eNot ?_ | refine i_eIf ?_ | refine i_bOf ?_ | refine i_bAnd ?_ | refine i_bOr ?_ | refine i_bNot ?_ | refine i_bYes ?_ | refine i_aNil ?_ | refine i_aCons ?_ | refine i_eCall ?_ | refine i_eCallKw ?_ | refine i_eCut ?_ | refine i_oNone ?_ | refine i_oSome ?_ | refine i_eM ?_ | refine i_sSq ?_ | refine i_sRange1 ?_ | refine i_sRange2 ?_ | refine i_sEnum ?_ | refine i_eIsi ?_ | refine i_eIsi2 ?_ | refine i_eLc ?_ | refine i_eLcM ?_ | refine i_sFor ?_ | refine i_eDisp1 ?_ | refine i_bl ?_ | refine i_int ?_ | refine i_nm ?_ | refine i_one ?_ | refine i_two ?_ | refine i_rng ?_ | refine i_len0 ?_ | refine i_int1 ?_ | refine i_intb ?_ | refine i_abs ?_ | refine i_add ?_ | refine i_sub ?_ | refine i_lt ?_ | refine i_le ?_ | refine i_gt ?_ | refine i_ge ?_ | refine i_eqi ?_ | refine i_is ?_ | refine i_isn ?_ | refine i_nes ?_ | refine i_rbl ?_ | refine i_eCallX ?_ | refine i_eCallKwX ?_ | refine i_sRaiseF ?_ | refine i_eIsX ?_ | refine i_eFld ?_ | refine i_eDit1 ?_ | refine i_sTry ?_ | refine i_runX ?_) | ((with_reducible refine i_eVarX ?_); refine ⟨_, rfl, ?_⟩) | ((with_reducible refine i_len1 ?_ ?_); · exact Nat.le_of_ble_eq_true rfl))
        refine ⟨ys.map isSq, by rw [List.map_map]; rfl, ?_⟩
        repeat (first | (with_reducible first | refine i_sIf ?_ | refine i_sNil ?_ | refine i_sRet ?_ | refine i_sAsg ?_ | refine i_sDrop ?_ | refine i_sPut ?_ | refine i_sPar ?_ | refine i_eC ?_ | refine i_eOp ?_ | refine i_eChain ?_ | refine i_eB ?_ | refine i_eUn ?_ | refine i_eTup ?_ | refine i_eLst ?_ | refine i_eLstM ?_ | refine i_eAnd ?_ | refine i_eOr ?_ | refine i_eNot ?_ | refine i_eIf ?_ | refine i_bOf ?_ | refine i_bAnd ?_ | refine i_bOr ?_ | refine i_bNot ?_ | refine i_bYes ?_ | refine i_aNil ?_ | refine i_aCons ?_ | refine i_eCall ?_ | refine i_eCallKw ?_ | refine i_eCut ?_ | refine i_oNone ?_ | refine i_oSome ?_ | refine i_eM ?_ | refine i_sSq ?_ | refine i_sRange1 ?_ | refine i_sRange2 ?_ | refine i_sEnum ?_ | refine i_eIsi ?_ | refine i_eIsi2 ?_ | refine i_eLc ?_ | refine i_eLcM ?_ | refine i_sFor ?_ | refine i_eDisp1 ?_ | refine i_bl ?_ | refine i_int ?_ | refine i_nm ?_ | refine i_one ?_ | refine i_two ?_ | refine i_rng ?_ | refine i_len0 ?_ | refine i_int1 ?_ | refine i_intb ?_ | refine i_abs ?_ | refine i_add ?_ | refine i_sub ?_ | refine i_lt ?_ | refine i_le ?_ | refine i_gt ?_ | refine i_ge ?_ | refine i_eqi ?_ | refine i_is ?_ | refine i_isn ?_ | refine i_nes ?_ | refine i_rbl ?_ | refine i_eCallX ?_ | refine i_eCallKwX ?_ | refine i_sRaiseF ?_ | refine i_eIsX ?_ | refine i_eFld ?_ | refine i_eDit1 ?_ | refine i_sTry ?_ | refine i_runX ?_) | ((with_reducible refine i_eVarX ?_); refine ⟨_, rfl, ?_⟩) | ((with_reducible refine i_len1 ?_ ?_); · exact Nat.le_of_ble_eq_true rfl))
        have ea : (ys.map isSq).all id = ys.all isSq := by simp [List.all_map]
        rw [ea]
        cases ha : ys.all isSq with
        | true =>
          refine iteF ?_
          repeat (first | (with_reducible first | refine i_sIf ?_ | refine i_sNil ?_ | refine i_sRet ?_ | refine i_sAsg ?_ | refine i_sDrop ?_ | refine i_sPut ?_ | refine i_sPar ?_ | refine i_eC ?_ | refine i_eOp ?_ | refine i_eChain ?_ | refine i_eB ?_ | refine i_eUn ?_ | refine i_eTup ?_ | refine i_eLst ?_ | refine i_eLstM ?_ | refine i_eAnd ?_ | refine i_eOr ?_ | refine i_eNot ?_ | refine i_eIf ?_ | refine i_bOf ?_ | refine i_bAnd ?_ | refine i_bOr ?_ | refine i_bNot ?_ | refine i_bYes ?_ | refine i_aNil ?_ | refine i_aCons ?_ | refine i_eCall ?_ | refine i_eCallKw ?_ | refine i_eCut ?_ | refine i_oNone ?_ | refine i_oSome ?_ | refine i_eM ?_ | refine i_sSq ?_ | refine i_sRange1 ?_ | refine i_sRange2 ?_ | refine i_sEnum ?_ | refine i_eIsi ?_ | refine i_eIsi2 ?_ | refine i_eLc ?_ | refine i_eLcM ?_ | refine i_sFor ?_ | refine i_eDisp1 ?_ | refine i_bl ?_ | refine i_int ?_ | refine i_nm ?_ | refine i_one ?_ | refine i_two ?_ | refine i_rng ?_ | refine i_len0 ?_ | refine i_int1 ?_ | refine i_intb ?_ | refine i_abs ?_ | refine i_add ?_ | refine i_sub ?_ | refine i_lt ?_ | refine i_le ?_ | refine i_gt ?_ | refine i_ge ?_ | refine i_eqi ?_ | refine i_is ?_ | refine i_isn ?_ | refine i_nes ?_ | refine i_rbl ?_ | refine i_eCallX ?_ | refine i_eCallKwX ?_ | refine i_sRaiseF ?_ | refine i_eIsX ?_ | refine i_eFld ?_ | refine i_eDit1 ?_ | refine i_sTry ?_ | refine i_runX ?_) | ((with_reducible refine i_eVarX ?_); refine ⟨_, rfl, ?_⟩) | ((with_reducible refine i_len1 ?_ ?_); · exact Nat.le_of_ble_eq_true rfl))
          exact hnx _ _ ⟨ys, hy, ha, rfl, rfl⟩
        | false =>
          refine iteT ?_
          repeat (first | (with_reducible first | refine i_sIf ?_ | refine i_sNil ?_ | refine i_sRet ?_ | refine i_sAsg ?_ | refine i_sDrop ?_ | refine i_sPut ?_ | refine i_sPar ?_ | refine i_eC ?_ | refine i_eOp ?_ | refine i_eChain ?_ | refine i_eB ?_ | refine i_eUn ?_ | refine i_eTup ?_ | refine i_eLst ?_ | refine i_eLstM ?_ | refine i_eAnd ?_ | refine i_eOr ?_ | refine i_eNot ?_ | refine i_eIf ?_ | refine i_bOf ?_ | refine i_bAnd ?_ | refine i_bOr ?_ | refine i_bNot ?_ | refine i_bYes ?_ | refine i_aNil ?_ | refine i_aCons ?_ | refine i_eCall ?_ | refine i_eCallKw ?_ | refine i_eCut ?_ | refine i_oNone ?_ | refine i_oSome ?_ | refine i_eM ?_ | refine i_sSq ?_ | refine i_sRange1 ?_ | refine i_sRange2 ?_ | refine i_sEnum ?_ | refine i_eIsi ?_ | refine i_eIsi2 ?_ | refine i_eLc ?_ | refine i_eLcM ?_ | refine i_sFor ?_ | refine i_eDisp1 ?_ | refine i_bl ?_ | refine i_int ?_ | refine i_nm ?_ | refine i_one ?_ | refine i_two ?_ | refine i_rng ?_ | refine i_len0 ?_ | refine i_int1 ?_ | refine i_intb ?_ | refine i_abs ?_ | refine i_add ?_ | refine i_sub ?_ | refine i_lt ?_ | refine i_le ?_ | refine i_gt ?_ | refine i_ge ?_ | refine i_eqi ?_ | refine i_is ?_ | refine i_isn ?_ | refine i_nes ?_ | refine i_rbl ?_ | refine i_eCallX ?_ | refine i_eCallKwX ?_ | refine i_sRaiseF ?_ | refine i_eIsX ?_ | refine i_eFld ?_ | refine i_eDit1 ?_ | refine i_sTry ?_ | refine i_runX ?_) | ((with_reducible refine i_eVarX ?_); refine ⟨_, rfl, ?_⟩) | ((with_reducible refine i_len1 ?_ ?_); · exact Nat.le_of_ble_eq_true rfl))
          rw [hrt]
          have e' : areSq e = false := by
            unfold areSq
            rw [hy]
            show (ys.all isSq && _) = false
            rw [ha]
            rfl
          rw [e'] at q
          exact q
  · obtain ⟨ys, hy, ha, rfl, rfl⟩ := hP
    obtain ⟨hl, hit⟩ := hf ys hy
    have hy' : seqOf (drf S' d) = some ys := by rw [hde]; exact hy
    repeat (first | (with_reducible first | refine i_sIf ?_ | refine i_sNil ?_ | refine i_sRet ?_ | refine i_sAsg ?_ | refine i_sDrop ?_ | refine i_sPut ?_ | refine i_sPar ?_ | refine i_eC ?_ | refine i_eOp ?_ | refine i_eChain ?_ | refine i_eB ?_ | refine i_eUn ?_ | refine i_eTup ?_ | refine i_eLst ?_ | refine i_eLstM ?_ | refine i_eAnd ?_ | refine i_eOr ?_ | refine i_eNot ?_ | refine i_eIf ?_ | refine i_bOf ?_ | refine i_bAnd ?_ | refine i_bOr ?_ | refine i_bNot ?_ | refine i_bYes ?_ | refine i_aNil ?_ | refine i_aCons ?_ | refine i_eCall ?_ | refine i_eCallKw ?_ | refine i_eCut ?_ | refine i_oNone ?_ | refine i_oSome ?_ | refine i_eM ?_ | refine i_sSq ?_ | refine i_sRange1 ?_ | refine i_sRange2 ?_ | refine i_sEnum ?_ | refine i_eIsi ?_ | refine i_eIsi2 ?_ | refine i_eLc ?_ | refine i_eLcM ?_ | refine i_sFor ?_ | refine i_eDisp1 ?_ | refine i_bl ?_ | refine i_int ?_ | refine i_nm ?_ | refine i_one ?_ | refine i_two ?_ | refine i_rng ?_ | refine i_len0 ?_ | refine i_int1 ?_ | refine i_intb ?_ | refine i_abs ?_ | refine i_add ?_ | refine i_sub ?_ | refine i_lt ?_ | refine i_le ?_ | refine i_gt ?_ | refine i_ge ?_ | refine i_eqi ?_ | refine i_is ?_ | refine i_isn ?_ | refine i_nes ?_ | refine i_rbl ?_ | refine i_eCallX ?_ | refine i_eCallKwX ?_ | refine i_sRaiseF ?_ | refine i_eIsX ?_ | refine i_eFld ?_ | refine i_eDit1 ?_ | refine i_sTry ?_ | refine i_runX ?_) | ((with_reducible refine i_eVarX ?_); refine ⟨_, rfl, ?_⟩) | ((with_reducible refine i_len1 ?_ ?_); · exact Nat.le_of_ble_eq_true rfl))
    refine ⟨ys, hy', lc_tuples rfl (by simp [startD]) hl hit ha ?_⟩
    refine ⟨(ys.map sqOf).map pr2, by show D.lst _ = _; rw [List.map_map, List.map_map, List.map_map]; rfl, by rw [List.length_map, List.length_map]; omega, fun L hn hm => ?_⟩
    repeat (first | (with_reducible first | refine i_sIf ?_ | refine i_sNil ?_ | refine i_sRet ?_ | refine i_sAsg ?_ | refine i_sDrop ?_ | refine i_sPut ?_ | refine i_sPar ?_ | refine i_eC ?_ | refine i_eOp ?_ | refine i_eChain ?_ | refine i_eB ?_ | refine i_eUn ?_ | refine i_eTup ?_ | refine i_eLst ?_ | refine i_eLstM ?_ | refine i_eAnd ?_ | refine i_eOr ?_ | refine i_eNot ?_ | refine i_eIf ?_ | refine i_bOf ?_ | refine i_bAnd ?_ | refine i_bOr ?_ | refine i_bNot ?_ | refine i_bYes ?_ | refine i_aNil ?_ | refine i_aCons ?_ | refine i_eCall ?_ | refine i_eCallKw ?_ | refine i_eCut ?_ | refine i_oNone ?_ | refine i_oSome ?_ | refine i_eM ?_ | refine i_sSq ?_ | refine i_sRange1 ?_ | refine i_sRange2 ?_ | refine i_sEnum ?_ | refine i_eIsi ?_ | refine i_eIsi2 ?_ | refine i_eLc ?_ | refine i_eLcM ?_ | refine i_sFor ?_ | refine i_eDisp1 ?_ | refine i_bl ?_ | refine i_int ?_ | refine i_nm ?_ | refine i_one ?_ | refine i_two ?_ | refine i_rng ?_ | refine i_len0 ?_ | refine i_int1 ?_ | refine i_intb ?_ | refine i_abs ?_ | refine i_add ?_ | refine i_sub ?_ | refine i_lt ?_ | refine i_le ?_ | refine i_gt ?_ | refine i_ge ?_ | refine i_eqi ?_ | refine i_is ?_ | refine i_isn ?_ | refine i_nes ?_ | refine i_rbl ?_ | refine i_eCallX ?_ | refine i_eCallKwX ?_ | refine i_sRaiseF ?_ | refine i_eIsX ?_ | refine i_eFld ?_ | refine i_eDit1 ?_ | refine i_sTry ?_ | refine i_runX ?_) | ((with_reducible refine i_eVarX ?_); refine ⟨_, rfl, ?_⟩) | ((with_reducible refine i_len1 ?_ ?_); · exact Nat.le_of_ble_eq_true rfl))
    refine len_seq hy' ?_
    repeat (first | (with_reducible first | refine i_sIf ?_ | refine i_sNil ?_ | refine i_sRet ?_ | refine i_sAsg ?_ | refine i_sDrop ?_ | refine i_sPut ?_ | refine i_sPar ?_ | refine i_eC ?_ | refine i_eOp ?_ | refine i_eChain ?_ | refine i_eB ?_ | refine i_eUn ?_ | refine i_eTup ?_ | refine i_eLst ?_ | refine i_eLstM ?_ | refine i_eAnd ?_ | refine i_eOr ?_ | refine i_eNot ?_ | refine i_eIf ?_ | refine i_bOf ?_ | refine i_bAnd ?_ | refine i_bOr ?_ | refine i_bNot ?_ | refine i_bYes ?_ | refine i_aNil ?_ | refine i_aCons ?_ | refine i_eCall ?_ | refine i_eCallKw ?_ | refine i_eCut ?_ | refine i_oNone ?_ | refine i_oSome ?_ | refine i_eM ?_ | refine i_sSq ?_ | refine i_sRange1 ?_ | refine i_sRange2 ?_ | refine i_sEnum ?_ | refine i_eIsi ?_ | refine i_eIsi2 ?_ | refine i_eLc ?_ | refine i_eLcM ?_ | refine i_sFor ?_ | refine i_eDisp1 ?_ | refine i_bl ?_ | refine i_int ?_ | refine i_nm ?_ | refine i_one ?_ | refine i_two ?_ | refine i_rng ?_ | refine i_len0 ?_ | refine i_int1 ?_ | refine i_intb ?_ | refine i_abs ?_ | refine i_add ?_ | refine i_sub ?_ | refine i_lt ?_ | refine i_le ?_ | refine i_gt ?_ | refine i_ge ?_ | refine i_eqi ?_ | refine i_is ?_ | refine i_isn ?_ | refine i_nes ?_ | refine i_rbl ?_ | refine i_eCallX ?_ | refine i_eCallKwX ?_ | refine i_sRaiseF ?_ | refine i_eIsX ?_ | refine i_eFld ?_ | refine i_eDit1 ?_ | refine i_sTry ?_ | refine i_runX ?_) | ((with_reducible refine i_eVarX ?_); refine ⟨_, rfl, ?_⟩) | ((with_reducible refine i_len1 ?_ ?_); · exact Nat.le_of_ble_eq_true rfl))
    have e' : areSq e = decide ((L.length : Int) = (ys.length : Int)) := by
      unfold areSq
      rw [hy]
      show (ys.all isSq && _) = _
      rw [ha, Bool.true_and, Bool.eq_iff_iff]
      have := nodup_len hn hm
      rw [List.length_map, List.length_map, nodup_pr2] at this
      simp only [decide_eq_true_eq]
      rw [← this]
      omega
    rw [e'] at q
    exact q
theorem run_next_to (xs : List D) (S : Store) (Q : QD) (h : r_next_to xs S Q) : runD 3 b_next_to xs S Q := by
  obtain ⟨p, rfl, q⟩ := h
  refine i_runD ?_
  unfold b_next_to
  repeat (first | (with_reducible first | refine i_sSeq ?_ | refine i_sIf ?_ | refine i_sNil ?_ | refine i_sRet ?_ | refine i_sAsg ?_ | refine i_sDrop ?_ | refine i_sPut ?_ | refine i_sPar ?_ | refine i_eC ?_ | refine i_eOp ?_ | refine i_eChain ?_ | refine i_eB ?_ | refine i_eUn ?_ | refine i_eTup ?_ | refine i_eLst ?_ | refine i_eLstM ?_ | refine i_eAnd ?_ | refine i_eOr ?_ | refine i_eNot ?_ | refine i_eIf ?_ | refine i_bOf ?_ | refine i_bAnd ?_ | refine i_bOr ?_ | refine i_bNot ?_ | refine i_bYes ?_ | refine i_aNil ?_ | refine i_aCons ?_ | refine i_eCall ?_ | refine i_eCallKw ?_ | refine i_eCut ?_ | refine i_oNone ?_ | refine i_oSome ?_ | refine i_eM ?_ | refine i_sSq ?_ | refine i_sRange1 ?_ | refine i_sRange2 ?_ | refine i_sEnum ?_ | refine i_eIsi ?_ | refine i_eIsi2 ?_ | refine i_eLc ?_ | refine i_eLcM ?_ | refine i_sFor ?_ | refine i_eDisp1 ?_ | refine i_bl ?_ | refine i_int ?_ | refine i_nm ?_ | refine i_one ?_ | refine i_two ?_ | refine i_rng ?_ | refine i_len0 ?_ | refine i_int1 ?_ | refine i_intb ?_ | refine i_abs ?_ | refine i_add ?_ | refine i_sub ?_ | refine i_lt ?_ | refine i_le ?_ | refine i_gt ?_ | refine i_ge ?_ | refine i_eqi ?_ | refine i_is ?_ | refine i_isn ?_ | refine i_nes ?_ | refine i_rbl ?_ | refine i_eCallX ?_ | refine i_eCallKwX ?_ | refine i_sRaiseF ?_ | refine i_eIsX ?_ | refine i_eFld ?_ | refine i_eDit1 ?_ | refine i_sTry ?_ | refine i_runX ?_) | ((with_reducible refine i_eVarX ?_); refine ⟨_, rfl, ?_⟩) | ((with_reducible refine i_len1 ?_ ?_); · exact Nat.le_of_ble_eq_true rfl))
  refine ⟨_, rfl, ?_⟩
  repeat (first | (with_reducible first | refine i_sIf ?_ | refine i_sNil ?_ | refine i_sRet ?_ | refine i_sAsg ?_ | refine i_sDrop ?_ | refine i_sPut ?_ | refine i_sPar ?_ | refine i_eC ?_ | refine i_eOp ?_ | refine i_eChain ?_ | refine i_eB ?_ | refine i_eUn ?_ | refine i_eTup ?_ | refine i_eLst ?_ | refine i_eLstM ?_ | refine i_eAnd ?_ | refine i_eOr ?_ | refine i_eNot ?_ | refine i_eIf ?_ | refine i_bOf ?_ | refine i_bAnd ?_ | refine i_bOr ?_ | refine i_bNot ?_ | refine i_bYes ?_ | refine i_aNil ?_ | refine i_aCons ?_ | refine i_eCall ?_ | refine i_eCallKw ?_ | refine i_eCut ?_ | refine i_oNone ?_ | refine i_oSome ?_ | refine i_eM ?_ | refine i_sSq ?_ | refine i_sRange1 ?_ | refine i_sRange2 ?_ | refine i_sEnum ?_ | refine i_eIsi ?_ | refine i_eIsi2 ?_ | refine i_eLc ?_ | refine i_eLcM ?_ | refine i_sFor ?_ | refine i_eDisp1 ?_ | refine i_bl ?_ | refine i_int ?_ | refine i_nm ?_ | refine i_one ?_ | refine i_two ?_ | refine i_rng ?_ | refine i_len0 ?_ | refine i_int1 ?_ | refine i_intb ?_ | refine i_abs ?_ | refine i_add ?_ | refine i_sub ?_ | refine i_lt ?_ | refine i_le ?_ | refine i_gt ?_ | refine i_ge ?_ | refine i_eqi ?_ | refine i_is ?_ | refine i_isn ?_ | refine i_nes ?_ | refine i_rbl ?_ | refine i_eCallX ?_ | refine i_eCallKwX ?_ | refine i_sRaiseF ?_ | refine i_eIsX ?_ | refine i_eFld ?_ | refine i_eDit1 ?_ | refine i_sTry ?_ | refine i_runX ?_) | ((with_reducible refine i_eVarX ?_); refine ⟨_, rfl, ?_⟩) | ((with_reducible refine i_len1 ?_ ?_); · exact Nat.le_of_ble_eq_true rfl))
  exact q
theorem tup_sq {d : D} {S : Store} {Q : QD} (hf : Flat d) (hs : isSq d = true) (q : Q (sqD (sqOf d)) S) : rTuple [d] S Q := by
  obtain ⟨⟨t, ht⟩, hro, _⟩ := hf
  exact ⟨_, by rw [drf_ty ht]; exact items_seq (sq_pair hs) hro, q⟩
theorem run_need_square {K : PySem.W.Frag} {cs : Cs} (xs : List D) (S : Store) (Q : QD) (E : XD) (h : r_need_square cs xs S Q E) : runX 2 (b_need_square K cs) xs S Q E := by
  obtain ⟨d, p, rfl, hp, hf, qn, qy⟩ := h
  refine i_runX ?_
  unfold b_need_square
  repeat (first | (with_reducible first | refine i_sSeq ?_ | refine i_sIf ?_ | refine i_sNil ?_ | refine i_sRet ?_ | refine i_sAsg ?_ | refine i_sDrop ?_ | refine i_sPut ?_ | refine i_sPar ?_ | refine i_eC ?_ | refine i_eOp ?_ | refine i_eChain ?_ | refine i_eB ?_ | refine i_eUn ?_ | refine i_eTup ?_ | refine i_eLst ?_ | refine i_eLstM ?_ | refine i_eAnd ?_ | refine i_eOr ?_ | refine i_eNot ?_ | refine i_eIf ?_ | refine i_bOf ?_ | refine i_bAnd ?_ | refine i_bOr ?_ | refine i_bNot ?_ | refine i_bYes ?_ | refine i_aNil ?_ | refine i_aCons ?_ | refine i_eCall ?_ | refine i_eCallKw ?_ | refine i_eCut ?_ | refine i_oNone ?_ | refine i_oSome ?_ | refine i_eM ?_ | refine i_sSq ?_ | refine i_sRange1 ?_ | refine i_sRange2 ?_ | refine i_sEnum ?_ | refine i_eIsi ?_ | refine i_eIsi2 ?_ | refine i_eLc ?_ | refine i_eLcM ?_ | refine i_sFor ?_ | refine i_eDisp1 ?_ | refine i_bl ?_ | refine i_int ?_ | refine i_nm ?_ | refine i_one ?_ | refine i_two ?_ | refine i_rng ?_ | refine i_len0 ?_ | refine i_int1 ?_ | refine i_intb ?_ | refine i_abs ?_ | refine i_add ?_ | refine i_sub ?_ | refine i_lt ?_ | refine i_le ?_ | refine i_gt ?_ | refine i_ge ?_ | refine i_eqi ?_ | refine i_is ?_ | refine i_isn ?_ | refine i_nes ?_ | refine i_rbl ?_ | refine i_eCallX ?_ | refine i_eCallKwX ?_ | refine i_sRaiseF ?_ | refine i_eIsX ?_ | refine i_eFld ?_ | refine i_eDit1 ?_ | refine i_sTry ?_ | refine i_runX ?_) | ((with_reducible refine i_eVarX ?_); refine ⟨_, rfl, ?_⟩) | ((with_reducible refine i_len1 ?_ ?_); · exact Nat.le_of_ble_eq_true rfl))
  refine ⟨d, rfl, hf, ?_⟩
  repeat (first | (with_reducible first | refine i_sIf ?_ | refine i_sNil ?_ | refine i_sRet ?_ | refine i_sAsg ?_ | refine i_sDrop ?_ | refine i_sPut ?_ | refine i_sPar ?_ | refine i_eC ?_ | refine i_eOp ?_ | refine i_eChain ?_ | refine i_eB ?_ | refine i_eUn ?_ | refine i_eTup ?_ | refine i_eLst ?_ | refine i_eLstM ?_ | refine i_eAnd ?_ | refine i_eOr ?_ | refine i_eNot ?_ | refine i_eIf ?_ | refine i_bOf ?_ | refine i_bAnd ?_ | refine i_bOr ?_ | refine i_bNot ?_ | refine i_bYes ?_ | refine i_aNil ?_ | refine i_aCons ?_ | refine i_eCall ?_ | refine i_eCallKw ?_ | refine i_eCut ?_ | refine i_oNone ?_ | refine i_oSome ?_ | refine i_eM ?_ | refine i_sSq ?_ | refine i_sRange1 ?_ | refine i_sRange2 ?_ | refine i_sEnum ?_ | refine i_eIsi ?_ | refine i_eIsi2 ?_ | refine i_eLc ?_ | refine i_eLcM ?_ | refine i_sFor ?_ | refine i_eDisp1 ?_ | refine i_bl ?_ | refine i_int ?_ | refine i_nm ?_ | refine i_one ?_ | refine i_two ?_ | refine i_rng ?_ | refine i_len0 ?_ | refine i_int1 ?_ | refine i_intb ?_ | refine i_abs ?_ | refine i_add ?_ | refine i_sub ?_ | refine i_lt ?_ | refine i_le ?_ | refine i_gt ?_ | refine i_ge ?_ | refine i_eqi ?_ | refine i_is ?_ | refine i_isn ?_ | refine i_nes ?_ | refine i_rbl ?_ | refine i_eCallX ?_ | refine i_eCallKwX ?_ | refine i_sRaiseF ?_ | refine i_eIsX ?_ | refine i_eFld ?_ | refine i_eDit1 ?_ | refine i_sTry ?_ | refine i_runX ?_) | ((with_reducible refine i_eVarX ?_); refine ⟨_, rfl, ?_⟩) | ((with_reducible refine i_len1 ?_ ?_); · exact Nat.le_of_ble_eq_true rfl))
  cases hs : isSq d with
  | false =>
    refine iteT ?_
    repeat (first | (with_reducible first | refine i_sIf ?_ | refine i_sNil ?_ | refine i_sRet ?_ | refine i_sAsg ?_ | refine i_sDrop ?_ | refine i_sPut ?_ | refine i_sPar ?_ | refine i_eC ?_ | refine i_eOp ?_ | refine i_eChain ?_ | refine i_eB ?_ | refine i_eUn ?_ | refine i_eTup ?_ | refine i_eLst ?_ | refine i_eLstM ?_ | refine i_eAnd ?_ | refine i_eOr ?_ | refine i_eNot ?_ | refine i_eIf ?_ | refine i_bOf ?_ | refine i_bAnd ?_ | refine i_bOr ?_ | refine i_bNot ?_ | refine i_bYes ?_ | refine i_aNil ?_ | refine i_aCons ?_ | refine i_eCall ?_ | refine i_eCallKw ?_ | refine i_eCut ?_ | refine i_oNone ?_ | refine i_oSome ?_ | refine i_eM ?_ | refine i_sSq ?_ | refine i_sRange1 ?_ | refine i_sRange2 ?_ | refine i_sEnum ?_ | refine i_eIsi ?_ | refine i_eIsi2 ?_ | refine i_eLc ?_ | refine i_eLcM ?_ | refine i_sFor ?_ | refine i_eDisp1 ?_ | refine i_bl ?_ | refine i_int ?_ | refine i_nm ?_ | refine i_one ?_ | refine i_two ?_ | refine i_rng ?_ | refine i_len0 ?_ | refine i_int1 ?_ | refine i_intb ?_ | refine i_abs ?_ | refine i_add ?_ | refine i_sub ?_ | refine i_lt ?_ | refine i_le ?_ | refine i_gt ?_ | refine i_ge ?_ | refine i_eqi ?_ | refine i_is ?_ | refine i_isn ?_ | refine i_nes ?_ | refine i_rbl ?_ | refine i_eCallX ?_ | refine i_eCallKwX ?_ | refine i_sRaiseF ?_ | refine i_eIsX ?_ | refine i_eFld ?_ | refine i_eDit1 ?_ | refine i_sTry ?_ | refine i_runX ?_) | ((with_reducible refine i_eVarX ?_); refine ⟨_, rfl, ?_⟩) | ((with_reducible refine i_len1 ?_ ?_); · exact Nat.le_of_ble_eq_true rfl))
    exact ⟨okD_part hp, qn hs⟩
  | true =>
    refine iteF ?_
    repeat (first | (with_reducible first | refine i_sIf ?_ | refine i_sNil ?_ | refine i_sRet ?_ | refine i_sAsg ?_ | refine i_sDrop ?_ | refine i_sPut ?_ | refine i_sPar ?_ | refine i_eC ?_ | refine i_eOp ?_ | refine i_eChain ?_ | refine i_eB ?_ | refine i_eUn ?_ | refine i_eTup ?_ | refine i_eLst ?_ | refine i_eLstM ?_ | refine i_eAnd ?_ | refine i_eOr ?_ | refine i_eNot ?_ | refine i_eIf ?_ | refine i_bOf ?_ | refine i_bAnd ?_ | refine i_bOr ?_ | refine i_bNot ?_ | refine i_bYes ?_ | refine i_aNil ?_ | refine i_aCons ?_ | refine i_eCall ?_ | refine i_eCallKw ?_ | refine i_eCut ?_ | refine i_oNone ?_ | refine i_oSome ?_ | refine i_eM ?_ | refine i_sSq ?_ | refine i_sRange1 ?_ | refine i_sRange2 ?_ | refine i_sEnum ?_ | refine i_eIsi ?_ | refine i_eIsi2 ?_ | refine i_eLc ?_ | refine i_eLcM ?_ | refine i_sFor ?_ | refine i_eDisp1 ?_ | refine i_bl ?_ | refine i_int ?_ | refine i_nm ?_ | refine i_one ?_ | refine i_two ?_ | refine i_rng ?_ | refine i_len0 ?_ | refine i_int1 ?_ | refine i_intb ?_ | refine i_abs ?_ | refine i_add ?_ | refine i_sub ?_ | refine i_lt ?_ | refine i_le ?_ | refine i_gt ?_ | refine i_ge ?_ | refine i_eqi ?_ | refine i_is ?_ | refine i_isn ?_ | refine i_nes ?_ | refine i_rbl ?_ | refine i_eCallX ?_ | refine i_eCallKwX ?_ | refine i_sRaiseF ?_ | refine i_eIsX ?_ | refine i_eFld ?_ | refine i_eDit1 ?_ | refine i_sTry ?_ | refine i_runX ?_) | ((with_reducible refine i_eVarX ?_); refine ⟨_, rfl, ?_⟩) | ((with_reducible refine i_len1 ?_ ?_); · exact Nat.le_of_ble_eq_true rfl))
    exact tup_sq hf hs (qy hs)
theorem run_need_squares {K : PySem.W.Frag} {cs : Cs} (xs : List D) (S : Store) (Q : QD) (E : XD) (h : r_need_squares cs xs S Q E) : runX 3 (b_need_squares K cs) xs S Q E := by
  obtain ⟨d, e, p, rfl, hp, hl, qn, qy⟩ := h
  refine i_runX ?_
  unfold b_need_squares
  repeat (first | (with_reducible first | refine i_sSeq ?_ | refine i_sIf ?_ | refine i_sNil ?_ | refine i_sRet ?_ | refine i_sAsg ?_ | refine i_sDrop ?_ | refine i_sPut ?_ | refine i_sPar ?_ | refine i_eC ?_ | refine i_eOp ?_ | refine i_eChain ?_ | refine i_eB ?_ | refine i_eUn ?_ | refine i_eTup ?_ | refine i_eLst ?_ | refine i_eLstM ?_ | refine i_eAnd ?_ | refine i_eOr ?_ | refine i_eNot ?_ | refine i_eIf ?_ | refine i_bOf ?_ | refine i_bAnd ?_ | refine i_bOr ?_ | refine i_bNot ?_ | refine i_bYes ?_ | refine i_aNil ?_ | refine i_aCons ?_ | refine i_eCall ?_ | refine i_eCallKw ?_ | refine i_eCut ?_ | refine i_oNone ?_ | refine i_oSome ?_ | refine i_eM ?_ | refine i_sSq ?_ | refine i_sRange1 ?_ | refine i_sRange2 ?_ | refine i_sEnum ?_ | refine i_eIsi ?_ | refine i_eIsi2 ?_ | refine i_eLc ?_ | refine i_eLcM ?_ | refine i_sFor ?_ | refine i_eDisp1 ?_ | refine i_bl ?_ | refine i_int ?_ | refine i_nm ?_ | refine i_one ?_ | refine i_two ?_ | refine i_rng ?_ | refine i_len0 ?_ | refine i_int1 ?_ | refine i_intb ?_ | refine i_abs ?_ | refine i_add ?_ | refine i_sub ?_ | refine i_lt ?_ | refine i_le ?_ | refine i_gt ?_ | refine i_ge ?_ | refine i_eqi ?_ | refine i_is ?_ | refine i_isn ?_ | refine i_nes ?_ | refine i_rbl ?_ | refine i_eCallX ?_ | refine i_eCallKwX ?_ | refine i_sRaiseF ?_ | refine i_eIsX ?_ | refine i_eFld ?_ | refine i_eDit1 ?_ | refine i_sTry ?_ | refine i_runX ?_) | ((with_reducible refine i_eVarX ?_); refine ⟨_, rfl, ?_⟩) | ((with_reducible refine i_len1 ?_ ?_); · exact Nat.le_of_ble_eq_true rfl))
  refine ⟨d, e, rfl, hl, ?_⟩
  repeat (first | (with_reducible first | refine i_sIf ?_ | refine i_sNil ?_ | refine i_sRet ?_ | refine i_sAsg ?_ | refine i_sDrop ?_ | refine i_sPut ?_ | refine i_sPar ?_ | refine i_eC ?_ | refine i_eOp ?_ | refine i_eChain ?_ | refine i_eB ?_ | refine i_eUn ?_ | refine i_eTup ?_ | refine i_eLst ?_ | refine i_eLstM ?_ | refine i_eAnd ?_ | refine i_eOr ?_ | refine i_eNot ?_ | refine i_eIf ?_ | refine i_bOf ?_ | refine i_bAnd ?_ | refine i_bOr ?_ | refine i_bNot ?_ | refine i_bYes ?_ | refine i_aNil ?_ | refine i_aCons ?_ | refine i_eCall ?_ | refine i_eCallKw ?_ | refine i_eCut ?_ | refine i_oNone ?_ | refine i_oSome ?_ | refine i_eM ?_ | refine i_sSq ?_ | refine i_sRange1 ?_ | refine i_sRange2 ?_ | refine i_sEnum ?_ | refine i_eIsi ?_ | refine i_eIsi2 ?_ | refine i_eLc ?_ | refine i_eLcM ?_ | refine i_sFor ?_ | refine i_eDisp1 ?_ | refine i_bl ?_ | refine i_int ?_ | refine i_nm ?_ | refine i_one ?_ | refine i_two ?_ | refine i_rng ?_ | refine i_len0 ?_ | refine i_int1 ?_ | refine i_intb ?_ | refine i_abs ?_ | refine i_add ?_ | refine i_sub ?_ | refine i_lt ?_ | refine i_le ?_ | refine i_gt ?_ | refine i_ge ?_ | refine i_eqi ?_ | refine i_is ?_ | refine i_isn ?_ | refine i_nes ?_ | refine i_rbl ?_ | refine i_eCallX ?_ | refine i_eCallKwX ?_ | refine i_sRaiseF ?_ | refine i_eIsX ?_ | refine i_eFld ?_ | refine i_eDit1 ?_ | refine i_sTry ?_ | refine i_runX ?_) | ((with_reducible refine i_eVarX ?_); refine ⟨_, rfl, ?_⟩) | ((with_reducible refine i_len1 ?_ ?_); · exact Nat.le_of_ble_eq_true rfl))
  cases hs : areSq e with
  | false =>
    refine iteT ?_
    repeat (first | (with_reducible first | refine i_sIf ?_ | refine i_sNil ?_ | refine i_sRet ?_ | refine i_sAsg ?_ | refine i_sDrop ?_ | refine i_sPut ?_ | refine i_sPar ?_ | refine i_eC ?_ | refine i_eOp ?_ | refine i_eChain ?_ | refine i_eB ?_ | refine i_eUn ?_ | refine i_eTup ?_ | refine i_eLst ?_ | refine i_eLstM ?_ | refine i_eAnd ?_ | refine i_eOr ?_ | refine i_eNot ?_ | refine i_eIf ?_ | refine i_bOf ?_ | refine i_bAnd ?_ | refine i_bOr ?_ | refine i_bNot ?_ | refine i_bYes ?_ | refine i_aNil ?_ | refine i_aCons ?_ | refine i_eCall ?_ | refine i_eCallKw ?_ | refine i_eCut ?_ | refine i_oNone ?_ | refine i_oSome ?_ | refine i_eM ?_ | refine i_sSq ?_ | refine i_sRange1 ?_ | refine i_sRange2 ?_ | refine i_sEnum ?_ | refine i_eIsi ?_ | refine i_eIsi2 ?_ | refine i_eLc ?_ | refine i_eLcM ?_ | refine i_sFor ?_ | refine i_eDisp1 ?_ | refine i_bl ?_ | refine i_int ?_ | refine i_nm ?_ | refine i_one ?_ | refine i_two ?_ | refine i_rng ?_ | refine i_len0 ?_ | refine i_int1 ?_ | refine i_intb ?_ | refine i_abs ?_ | refine i_add ?_ | refine i_sub ?_ | refine i_lt ?_ | refine i_le ?_ | refine i_gt ?_ | refine i_ge ?_ | refine i_eqi ?_ | refine i_is ?_ | refine i_isn ?_ | refine i_nes ?_ | refine i_rbl ?_ | refine i_eCallX ?_ | refine i_eCallKwX ?_ | refine i_sRaiseF ?_ | refine i_eIsX ?_ | refine i_eFld ?_ | refine i_eDit1 ?_ | refine i_sTry ?_ | refine i_runX ?_) | ((with_reducible refine i_eVarX ?_); refine ⟨_, rfl, ?_⟩) | ((with_reducible refine i_len1 ?_ ?_); · exact Nat.le_of_ble_eq_true rfl))
    exact ⟨okD_part hp, qn hs⟩
  | true =>
    refine iteF ?_
    repeat (first | (with_reducible first | refine i_sIf ?_ | refine i_sNil ?_ | refine i_sRet ?_ | refine i_sAsg ?_ | refine i_sDrop ?_ | refine i_sPut ?_ | refine i_sPar ?_ | refine i_eC ?_ | refine i_eOp ?_ | refine i_eChain ?_ | refine i_eB ?_ | refine i_eUn ?_ | refine i_eTup ?_ | refine i_eLst ?_ | refine i_eLstM ?_ | refine i_eAnd ?_ | refine i_eOr ?_ | refine i_eNot ?_ | refine i_eIf ?_ | refine i_bOf ?_ | refine i_bAnd ?_ | refine i_bOr ?_ | refine i_bNot ?_ | refine i_bYes ?_ | refine i_aNil ?_ | refine i_aCons ?_ | refine i_eCall ?_ | refine i_eCallKw ?_ | refine i_eCut ?_ | refine i_oNone ?_ | refine i_oSome ?_ | refine i_eM ?_ | refine i_sSq ?_ | refine i_sRange1 ?_ | refine i_sRange2 ?_ | refine i_sEnum ?_ | refine i_eIsi ?_ | refine i_eIsi2 ?_ | refine i_eLc ?_ | refine i_eLcM ?_ | refine i_sFor ?_ | refine i_eDisp1 ?_ | refine i_bl ?_ | refine i_int ?_ | refine i_nm ?_ | refine i_one ?_ | refine i_two ?_ | refine i_rng ?_ | refine i_len0 ?_ | refine i_int1 ?_ | refine i_intb ?_ | refine i_abs ?_ | refine i_add ?_ | refine i_sub ?_ | refine i_lt ?_ | refine i_le ?_ | refine i_gt ?_ | refine i_ge ?_ | refine i_eqi ?_ | refine i_is ?_ | refine i_isn ?_ | refine i_nes ?_ | refine i_rbl ?_ | refine i_eCallX ?_ | refine i_eCallKwX ?_ | refine i_sRaiseF ?_ | refine i_eIsX ?_ | refine i_eFld ?_ | refine i_eDit1 ?_ | refine i_sTry ?_ | refine i_runX ?_) | ((with_reducible refine i_eVarX ?_); refine ⟨_, rfl, ?_⟩) | ((with_reducible refine i_len1 ?_ ?_); · exact Nat.le_of_ble_eq_true rfl))
    obtain ⟨hde, _, hf⟩ := hl
    have ev := hs
    unfold areSq at ev
    split at ev
    · rename_i ys hy
      obtain ⟨hlen, hit⟩ := hf ys hy
      rw [Bool.and_eq_true] at ev
      refine ⟨ys, by rw [hde]; exact hy, lc_tuples rfl (by simp [startD]) hlen hit ev.1 ?_⟩
      repeat (first | (with_reducible first | refine i_sIf ?_ | refine i_sNil ?_ | refine i_sRet ?_ | refine i_sAsg ?_ | refine i_sDrop ?_ | refine i_sPut ?_ | refine i_sPar ?_ | refine i_eC ?_ | refine i_eOp ?_ | refine i_eChain ?_ | refine i_eB ?_ | refine i_eUn ?_ | refine i_eTup ?_ | refine i_eLst ?_ | refine i_eLstM ?_ | refine i_eAnd ?_ | refine i_eOr ?_ | refine i_eNot ?_ | refine i_eIf ?_ | refine i_bOf ?_ | refine i_bAnd ?_ | refine i_bOr ?_ | refine i_bNot ?_ | refine i_bYes ?_ | refine i_aNil ?_ | refine i_aCons ?_ | refine i_eCall ?_ | refine i_eCallKw ?_ | refine i_eCut ?_ | refine i_oNone ?_ | refine i_oSome ?_ | refine i_eM ?_ | refine i_sSq ?_ | refine i_sRange1 ?_ | refine i_sRange2 ?_ | refine i_sEnum ?_ | refine i_eIsi ?_ | refine i_eIsi2 ?_ | refine i_eLc ?_ | refine i_eLcM ?_ | refine i_sFor ?_ | refine i_eDisp1 ?_ | refine i_bl ?_ | refine i_int ?_ | refine i_nm ?_ | refine i_one ?_ | refine i_two ?_ | refine i_rng ?_ | refine i_len0 ?_ | refine i_int1 ?_ | refine i_intb ?_ | refine i_abs ?_ | refine i_add ?_ | refine i_sub ?_ | refine i_lt ?_ | refine i_le ?_ | refine i_gt ?_ | refine i_ge ?_ | refine i_eqi ?_ | refine i_is ?_ | refine i_isn ?_ | refine i_nes ?_ | refine i_rbl ?_ | refine i_eCallX ?_ | refine i_eCallKwX ?_ | refine i_sRaiseF ?_ | refine i_eIsX ?_ | refine i_eFld ?_ | refine i_eDit1 ?_ | refine i_sTry ?_ | refine i_runX ?_) | ((with_reducible refine i_eVarX ?_); refine ⟨_, rfl, ?_⟩) | ((with_reducible refine i_len1 ?_ ?_); · exact Nat.le_of_ble_eq_true rfl))
      refine ⟨_, _, rfl, rfl, fun qs h1 h2 => ?_⟩
      repeat (first | (with_reducible first | refine i_sIf ?_ | refine i_sNil ?_ | refine i_sRet ?_ | refine i_sAsg ?_ | refine i_sDrop ?_ | refine i_sPut ?_ | refine i_sPar ?_ | refine i_eC ?_ | refine i_eOp ?_ | refine i_eChain ?_ | refine i_eB ?_ | refine i_eUn ?_ | refine i_eTup ?_ | refine i_eLst ?_ | refine i_eLstM ?_ | refine i_eAnd ?_ | refine i_eOr ?_ | refine i_eNot ?_ | refine i_eIf ?_ | refine i_bOf ?_ | refine i_bAnd ?_ | refine i_bOr ?_ | refine i_bNot ?_ | refine i_bYes ?_ | refine i_aNil ?_ | refine i_aCons ?_ | refine i_eCall ?_ | refine i_eCallKw ?_ | refine i_eCut ?_ | refine i_oNone ?_ | refine i_oSome ?_ | refine i_eM ?_ | refine i_sSq ?_ | refine i_sRange1 ?_ | refine i_sRange2 ?_ | refine i_sEnum ?_ | refine i_eIsi ?_ | refine i_eIsi2 ?_ | refine i_eLc ?_ | refine i_eLcM ?_ | refine i_sFor ?_ | refine i_eDisp1 ?_ | refine i_bl ?_ | refine i_int ?_ | refine i_nm ?_ | refine i_one ?_ | refine i_two ?_ | refine i_rng ?_ | refine i_len0 ?_ | refine i_int1 ?_ | refine i_intb ?_ | refine i_abs ?_ | refine i_add ?_ | refine i_sub ?_ | refine i_lt ?_ | refine i_le ?_ | refine i_gt ?_ | refine i_ge ?_ | refine i_eqi ?_ | refine i_is ?_ | refine i_isn ?_ | refine i_nes ?_ | refine i_rbl ?_ | refine i_eCallX ?_ | refine i_eCallKwX ?_ | refine i_sRaiseF ?_ | refine i_eIsX ?_ | refine i_eFld ?_ | refine i_eDit1 ?_ | refine i_sTry ?_ | refine i_runX ?_) | ((with_reducible refine i_eVarX ?_); refine ⟨_, rfl, ?_⟩) | ((with_reducible refine i_len1 ?_ ?_); · exact Nat.le_of_ble_eq_true rfl))
      refine ⟨qs.map sqD, rfl, ?_⟩
      have e2 : sqsOf e = ys.map sqOf := by unfold sqsOf; rw [hy]
      exact qy hs qs (by rw [e2]; exact h1) h2
    · cases ev
end NC

set_option Elab.async false
set_option linter.all false
set_option maxRecDepth 100000
set_option maxHeartbeats 1000000
/-! NC29: squares of bounded numbers: shown, asked; lists put in order. -/
namespace NC
open PySem PySem.Spec PyProof.Rows L2

def Sml (n : Int) : Prop := n.natAbs < 10 ^ 70
def SmlP (p : Int × Int) : Prop := Sml p.1 ∧ Sml p.2
theorem sml_shw {n : Nat} {i : Int} (h : Sml i) : shw n (.int i) = true := shw_int' (k := 70) h (by decide)
theorem sml_wid {i : Int} (h : Sml i) : wid (.int i) ≤ 71 := wid_int (k := 70) (by decide) h
def sqL (p : Int × Int) : D := .lst [.int p.1, .int p.2]
/-- a square as it may be passed -/
def SqV (d : D) : Prop := ∃ p, SmlP p ∧ (d = sqD p ∨ d = sqL p)
theorem sq_of_D (p : Int × Int) : sqOf (sqD p) = p := rfl
theorem sq_of_L (p : Int × Int) : sqOf (sqL p) = p := rfl
theorem isSq_D (p : Int × Int) : isSq (sqD p) = true := rfl
theorem isSq_L (p : Int × Int) : isSq (sqL p) = true := rfl
theorem shw_D {n : Nat} {p : Int × Int} (h : SmlP p) : shw (n + 1) (sqD p) = true := by
  show shws n [.int p.1, .int p.2] = true
  simp only [shws, Bool.and_eq_true]
  exact ⟨sml_shw h.1, sml_shw h.2, trivial⟩
theorem shw_L {n : Nat} {p : Int × Int} (h : SmlP p) : shw (n + 1) (sqL p) = true := by
  show shws n [.int p.1, .int p.2] = true
  simp only [shws, Bool.and_eq_true]
  exact ⟨sml_shw h.1, sml_shw h.2, trivial⟩
theorem wid_D {p : Int × Int} (h : SmlP p) : wid (sqD p) ≤ 150 := by
  have h1 := sml_wid h.1
  have h2 := sml_wid h.2
  simp only [sqD, wid, wids] at h1 h2 ⊢
  omega
theorem wid_L {p : Int × Int} (h : SmlP p) : wid (sqL p) ≤ 150 := by
  have h1 := sml_wid h.1
  have h2 := sml_wid h.2
  simp only [sqL, wid, wids] at h1 h2 ⊢
  omega
theorem SqV.shw {n : Nat} {d : D} (h : SqV d) : shw (n + 1) d = true := by
  obtain ⟨p, hp, rfl | rfl⟩ := h
  · exact shw_D hp
  · exact shw_L hp
theorem SqV.wid {d : D} (h : SqV d) : wid d ≤ 150 := by
  obtain ⟨p, hp, rfl | rfl⟩ := h
  · exact wid_D hp
  · exact wid_L hp
theorem SqV.is {d : D} (h : SqV d) : isSq d = true := by
  obtain ⟨p, hp, rfl | rfl⟩ := h <;> rfl
theorem flat_D (p : Int × Int) : Flat (sqD p) := ⟨⟨_, rfl⟩, fun zs e => (nomatch e), fun ys hy => by
  cases hy
  exact ⟨(by decide : 2 ≤ sizeLine), fun y hm => by
    rcases List.mem_cons.mp hm with rfl | hm
    · exact ⟨_, rfl⟩
    · rw [List.mem_singleton.mp hm]
      exact ⟨_, rfl⟩⟩⟩
theorem flat_L (p : Int × Int) : Flat (sqL p) := ⟨⟨_, rfl⟩, fun zs e => (nomatch e), fun ys hy => by
  cases hy
  exact ⟨(by decide : 2 ≤ sizeLine), fun y hm => by
    rcases List.mem_cons.mp hm with rfl | hm
    · exact ⟨_, rfl⟩
    · rw [List.mem_singleton.mp hm]
      exact ⟨_, rfl⟩⟩⟩
theorem SqV.flat {d : D} (h : SqV d) : Flat d := by
  obtain ⟨p, hp, rfl | rfl⟩ := h
  · exact flat_D p
  · exact flat_L p
/-- many squares: list or tuple -/
theorem lot_of {S : Store} {d : D} {zs : List D} (e : d = .lst zs ∨ d = .tup zs) (hl : zs.length < 60) (h : ∀ z ∈ zs, Flat z) : Lot S d d := by
  refine ⟨?_, ?_, ?_⟩
  · rcases e with rfl | rfl <;> rfl
  · rcases e with rfl | rfl <;> exact ⟨_, rfl⟩
  · intro ys hy
    have : ys = zs := by
      rcases e with rfl | rfl <;> (cases hy; rfl)
    subst this
    exact ⟨hl, h⟩
theorem are_of {d : D} {zs : List D} (e : seqOf d = some zs) (h : ∀ z ∈ zs, isSq z = true) (hn : (zs.map sqOf).Nodup) : areSq d = true := by
  unfold areSq
  rw [e]
  show (zs.all isSq && decide (zs.map sqOf).Nodup) = true
  rw [List.all_eq_true.mpr h, decide_eq_true hn]
  rfl
theorem are_no1 {d : D} {zs : List D} (e : seqOf d = some zs) {z : D} (hz : z ∈ zs) (h : isSq z = false) : areSq d = false := by
  unfold areSq
  rw [e]
  show (zs.all isSq && _) = false
  rw [List.all_eq_false.mpr ⟨z, hz, by rw [h]; decide⟩]
  rfl
theorem are_no2 {d : D} {zs : List D} (e : seqOf d = some zs) (hn : ¬ (zs.map sqOf).Nodup) : areSq d = false := by
  unfold areSq
  rw [e]
  show (_ && decide (zs.map sqOf).Nodup) = false
  rw [decide_eq_false hn, Bool.and_false]
theorem sqs_of {d : D} {zs : List D} (e : seqOf d = some zs) : sqsOf d = zs.map sqOf := by
  unfold sqsOf
  rw [e]
/-- many shown -/
theorem shw_many {d : D} {zs : List D} {w n : Nat} (e : d = .lst zs ∨ d = .tup zs) (hs : ∀ z ∈ zs, shw n z = true) : shw (n + 1) d = true := by
  rcases e with rfl | rfl <;> exact shws_all.mpr hs
theorem wid_many {d : D} {zs : List D} {w m : Nat} (e : d = .lst zs ∨ d = .tup zs) (hw : ∀ z ∈ zs, wid z ≤ w) (hl : zs.length ≤ m) : wid d ≤ m * (w + 2) + 3 := by
  have h1 := wids_le (w := w) hw
  have h2 : zs.length * (w + 2) ≤ m * (w + 2) := Nat.mul_le_mul_right _ hl
  rcases e with rfl | rfl <;> simp only [wid] <;> omega
theorem flat_of {n : Nat} {d : D} (h : NC.shw n d = true) (hl : ∀ ys, seqOf d = some ys → ys.length ≤ 100) : Flat d := by
  refine ⟨ty_shw h, fun zs e => ?_, fun ys hy => ⟨Nat.le_trans (hl ys hy) (by decide), fun y hm => ?_⟩⟩
  · subst e
    cases n <;> simp [NC.shw] at h
  · cases n with
    | zero => cases d <;> first | (cases hy; done) | (simp [NC.shw] at h; done)
    | succ n =>
      cases d with
      | lst xs =>
        cases hy
        exact ty_shw (shws_all.mp (by simpa [NC.shw] using h) y hm)
      | tup xs =>
        cases hy
        exact ty_shw (shws_all.mp (by simpa [NC.shw] using h) y hm)
      | ro xs => simp [NC.shw] at h
      | _ => cases hy
/-- a written value, not too deep -/
def flB (d : D) : Bool := NC.shw 50 d && (match seqOf d with | some ys => decide (ys.length ≤ 50) | none => true)
theorem flB_ok {d : D} (h : flB d = true) : Flat d := by
  unfold flB at h
  rw [Bool.and_eq_true] at h
  refine flat_of h.1 fun ys hy => ?_
  have h2 := h.2
  rw [hy] at h2
  have := of_decide_eq_true h2
  omega
/-! put in at its place -/
theorem lt_tr {p q r : Int × Int} (h1 : ltS p q = true) (h2 : ltS q r = true) : ltS p r = true := by
  have a := SrtO.lexB_iff.mp h1
  have b := SrtO.lexB_iff.mp h2
  exact SrtO.lexB_iff.mpr (by omega)
theorem nlt_tr {p q r : Int × Int} (h1 : ltS p q = false) (h2 : ltS q r = false) : ltS p r = false := by
  have a := SrtO.lexB_no.mp h1
  have b := SrtO.lexB_no.mp h2
  exact SrtO.lexB_no.mpr (by omega)
theorem lt_asym {p q : Int × Int} (h1 : ltS p q = true) : ltS q p = false := by
  have a := SrtO.lexB_iff.mp h1
  exact SrtO.lexB_no.mpr (by omega)
abbrev Srt (l : List (Int × Int)) : Prop := l.Pairwise fun p q => ltS q p = false
theorem put_in {x : Int × Int} : ∀ {l : List (Int × Int)}, Srt l → Srt (l.take (l.filter fun a => ltS a x).length ++ [x] ++ l.drop (l.filter fun a => ltS a x).length)
  | [], _ => by simp [Srt]
  | a :: l, h => by
    obtain ⟨h1, h2⟩ := List.pairwise_cons.mp h
    cases ha : ltS a x with
    | true =>
      rw [List.filter_cons_of_pos (by exact ha), List.length_cons, List.take_succ_cons, List.drop_succ_cons]
      refine List.pairwise_cons.mpr ⟨fun b hb => ?_, put_in h2⟩
      rcases List.mem_append.mp hb with hb | hb
      · rcases List.mem_append.mp hb with hb | hb
        · exact h1 b (List.mem_of_mem_take hb)
        · rw [List.mem_singleton.mp hb]
          exact lt_asym ha
      · exact h1 b (List.mem_of_mem_drop hb)
    | false =>
      have none : l.filter (fun a => ltS a x) = [] := List.filter_eq_nil_iff.mpr fun b hb => by
        rw [nlt_tr (h1 b hb) ha]
        decide
      rw [List.filter_cons_of_neg (by rw [ha]; decide), none]
      refine List.pairwise_cons.mpr ⟨fun b hb => ?_, h⟩
      rcases List.mem_cons.mp hb with rfl | hb
      · exact ha
      · exact nlt_tr (h1 b hb) ha
theorem put_perm {α : Type} (l : List α) (x : α) (n : Nat) : (l.take n ++ [x] ++ l.drop n).Perm (l ++ [x]) := by
  have h : (l.take n ++ [x] ++ l.drop n).Perm (l.take n ++ l.drop n ++ [x]) := by
    rw [List.append_assoc, List.append_assoc]
    exact List.Perm.append_left _ List.perm_append_comm
  rwa [List.take_append_drop] at h
end NC

set_option Elab.async false
set_option linter.all false
set_option maxRecDepth 100000
set_option maxHeartbeats 4000000
namespace NC
open PySem PySem.Spec PyProof.Rows L2
/-- what is known of them -/
structure KF (K : PySem.W.Frag) (cs : Cs) : Prop where
  x_BadSquares_FlightError : PySem.W.exmOne K (.ref cs.BadSquares) (.ref cs.FlightError) = some true
  i_BadSquares_BadSquares : PySem.W.kitOne K (.ref cs.BadSquares) (.ref cs.BadSquares) = some true
  i_BadSquares_BadSquare : PySem.W.kitOne K (.ref cs.BadSquares) (.ref cs.BadSquare) = some false
  e_BadSquares : L2.ExcC K cs.BadSquares
  f_BadSquares : XfC K cs.BadSquares
  o_BadSquares_part : PySem.W.findIn K (.ref cs.BadSquares) "part" = some none
  x_BadSquare_FlightError : PySem.W.exmOne K (.ref cs.BadSquare) (.ref cs.FlightError) = some true
  i_BadSquare_BadSquares : PySem.W.kitOne K (.ref cs.BadSquare) (.ref cs.BadSquares) = some false
  i_BadSquare_BadSquare : PySem.W.kitOne K (.ref cs.BadSquare) (.ref cs.BadSquare) = some true
  e_BadSquare : L2.ExcC K cs.BadSquare
  f_BadSquare : XfC K cs.BadSquare
  o_BadSquare_part : PySem.W.findIn K (.ref cs.BadSquare) "part" = some none
  n_BadSquares : PySem.W.kitOne K (.type "NoneType") (.ref cs.BadSquares) = some false
  n_BadSquare : PySem.W.kitOne K (.type "NoneType") (.ref cs.BadSquare) = some false
def kfL (K : PySem.W.Frag) (cs : Cs) : List Bool := [exmB K cs.BadSquares cs.FlightError true, kitBB K cs.BadSquares cs.BadSquares true, kitBB K cs.BadSquares cs.BadSquare false, exmB K cs.BadSquare cs.FlightError true, kitBB K cs.BadSquare cs.BadSquares false, kitBB K cs.BadSquare cs.BadSquare true, kitN K cs.BadSquares, kitN K cs.BadSquare]
theorem kf_of {P : Program} {w : World} {K : PySem.W.Frag} {mg : Str → Option Value} {base : Heap} {cs : Cs} (h : (kfL K cs).all id = true) (E_BadSquares : ErrOk P w K mg base "BadSquares" cs.BadSquares true ["part"]) (E_BadSquare : ErrOk P w K mg base "BadSquare" cs.BadSquare true ["part"]) : KF K cs := by
  have all := fun b hb => List.all_eq_true.mp h b hb
  exact ⟨exmB_ok (all _ (List.mem_of_getElem? (i := 0) rfl)), kitBB_ok (all _ (List.mem_of_getElem? (i := 1) rfl)), kitBB_ok (all _ (List.mem_of_getElem? (i := 2) rfl)), E_BadSquares.xc, E_BadSquares.xf, E_BadSquares.no _ (List.mem_of_getElem? (i := 0) rfl), exmB_ok (all _ (List.mem_of_getElem? (i := 3) rfl)), kitBB_ok (all _ (List.mem_of_getElem? (i := 4) rfl)), kitBB_ok (all _ (List.mem_of_getElem? (i := 5) rfl)), E_BadSquare.xc, E_BadSquare.xf, E_BadSquare.no _ (List.mem_of_getElem? (i := 0) rfl), kitN_ok (all _ (List.mem_of_getElem? (i := 6) rfl)), kitN_ok (all _ (List.mem_of_getElem? (i := 7) rfl))⟩


abbrev r_law_tub : RDs := rUrn
abbrev r_law_dip : RDs := rDraw
def Drawn (p : Int × Int) : Prop := p.1.natAbs ≤ 10 ^ 60 ∧ p.2.natAbs ≤ 10 ^ 60
theorem Drawn.sml {p : Int × Int} (h : Drawn p) : SmlP p := ⟨Nat.lt_of_le_of_lt h.1 (by decide), Nat.lt_of_le_of_lt h.2 (by decide)⟩
def r_law_square : RDs := fun xs S Q => ∃ (k : Nat) (o : SO) (T : Store), xs = [.ref 0] ∧ S = some o :: T ∧ Urn k o ∧ k < 900000 ∧ ∀ (o' : SO) (p : Int × Int), Urn (k + 3) o' → Drawn p → Q (sqD p) (some o' :: T)
def odds : List D := [.non, .bl true, .int 7, .str "00", .lst [], .tup [.int 3], .tup [.int 1, .int 2, .int 3], .lst [.int 0, .non], .tup [.int 0, .bl true], .dic [], .lst [.lst [.int 0, .int 0]]]
def r_law_odd : RDs := fun xs S Q => ∃ (k : Nat) (o : SO) (T : Store), xs = [.ref 0] ∧ S = some o :: T ∧ Urn k o ∧ k < 900000 ∧ ∀ (o' : SO) (d : D), Urn (k + 1) o' → d ∈ odds → Q d (some o' :: T)
def r_law_ordered : RDs := fun xs S Q => ∃ (m : Nat) (ps : List (Int × Int)), xs = [.ref m] ∧ S[m]? = some (some (.lst (ps.map sqD))) ∧ ps.length ≤ 50 ∧ ∀ qs : List (Int × Int), qs.Perm ps → Srt qs → Q (.ref S.length) (S ++ [some (.lst (qs.map sqD))])
def r_squares_of (cs : Cs) : RDx := fun xs S Q E => ∃ d, xs = [d] ∧ r_need_squares cs [d, .str "values"] S Q E
def near4 (p : Int × Int) : List (Int × Int) := [(p.1 + 1, p.2), (p.1 - 1, p.2), (p.1, p.2 + 1), (p.1, p.2 - 1)]
def r_around (cs : Cs) : RDx := fun xs S Q E => ∃ d, xs = [d] ∧ Flat d ∧ (isSq d = false → E (cs.BadSquare, [("part", .str "square")]) S) ∧ (isSq d = true → Q (.tup ((near4 (sqOf d)).map sqD)) S)
def r_law : RDs := fun xs S Q => ∃ ns : List Int, xs = [.ro (ns.map .int)] ∧ S = [] ∧ ns.length ≤ 63 ∧ ∀ S', Q (.bl true) S'

/-- squares_of: 0=values -/
def b_squares_of (K : PySem.W.Frag) (cs : Cs) : XD → TSd := fun ED => (sRet (eCallX (r_need_squares cs) ED (aCons (eVar 0) (aCons (eC (.str "values")) aNil))))

/-- around: 0=square -/
def b_around (K : PySem.W.Frag) (cs : Cs) : XD → TSd := fun ED => (sRet (eCall r_next_to (aCons (eCallX (r_need_square cs) ED (aCons (eVar 0) (aCons (eC (.str "square")) aNil))) aNil)))

/-- _law_tub: 0=script 1=cell -/
def b_law_tub : TSd := (sRet (eLstM (aCons (eLc (sSq (eCut (eVar 0) oNone (oSome (eC (.int 63))))) (.nm 1) bYes (eB rInt1 (aCons (eVar 1) aNil)) [1]) (aCons (eC (.int 0)) (aCons (eC (.int 0)) aNil)))))

/-- _law_dip: 0=jar 1=many 2=at 3=cell 4=mixed 5=rest -/
def b_law_dip : TSd := (sSeq (sIf (bOf (eOp rGt (eOp rIx2 (eVar 0) (eC (.int 2))) (eC (.int 0))))
    (sSeq (sAsg (.nm 5) (eB rInt1 (aCons (eOp rIx2 (eVar 0) (eC (.int 2))) aNil)))
    (sSeq (sPut (eVar 0) (eC (.int 2)) (eOp rDiv (eVar 5) (eVar 1)))
    (sRet (eOp rMod (eB rInt1 (aCons (eVar 5) aNil)) (eVar 1)))))
    sNil)
    (sSeq (sAsg (.nm 2) (eOp rIx2 (eVar 0) (eC (.int 1))))
    (sSeq (sPut (eVar 0) (eC (.int 1)) (eOp rAdd (eVar 2) (eC (.int 1))))
    (sSeq (sAsg (.nm 3) (eOp rAdd (eOp rMulI (eC (.int 61559)) (eVar 2)) (eC (.int 5231))))
    (sSeq (sIf (bOf (eOp rNe3 (eOp rIx2 (eVar 0) (eC (.int 0))) (eLst aNil)))
    (sAsg (.nm 3) (eOp rIx2 (eOp rIx2 (eVar 0) (eC (.int 0))) (eOp rMod (eB rInt1 (aCons (eVar 2) aNil)) (eB rLen (aCons (eOp rIx2 (eVar 0) (eC (.int 0))) aNil)))))
    sNil)
    (sSeq (sIf (bAnd (bOf (eOp rLt (eVar 2) (eB rLen (aCons (eOp rIx2 (eVar 0) (eC (.int 0))) aNil)))) (bOf (eOp rGe (eB rAbs (aCons (eVar 3) aNil)) (eOp rPow (eC (.int 10)) (eC (.int 18))))))
    (sSeq (sAsg (.nm 5) (eOp rAdd (eOp rMulI (eC (.int 2)) (eOp rSub (eB rAbs (aCons (eVar 3) aNil)) (eOp rPow (eC (.int 10)) (eC (.int 18))))) (eB rInt1 (aCons (eOp rLt (eVar 3) (eC (.int 0))) aNil))))
    (sSeq (sPut (eVar 0) (eC (.int 2)) (eOp rDiv (eB rInt1 (aCons (eVar 5) aNil)) (eVar 1)))
    (sRet (eOp rMod (eB rInt1 (aCons (eVar 5) aNil)) (eVar 1)))))
    sNil)
    (sSeq (sAsg (.nm 4) (eOp rMod (eB rInt1 (aCons (eOp rPow (eOp rAdd (eOp rAdd (eOp rMod (eB rInt1 (aCons (eVar 3) aNil)) (eC (.int 2147483563))) (eOp rMulI (eC (.int 36341)) (eVar 2))) (eC (.int 5231))) (eC (.int 5))) aNil)) (eC (.int 2147483587))))
    (sSeq (sAsg (.nm 4) (eOp rMod (eB rInt1 (aCons (eOp rPow (eOp rAdd (eOp rAdd (eOp rMulI (eVar 4) (eOp rAdd (eOp rMulI (eC (.int 2)) (eVar 2)) (eC (.int 4751)))) (eOp rMulI (eOp rMulI (eC (.int 61559)) (eVar 2)) (eVar 2))) (eC (.int 36341))) (eC (.int 3))) aNil)) (eC (.int 2147483629))))
    (sRet (eOp rMod (eB rInt1 (aCons (eOp rDiv (eVar 4) (eC (.int 64))) aNil)) (eVar 1)))))))))))

/-- _law_square: 0=tub 1=size -/
def b_law_square : TSd := (sSeq (sAsg (.nm 1) (eOp rIx2 (eLst (aCons (eC (.int 2)) (aCons (eC (.int 9)) (aCons (eOp rPow (eC (.int 10)) (eC (.int 60))) aNil)))) (eCall r_law_dip (aCons (eVar 0) (aCons (eC (.int 3)) aNil)))))
    (sRet (eTup (aCons (eOp rSub (eCall r_law_dip (aCons (eVar 0) (aCons (eOp rAdd (eOp rMulI (eC (.int 2)) (eVar 1)) (eC (.int 1))) aNil))) (eVar 1)) (aCons (eOp rSub (eCall r_law_dip (aCons (eVar 0) (aCons (eOp rAdd (eOp rMulI (eC (.int 2)) (eVar 1)) (eC (.int 1))) aNil))) (eVar 1)) aNil)))))

/-- _law_odd: 0=tub -/
def b_law_odd : TSd := (sRet (eOp rIx2 (eLst (aCons (eC .non) (aCons (eC (.bl true)) (aCons (eC (.int 7)) (aCons (eC (.str "00")) (aCons (eLst aNil) (aCons (eTup (aCons (eC (.int 3)) aNil)) (aCons (eTup (aCons (eC (.int 1)) (aCons (eC (.int 2)) (aCons (eC (.int 3)) aNil)))) (aCons (eLst (aCons (eC (.int 0)) (aCons (eC .non) aNil))) (aCons (eTup (aCons (eC (.int 0)) (aCons (eC (.bl true)) aNil))) (aCons (eC (.dic [])) (aCons (eLst (aCons (eLst (aCons (eC (.int 0)) (aCons (eC (.int 0)) aNil))) aNil)) aNil)))))))))))) (eCall r_law_dip (aCons (eVar 0) (aCons (eC (.int 11)) aNil)))))

/-- _law_ordered: 0=some 1=found 2=square 3=at 4=other -/
def b_law_ordered : TSd := (sSeq (sAsg (.nm 1) (eLstM aNil))
    (sSeq (sFor (sSq (eVar 0)) (.nm 2)
    (sSeq (sAsg (.nm 3) (eB rLen (aCons (eLc (sSq (eVar 1)) (.nm 4) (bOr (bOf (eOp rLt (eOp rIx2 (eVar 4) (eC (.int 0))) (eOp rIx2 (eVar 2) (eC (.int 0))))) (bAnd (bOf (eOp rEq3 (eOp rIx2 (eVar 4) (eC (.int 0))) (eOp rIx2 (eVar 2) (eC (.int 0))))) (bOf (eOp rLt (eOp rIx2 (eVar 4) (eC (.int 1))) (eOp rIx2 (eVar 2) (eC (.int 1))))))) (eVar 4) [4]) aNil)))
    (sDrop (eM "list" rIns (eVar 1) (aCons (eVar 3) (aCons (eVar 2) aNil))))))
    (sRet (eVar 1))))

/-- _law_heard: 0=ask 1=caught 2=error -/
def b_law_heard (K : PySem.W.Frag) (cs : Cs) : AskD → Fnk → TSd := fun tl κ => (sSeq (sAsg (.nm 1) (eC .non))
    (sSeq (sTry K 3 NoX (fun ED => (sDrop (eAsk tl ED κ))) [⟨.ref cs.FlightError, some 2, (sAsg (.nm 1) (eVar 2))⟩])
    (sSeq (sIf (bOf (eIsX K cs.BadSquare (eVar 1)))
    (sRet (eTup (aCons (eC (.str "square")) (aCons (eFld K "part" (eVar 1)) aNil))))
    sNil)
    (sSeq (sIf (bOf (eIsX K cs.BadSquares (eVar 1)))
    (sRet (eTup (aCons (eC (.str "squares")) (aCons (eFld K "part" (eVar 1)) aNil))))
    sNil)
    (sRet (eIf (bOf (eOp rIs (eVar 1) (eC .non))) (eC .non) (eTup (aCons (eC (.str "other")) (aCons (eC .non) aNil)))))))))

/-- law: 0=script 1=tub 2=turn 3=some 4=spot 5=passed 6=kept 7=due 8=told 9=at 10=bent 11=value 12=x 13=y 14=square 15=each -/
def b_law (K : PySem.W.Frag) (cs : Cs) : TSd := (sSeq (sAsg (.nm 1) (eCall r_law_tub (aCons (eVar 0) aNil)))
    (sSeq (sFor (sRange1 (aCons (eC (.int 3)) aNil)) (.nm 2)
    (sSeq (sAsg (.nm 3) (eLstM aNil))
    (sSeq (sFor (sRange1 (aCons (eCall r_law_dip (aCons (eVar 1) (aCons (eC (.int 8)) aNil))) aNil)) (.nm 4)
    (sSeq (sAsg (.nm 14) (eCall r_law_square (aCons (eVar 1) aNil)))
    (sIf (bOf (eOp rNiD2 (eVar 14) (eVar 3)))
    (sDrop (eM "list" rApp (eVar 3) (aCons (eVar 14) aNil)))
    sNil)))
    (sSeq (sAsg (.nm 5) (eLc (sSq (eVar 3)) (.nm 14) bYes (eIf (bOf (eOp rEq3 (eCall r_law_dip (aCons (eVar 1) (aCons (eC (.int 2)) aNil))) (eC (.int 0)))) (eB rList (aCons (eVar 14) aNil)) (eVar 14)) [14]))
    (sSeq (sAsg (.nm 5) (eIf (bOf (eOp rEq3 (eCall r_law_dip (aCons (eVar 1) (aCons (eC (.int 2)) aNil))) (eC (.int 0)))) (eB rTuple (aCons (eVar 5) aNil)) (eVar 5)))
    (sSeq (sAsg (.nm 6) (eB rRepr (aCons (eVar 5) aNil)))
    (sSeq (sAsg (.nm 7) (eB rTuple (aCons (eCall r_law_ordered (aCons (eVar 3) aNil)) aNil)))
    (sSeq (sAsg (.nm 8) (eCallX (r_squares_of cs) NoX (aCons (eVar 5) aNil)))
    (sSeq (sIf (bOr (bOf (eOp rNe3 (eB rRepr (aCons (eVar 8) aNil)) (eB rRepr (aCons (eVar 7) aNil)))) (bOr (bOf (eOp rNe3 (eB rRepr (aCons (eCallKwX (r_squares_of cs) NoX 0 1 [0] aNil (aCons (eUn rRev (eVar 5)) aNil)) aNil)) (eB rRepr (aCons (eVar 7) aNil)))) (bOf (eOp rNe3 (eB rRepr (aCons (eVar 5) aNil)) (eVar 6)))))
    (sRet (eC (.bl false)))
    sNil)
    (sSeq (sAsg (.nm 9) (eCall r_law_dip (aCons (eVar 1) (aCons (eOp rAdd (eB rLen (aCons (eVar 3) aNil)) (eC (.int 1))) aNil))))
    (sSeq (sAsg (.nm 10) (eLstM (aCons (eOp rAdd (eOp rAdd (eB rList (aCons (eCut (eVar 5) oNone (oSome (eVar 9))) aNil)) (eLst (aCons (eCall r_law_odd (aCons (eVar 1) aNil)) aNil))) (eB rList (aCons (eCut (eVar 5) (oSome (eVar 9)) oNone) aNil))) aNil)))
    (sSeq (sIf (bOf (eOp rNe3 (eVar 3) (eLst aNil)))
    (sDrop (eM "list" rApp (eVar 10) (aCons (eOp rAdd (eOp rAdd (eB rList (aCons (eCut (eVar 5) oNone (oSome (eVar 9))) aNil)) (eLst (aCons (eB rList (aCons (eOp rIx2 (eVar 3) (eCall r_law_dip (aCons (eVar 1) (aCons (eB rLen (aCons (eVar 3) aNil)) aNil)))) aNil)) aNil))) (eB rList (aCons (eCut (eVar 5) (oSome (eVar 9)) oNone) aNil))) aNil)))
    sNil)
    (sSeq (sFor (sSq (eOp rAdd (eVar 10) (eLst (aCons (eC .non) (aCons (eC (.int 5)) (aCons (eC (.str "")) (aCons (eC (.dic [])) (aCons (eDit1 (eTup (aCons (eC (.int 0)) (aCons (eC (.int 0)) aNil))) (eC (.bl true))) (aCons (eC (.bl true)) aNil))))))))) (.nm 11)
    (sIf (bOf (eOp rNe3 (eHear 3 (b_law_heard K cs) (fun ED => (eCallX (r_squares_of cs) ED (aCons (eVar 11) aNil)))) (eTup (aCons (eC (.str "squares")) (aCons (eC (.str "values")) aNil)))))
    (sRet (eC (.bl false)))
    sNil))
    (sSeq (sAsg (.tp [(.nm 12), (.nm 13)]) (eCall r_law_square (aCons (eVar 1) aNil)))
    (sSeq (sAsg (.nm 14) (eIf (bOf (eOp rEq3 (eCall r_law_dip (aCons (eVar 1) (aCons (eC (.int 2)) aNil))) (eC (.int 0)))) (eLst (aCons (eVar 12) (aCons (eVar 13) aNil))) (eTup (aCons (eVar 12) (aCons (eVar 13) aNil)))))
    (sSeq (sAsg (.nm 7) (eTup (aCons (eTup (aCons (eOp rAdd (eVar 12) (eC (.int 1))) (aCons (eVar 13) aNil))) (aCons (eTup (aCons (eOp rSub (eVar 12) (eC (.int 1))) (aCons (eVar 13) aNil))) (aCons (eTup (aCons (eVar 12) (aCons (eOp rAdd (eVar 13) (eC (.int 1))) aNil))) (aCons (eTup (aCons (eVar 12) (aCons (eOp rSub (eVar 13) (eC (.int 1))) aNil))) aNil))))))
    (sSeq (sIf (bOr (bOf (eOp rNe3 (eB rRepr (aCons (eCallX (r_around cs) NoX (aCons (eVar 14) aNil)) aNil)) (eB rRepr (aCons (eVar 7) aNil)))) (bOf (eOp rNe3 (eB rRepr (aCons (eCallKwX (r_around cs) NoX 0 1 [0] aNil (aCons (eVar 14) aNil)) aNil)) (eB rRepr (aCons (eVar 7) aNil)))))
    (sRet (eC (.bl false)))
    sNil)
    (sIf (bOr (bOf (eOp rNe3 (eLc (sSq (eVar 7)) (.nm 15) (bOf (eOp rNiD2 (eTup (aCons (eVar 12) (aCons (eVar 13) aNil))) (eCallX (r_around cs) NoX (aCons (eVar 15) aNil)))) (eVar 15) [15]) (eLst aNil))) (bOf (eOp rNe3 (eHear 3 (b_law_heard K cs) (fun ED => (eCallX (r_around cs) ED (aCons (eCall r_law_odd (aCons (eVar 1) aNil)) aNil)))) (eTup (aCons (eC (.str "square")) (aCons (eC (.str "square")) aNil))))))
    (sRet (eC (.bl false)))
    sNil))))))))))))))))))
    (sRet (eAnd (eOp rEq3 (eCallX (r_squares_of cs) NoX (aCons (eLst aNil) aNil)) (eTup aNil)) (eOp rEq3 (eCallX (r_squares_of cs) NoX (aCons (eTup aNil) aNil)) (eTup aNil))))))



theorem len_law_tub (xs : List D) (S : Store) (Q : QD) (h : r_law_tub xs S Q) : xs.length = 1 := rUrn_len xs S Q h
theorem len_law_dip (xs : List D) (S : Store) (Q : QD) (h : r_law_dip xs S Q) : xs.length = 2 := rDraw_len xs S Q h
theorem len_law_square (xs : List D) (S : Store) (Q : QD) (h : r_law_square xs S Q) : xs.length = 1 := by obtain ⟨_, _, _, rfl, _⟩ := h; rfl
theorem len_law_odd (xs : List D) (S : Store) (Q : QD) (h : r_law_odd xs S Q) : xs.length = 1 := by obtain ⟨_, _, _, rfl, _⟩ := h; rfl
theorem len_law_ordered (xs : List D) (S : Store) (Q : QD) (h : r_law_ordered xs S Q) : xs.length = 1 := by obtain ⟨_, _, rfl, _⟩ := h; rfl
theorem len_squares_of (cs : Cs) (xs : List D) (S : Store) (Q : QD) (E : XD) (h : r_squares_of cs xs S Q E) : xs.length = 1 := by obtain ⟨_, rfl, _⟩ := h; rfl
theorem len_around (cs : Cs) (xs : List D) (S : Store) (Q : QD) (E : XD) (h : r_around cs xs S Q E) : xs.length = 1 := by obtain ⟨_, rfl, _⟩ := h; rfl
theorem len_law (xs : List D) (S : Store) (Q : QD) (h : r_law xs S Q) : xs.length = 1 := by obtain ⟨_, rfl, _⟩ := h; rfl

theorem run_law_tub (xs : List D) (S : Store) (Q : QD) (h : r_law_tub xs S Q) : runD 2 b_law_tub xs S Q := urn_run xs S Q h
theorem run_law_dip (xs : List D) (S : Store) (Q : QD) (h : r_law_dip xs S Q) : runD 6 b_law_dip xs S Q := draw_run (by decide) xs S Q h
theorem run_squares_of {K : PySem.W.Frag} {cs : Cs} (kf : KF K cs) (xs : List D) (S : Store) (Q : QD) (E : XD) (h : r_squares_of cs xs S Q E) : runX 1 (b_squares_of K cs) xs S Q E := by
  obtain ⟨d, rfl, h⟩ := h
  refine i_runX ?_
  unfold b_squares_of
  repeat (first | (with_reducible first | refine i_sSeq ?_ | refine i_sIf ?_ | refine i_sNil ?_ | refine i_sRet ?_ | refine i_sAsg ?_ | refine i_sDrop ?_ | refine i_sPut ?_ | refine i_sPar ?_ | refine i_eC ?_ | refine i_eOp ?_ | refine i_eChain ?_ | refine i_eB ?_ | refine i_eUn ?_ | refine i_eTup ?_ | refine i_eLst ?_ | refine i_eLstM ?_ | refine i_eAnd ?_ | refine i_eOr ?_ | refine i_eNot ?_ | refine i_eIf ?_ | refine i_bOf ?_ | refine i_bAnd ?_ | refine i_bOr ?_ | refine i_bNot ?_ | refine i_bYes ?_ | refine i_aNil ?_ | refine i_aCons ?_ | refine i_eCall ?_ | refine i_eCallKw ?_ | refine i_eCut ?_ | refine i_oNone ?_ | refine i_oSome ?_ | refine i_eM ?_ | refine i_sSq ?_ | refine i_sRange1 ?_ | refine i_sRange2 ?_ | refine i_sEnum ?_ | refine i_eIsi ?_ | refine i_eIsi2 ?_ | refine i_eLc ?_ | refine i_eLcM ?_ | refine i_sFor ?_ | refine i_eDisp1 ?_ | refine i_bl ?_ | refine i_int ?_ | refine i_nm ?_ | refine i_one ?_ | refine i_two ?_ | refine i_rng ?_ | refine i_len0 ?_ | refine i_int1 ?_ | refine i_intb ?_ | refine i_abs ?_ | refine i_add ?_ | refine i_sub ?_ | refine i_lt ?_ | refine i_le ?_ | refine i_gt ?_ | refine i_ge ?_ | refine i_eqi ?_ | refine i_is ?_ | refine i_isn ?_ | refine i_nes ?_ | refine i_rbl ?_ | refine i_eCallX ?_ | refine i_eCallKwX ?_ | refine i_sRaiseF ?_ | refine i_eIsX ?_ | refine i_eFld ?_ | refine i_eDit1 ?_ | refine i_sTry ?_ | refine i_runX ?_) | ((with_reducible refine i_eVarX ?_); refine ⟨_, rfl, ?_⟩) | ((with_reducible refine i_len1 ?_ ?_); · exact Nat.le_of_ble_eq_true rfl))
  exact h
theorem run_around {K : PySem.W.Frag} {cs : Cs} (kf : KF K cs) (xs : List D) (S : Store) (Q : QD) (E : XD) (h : r_around cs xs S Q E) : runX 1 (b_around K cs) xs S Q E := by
  obtain ⟨d, rfl, hf, qn, qy⟩ := h
  refine i_runX ?_
  unfold b_around
  repeat (first | (with_reducible first | refine i_sSeq ?_ | refine i_sIf ?_ | refine i_sNil ?_ | refine i_sRet ?_ | refine i_sAsg ?_ | refine i_sDrop ?_ | refine i_sPut ?_ | refine i_sPar ?_ | refine i_eC ?_ | refine i_eOp ?_ | refine i_eChain ?_ | refine i_eB ?_ | refine i_eUn ?_ | refine i_eTup ?_ | refine i_eLst ?_ | refine i_eLstM ?_ | refine i_eAnd ?_ | refine i_eOr ?_ | refine i_eNot ?_ | refine i_eIf ?_ | refine i_bOf ?_ | refine i_bAnd ?_ | refine i_bOr ?_ | refine i_bNot ?_ | refine i_bYes ?_ | refine i_aNil ?_ | refine i_aCons ?_ | refine i_eCall ?_ | refine i_eCallKw ?_ | refine i_eCut ?_ | refine i_oNone ?_ | refine i_oSome ?_ | refine i_eM ?_ | refine i_sSq ?_ | refine i_sRange1 ?_ | refine i_sRange2 ?_ | refine i_sEnum ?_ | refine i_eIsi ?_ | refine i_eIsi2 ?_ | refine i_eLc ?_ | refine i_eLcM ?_ | refine i_sFor ?_ | refine i_eDisp1 ?_ | refine i_bl ?_ | refine i_int ?_ | refine i_nm ?_ | refine i_one ?_ | refine i_two ?_ | refine i_rng ?_ | refine i_len0 ?_ | refine i_int1 ?_ | refine i_intb ?_ | refine i_abs ?_ | refine i_add ?_ | refine i_sub ?_ | refine i_lt ?_ | refine i_le ?_ | refine i_gt ?_ | refine i_ge ?_ | refine i_eqi ?_ | refine i_is ?_ | refine i_isn ?_ | refine i_nes ?_ | refine i_rbl ?_ | refine i_eCallX ?_ | refine i_eCallKwX ?_ | refine i_sRaiseF ?_ | refine i_eIsX ?_ | refine i_eFld ?_ | refine i_eDit1 ?_ | refine i_sTry ?_ | refine i_runX ?_) | ((with_reducible refine i_eVarX ?_); refine ⟨_, rfl, ?_⟩) | ((with_reducible refine i_len1 ?_ ?_); · exact Nat.le_of_ble_eq_true rfl))
  refine ⟨d, "square", rfl, by decide, hf, qn, fun hs => ?_⟩
  repeat (first | (with_reducible first | refine i_sSeq ?_ | refine i_sIf ?_ | refine i_sNil ?_ | refine i_sRet ?_ | refine i_sAsg ?_ | refine i_sDrop ?_ | refine i_sPut ?_ | refine i_sPar ?_ | refine i_eC ?_ | refine i_eOp ?_ | refine i_eChain ?_ | refine i_eB ?_ | refine i_eUn ?_ | refine i_eTup ?_ | refine i_eLst ?_ | refine i_eLstM ?_ | refine i_eAnd ?_ | refine i_eOr ?_ | refine i_eNot ?_ | refine i_eIf ?_ | refine i_bOf ?_ | refine i_bAnd ?_ | refine i_bOr ?_ | refine i_bNot ?_ | refine i_bYes ?_ | refine i_aNil ?_ | refine i_aCons ?_ | refine i_eCall ?_ | refine i_eCallKw ?_ | refine i_eCut ?_ | refine i_oNone ?_ | refine i_oSome ?_ | refine i_eM ?_ | refine i_sSq ?_ | refine i_sRange1 ?_ | refine i_sRange2 ?_ | refine i_sEnum ?_ | refine i_eIsi ?_ | refine i_eIsi2 ?_ | refine i_eLc ?_ | refine i_eLcM ?_ | refine i_sFor ?_ | refine i_eDisp1 ?_ | refine i_bl ?_ | refine i_int ?_ | refine i_nm ?_ | refine i_one ?_ | refine i_two ?_ | refine i_rng ?_ | refine i_len0 ?_ | refine i_int1 ?_ | refine i_intb ?_ | refine i_abs ?_ | refine i_add ?_ | refine i_sub ?_ | refine i_lt ?_ | refine i_le ?_ | refine i_gt ?_ | refine i_ge ?_ | refine i_eqi ?_ | refine i_is ?_ | refine i_isn ?_ | refine i_nes ?_ | refine i_rbl ?_ | refine i_eCallX ?_ | refine i_eCallKwX ?_ | refine i_sRaiseF ?_ | refine i_eIsX ?_ | refine i_eFld ?_ | refine i_eDit1 ?_ | refine i_sTry ?_ | refine i_runX ?_) | ((with_reducible refine i_eVarX ?_); refine ⟨_, rfl, ?_⟩) | ((with_reducible refine i_len1 ?_ ?_); · exact Nat.le_of_ble_eq_true rfl))
  exact ⟨sqOf d, rfl, qy hs⟩
theorem run_law_square (xs : List D) (S : Store) (Q : QD) (h : r_law_square xs S Q) : runD 2 b_law_square xs S Q := by
  obtain ⟨k, o, T, rfl, rfl, u, hk, q⟩ := h
  refine i_runD ?_
  unfold b_law_square
  refine cut1 1 (fun d S' => ∃ o1 s, Urn (k + 1) o1 ∧ 0 < s ∧ s ≤ 10 ^ 60 ∧ d = .int s ∧ S' = some o1 :: T) (fun N' hrt hnx => ?_) (fun d S' hP => ?_)
  · repeat (first | (with_reducible first | refine i_sIf ?_ | refine i_sNil ?_ | refine i_sRet ?_ | refine i_sAsg ?_ | refine i_sDrop ?_ | refine i_sPut ?_ | refine i_sPar ?_ | refine i_eC ?_ | refine i_eOp ?_ | refine i_eChain ?_ | refine i_eB ?_ | refine i_eUn ?_ | refine i_eTup ?_ | refine i_eLst ?_ | refine i_eLstM ?_ | refine i_eAnd ?_ | refine i_eOr ?_ | refine i_eNot ?_ | refine i_eIf ?_ | refine i_bOf ?_ | refine i_bAnd ?_ | refine i_bOr ?_ | refine i_bNot ?_ | refine i_bYes ?_ | refine i_aNil ?_ | refine i_aCons ?_ | refine i_eCall ?_ | refine i_eCallKw ?_ | refine i_eCut ?_ | refine i_oNone ?_ | refine i_oSome ?_ | refine i_eM ?_ | refine i_sSq ?_ | refine i_sRange1 ?_ | refine i_sRange2 ?_ | refine i_sEnum ?_ | refine i_eIsi ?_ | refine i_eIsi2 ?_ | refine i_eLc ?_ | refine i_eLcM ?_ | refine i_sFor ?_ | refine i_eDisp1 ?_ | refine i_bl ?_ | refine i_int ?_ | refine i_nm ?_ | refine i_one ?_ | refine i_two ?_ | refine i_rng ?_ | refine i_len0 ?_ | refine i_int1 ?_ | refine i_intb ?_ | refine i_abs ?_ | refine i_add ?_ | refine i_sub ?_ | refine i_lt ?_ | refine i_le ?_ | refine i_gt ?_ | refine i_ge ?_ | refine i_eqi ?_ | refine i_is ?_ | refine i_isn ?_ | refine i_nes ?_ | refine i_rbl ?_ | refine i_eCallX ?_ | refine i_eCallKwX ?_ | refine i_sRaiseF ?_ | refine i_eIsX ?_ | refine i_eFld ?_ | refine i_eDit1 ?_ | refine i_sTry ?_ | refine i_runX ?_) | ((with_reducible refine i_eVarX ?_); refine ⟨_, rfl, ?_⟩) | ((with_reducible refine i_len1 ?_ ?_); · exact Nat.le_of_ble_eq_true rfl))
    refine int2 ⟨by decide, by decide, by decide⟩ ?_
    repeat (first | (with_reducible first | refine i_sIf ?_ | refine i_sNil ?_ | refine i_sRet ?_ | refine i_sAsg ?_ | refine i_sDrop ?_ | refine i_sPut ?_ | refine i_sPar ?_ | refine i_eC ?_ | refine i_eOp ?_ | refine i_eChain ?_ | refine i_eB ?_ | refine i_eUn ?_ | refine i_eTup ?_ | refine i_eLst ?_ | refine i_eLstM ?_ | refine i_eAnd ?_ | refine i_eOr ?_ | refine i_eNot ?_ | refine i_eIf ?_ | refine i_bOf ?_ | refine i_bAnd ?_ | refine i_bOr ?_ | refine i_bNot ?_ | refine i_bYes ?_ | refine i_aNil ?_ | refine i_aCons ?_ | refine i_eCall ?_ | refine i_eCallKw ?_ | refine i_eCut ?_ | refine i_oNone ?_ | refine i_oSome ?_ | refine i_eM ?_ | refine i_sSq ?_ | refine i_sRange1 ?_ | refine i_sRange2 ?_ | refine i_sEnum ?_ | refine i_eIsi ?_ | refine i_eIsi2 ?_ | refine i_eLc ?_ | refine i_eLcM ?_ | refine i_sFor ?_ | refine i_eDisp1 ?_ | refine i_bl ?_ | refine i_int ?_ | refine i_nm ?_ | refine i_one ?_ | refine i_two ?_ | refine i_rng ?_ | refine i_len0 ?_ | refine i_int1 ?_ | refine i_intb ?_ | refine i_abs ?_ | refine i_add ?_ | refine i_sub ?_ | refine i_lt ?_ | refine i_le ?_ | refine i_gt ?_ | refine i_ge ?_ | refine i_eqi ?_ | refine i_is ?_ | refine i_isn ?_ | refine i_nes ?_ | refine i_rbl ?_ | refine i_eCallX ?_ | refine i_eCallKwX ?_ | refine i_sRaiseF ?_ | refine i_eIsX ?_ | refine i_eFld ?_ | refine i_eDit1 ?_ | refine i_sTry ?_ | refine i_runX ?_) | ((with_reducible refine i_eVarX ?_); refine ⟨_, rfl, ?_⟩) | ((with_reducible refine i_len1 ?_ ?_); · exact Nat.le_of_ble_eq_true rfl))
    refine draw_of u (by omega) (by decide) (by decide) fun o1 n u1 n0 n1 => ?_
    have hn : n = 0 ∨ n = 1 ∨ n = 2 := by omega
    rcases hn with rfl | rfl | rfl
    · refine ix_of (i := 0) rfl rfl ?_
      repeat (first | (with_reducible first | refine i_sIf ?_ | refine i_sNil ?_ | refine i_sRet ?_ | refine i_sAsg ?_ | refine i_sDrop ?_ | refine i_sPut ?_ | refine i_sPar ?_ | refine i_eC ?_ | refine i_eOp ?_ | refine i_eChain ?_ | refine i_eB ?_ | refine i_eUn ?_ | refine i_eTup ?_ | refine i_eLst ?_ | refine i_eLstM ?_ | refine i_eAnd ?_ | refine i_eOr ?_ | refine i_eNot ?_ | refine i_eIf ?_ | refine i_bOf ?_ | refine i_bAnd ?_ | refine i_bOr ?_ | refine i_bNot ?_ | refine i_bYes ?_ | refine i_aNil ?_ | refine i_aCons ?_ | refine i_eCall ?_ | refine i_eCallKw ?_ | refine i_eCut ?_ | refine i_oNone ?_ | refine i_oSome ?_ | refine i_eM ?_ | refine i_sSq ?_ | refine i_sRange1 ?_ | refine i_sRange2 ?_ | refine i_sEnum ?_ | refine i_eIsi ?_ | refine i_eIsi2 ?_ | refine i_eLc ?_ | refine i_eLcM ?_ | refine i_sFor ?_ | refine i_eDisp1 ?_ | refine i_bl ?_ | refine i_int ?_ | refine i_nm ?_ | refine i_one ?_ | refine i_two ?_ | refine i_rng ?_ | refine i_len0 ?_ | refine i_int1 ?_ | refine i_intb ?_ | refine i_abs ?_ | refine i_add ?_ | refine i_sub ?_ | refine i_lt ?_ | refine i_le ?_ | refine i_gt ?_ | refine i_ge ?_ | refine i_eqi ?_ | refine i_is ?_ | refine i_isn ?_ | refine i_nes ?_ | refine i_rbl ?_ | refine i_eCallX ?_ | refine i_eCallKwX ?_ | refine i_sRaiseF ?_ | refine i_eIsX ?_ | refine i_eFld ?_ | refine i_eDit1 ?_ | refine i_sTry ?_ | refine i_runX ?_) | ((with_reducible refine i_eVarX ?_); refine ⟨_, rfl, ?_⟩) | ((with_reducible refine i_len1 ?_ ?_); · exact Nat.le_of_ble_eq_true rfl))
      exact hnx _ _ ⟨o1, _, u1, by decide, by decide, rfl, rfl⟩
    · refine ix_of (i := 1) rfl rfl ?_
      repeat (first | (with_reducible first | refine i_sIf ?_ | refine i_sNil ?_ | refine i_sRet ?_ | refine i_sAsg ?_ | refine i_sDrop ?_ | refine i_sPut ?_ | refine i_sPar ?_ | refine i_eC ?_ | refine i_eOp ?_ | refine i_eChain ?_ | refine i_eB ?_ | refine i_eUn ?_ | refine i_eTup ?_ | refine i_eLst ?_ | refine i_eLstM ?_ | refine i_eAnd ?_ | refine i_eOr ?_ | refine i_eNot ?_ | refine i_eIf ?_ | refine i_bOf ?_ | refine i_bAnd ?_ | refine i_bOr ?_ | refine i_bNot ?_ | refine i_bYes ?_ | refine i_aNil ?_ | refine i_aCons ?_ | refine i_eCall ?_ | refine i_eCallKw ?_ | refine i_eCut ?_ | refine i_oNone ?_ | refine i_oSome ?_ | refine i_eM ?_ | refine i_sSq ?_ | refine i_sRange1 ?_ | refine i_sRange2 ?_ | refine i_sEnum ?_ | refine i_eIsi ?_ | refine i_eIsi2 ?_ | refine i_eLc ?_ | refine i_eLcM ?_ | refine i_sFor ?_ | refine i_eDisp1 ?_ | refine i_bl ?_ | refine i_int ?_ | refine i_nm ?_ | refine i_one ?_ | refine i_two ?_ | refine i_rng ?_ | refine i_len0 ?_ | refine i_int1 ?_ | refine i_intb ?_ | refine i_abs ?_ | refine i_add ?_ | refine i_sub ?_ | refine i_lt ?_ | refine i_le ?_ | refine i_gt ?_ | refine i_ge ?_ | refine i_eqi ?_ | refine i_is ?_ | refine i_isn ?_ | refine i_nes ?_ | refine i_rbl ?_ | refine i_eCallX ?_ | refine i_eCallKwX ?_ | refine i_sRaiseF ?_ | refine i_eIsX ?_ | refine i_eFld ?_ | refine i_eDit1 ?_ | refine i_sTry ?_ | refine i_runX ?_) | ((with_reducible refine i_eVarX ?_); refine ⟨_, rfl, ?_⟩) | ((with_reducible refine i_len1 ?_ ?_); · exact Nat.le_of_ble_eq_true rfl))
      exact hnx _ _ ⟨o1, _, u1, by decide, by decide, rfl, rfl⟩
    · refine ix_of (i := 2) rfl rfl ?_
      repeat (first | (with_reducible first | refine i_sIf ?_ | refine i_sNil ?_ | refine i_sRet ?_ | refine i_sAsg ?_ | refine i_sDrop ?_ | refine i_sPut ?_ | refine i_sPar ?_ | refine i_eC ?_ | refine i_eOp ?_ | refine i_eChain ?_ | refine i_eB ?_ | refine i_eUn ?_ | refine i_eTup ?_ | refine i_eLst ?_ | refine i_eLstM ?_ | refine i_eAnd ?_ | refine i_eOr ?_ | refine i_eNot ?_ | refine i_eIf ?_ | refine i_bOf ?_ | refine i_bAnd ?_ | refine i_bOr ?_ | refine i_bNot ?_ | refine i_bYes ?_ | refine i_aNil ?_ | refine i_aCons ?_ | refine i_eCall ?_ | refine i_eCallKw ?_ | refine i_eCut ?_ | refine i_oNone ?_ | refine i_oSome ?_ | refine i_eM ?_ | refine i_sSq ?_ | refine i_sRange1 ?_ | refine i_sRange2 ?_ | refine i_sEnum ?_ | refine i_eIsi ?_ | refine i_eIsi2 ?_ | refine i_eLc ?_ | refine i_eLcM ?_ | refine i_sFor ?_ | refine i_eDisp1 ?_ | refine i_bl ?_ | refine i_int ?_ | refine i_nm ?_ | refine i_one ?_ | refine i_two ?_ | refine i_rng ?_ | refine i_len0 ?_ | refine i_int1 ?_ | refine i_intb ?_ | refine i_abs ?_ | refine i_add ?_ | refine i_sub ?_ | refine i_lt ?_ | refine i_le ?_ | refine i_gt ?_ | refine i_ge ?_ | refine i_eqi ?_ | refine i_is ?_ | refine i_isn ?_ | refine i_nes ?_ | refine i_rbl ?_ | refine i_eCallX ?_ | refine i_eCallKwX ?_ | refine i_sRaiseF ?_ | refine i_eIsX ?_ | refine i_eFld ?_ | refine i_eDit1 ?_ | refine i_sTry ?_ | refine i_runX ?_) | ((with_reducible refine i_eVarX ?_); refine ⟨_, rfl, ?_⟩) | ((with_reducible refine i_len1 ?_ ?_); · exact Nat.le_of_ble_eq_true rfl))
      exact hnx _ _ ⟨o1, _, u1, by decide, by decide, rfl, rfl⟩
  obtain ⟨o1, s, u1, s0, s1, rfl, rfl⟩ := hP
  repeat (first | (with_reducible first | refine i_sIf ?_ | refine i_sNil ?_ | refine i_sRet ?_ | refine i_sAsg ?_ | refine i_sDrop ?_ | refine i_sPut ?_ | refine i_sPar ?_ | refine i_eC ?_ | refine i_eOp ?_ | refine i_eChain ?_ | refine i_eB ?_ | refine i_eUn ?_ | refine i_eTup ?_ | refine i_eLst ?_ | refine i_eLstM ?_ | refine i_eAnd ?_ | refine i_eOr ?_ | refine i_eNot ?_ | refine i_eIf ?_ | refine i_bOf ?_ | refine i_bAnd ?_ | refine i_bOr ?_ | refine i_bNot ?_ | refine i_bYes ?_ | refine i_aNil ?_ | refine i_aCons ?_ | refine i_eCall ?_ | refine i_eCallKw ?_ | refine i_eCut ?_ | refine i_oNone ?_ | refine i_oSome ?_ | refine i_eM ?_ | refine i_sSq ?_ | refine i_sRange1 ?_ | refine i_sRange2 ?_ | refine i_sEnum ?_ | refine i_eIsi ?_ | refine i_eIsi2 ?_ | refine i_eLc ?_ | refine i_eLcM ?_ | refine i_sFor ?_ | refine i_eDisp1 ?_ | refine i_bl ?_ | refine i_int ?_ | refine i_nm ?_ | refine i_one ?_ | refine i_two ?_ | refine i_rng ?_ | refine i_len0 ?_ | refine i_int1 ?_ | refine i_intb ?_ | refine i_abs ?_ | refine i_add ?_ | refine i_sub ?_ | refine i_lt ?_ | refine i_le ?_ | refine i_gt ?_ | refine i_ge ?_ | refine i_eqi ?_ | refine i_is ?_ | refine i_isn ?_ | refine i_nes ?_ | refine i_rbl ?_ | refine i_eCallX ?_ | refine i_eCallKwX ?_ | refine i_sRaiseF ?_ | refine i_eIsX ?_ | refine i_eFld ?_ | refine i_eDit1 ?_ | refine i_sTry ?_ | refine i_runX ?_) | ((with_reducible refine i_eVarX ?_); refine ⟨_, rfl, ?_⟩) | ((with_reducible refine i_len1 ?_ ?_); · exact Nat.le_of_ble_eq_true rfl))
  refine int2 (.inl (.inl ⟨by decide, by decide⟩)) ?_
  repeat (first | (with_reducible first | refine i_sIf ?_ | refine i_sNil ?_ | refine i_sRet ?_ | refine i_sAsg ?_ | refine i_sDrop ?_ | refine i_sPut ?_ | refine i_sPar ?_ | refine i_eC ?_ | refine i_eOp ?_ | refine i_eChain ?_ | refine i_eB ?_ | refine i_eUn ?_ | refine i_eTup ?_ | refine i_eLst ?_ | refine i_eLstM ?_ | refine i_eAnd ?_ | refine i_eOr ?_ | refine i_eNot ?_ | refine i_eIf ?_ | refine i_bOf ?_ | refine i_bAnd ?_ | refine i_bOr ?_ | refine i_bNot ?_ | refine i_bYes ?_ | refine i_aNil ?_ | refine i_aCons ?_ | refine i_eCall ?_ | refine i_eCallKw ?_ | refine i_eCut ?_ | refine i_oNone ?_ | refine i_oSome ?_ | refine i_eM ?_ | refine i_sSq ?_ | refine i_sRange1 ?_ | refine i_sRange2 ?_ | refine i_sEnum ?_ | refine i_eIsi ?_ | refine i_eIsi2 ?_ | refine i_eLc ?_ | refine i_eLcM ?_ | refine i_sFor ?_ | refine i_eDisp1 ?_ | refine i_bl ?_ | refine i_int ?_ | refine i_nm ?_ | refine i_one ?_ | refine i_two ?_ | refine i_rng ?_ | refine i_len0 ?_ | refine i_int1 ?_ | refine i_intb ?_ | refine i_abs ?_ | refine i_add ?_ | refine i_sub ?_ | refine i_lt ?_ | refine i_le ?_ | refine i_gt ?_ | refine i_ge ?_ | refine i_eqi ?_ | refine i_is ?_ | refine i_isn ?_ | refine i_nes ?_ | refine i_rbl ?_ | refine i_eCallX ?_ | refine i_eCallKwX ?_ | refine i_sRaiseF ?_ | refine i_eIsX ?_ | refine i_eFld ?_ | refine i_eDit1 ?_ | refine i_sTry ?_ | refine i_runX ?_) | ((with_reducible refine i_eVarX ?_); refine ⟨_, rfl, ?_⟩) | ((with_reducible refine i_len1 ?_ ?_); · exact Nat.le_of_ble_eq_true rfl))
  refine draw_of u1 (by omega) (by omega) (by omega) fun o2 n u2 n0 n1 => ?_
  repeat (first | (with_reducible first | refine i_sIf ?_ | refine i_sNil ?_ | refine i_sRet ?_ | refine i_sAsg ?_ | refine i_sDrop ?_ | refine i_sPut ?_ | refine i_sPar ?_ | refine i_eC ?_ | refine i_eOp ?_ | refine i_eChain ?_ | refine i_eB ?_ | refine i_eUn ?_ | refine i_eTup ?_ | refine i_eLst ?_ | refine i_eLstM ?_ | refine i_eAnd ?_ | refine i_eOr ?_ | refine i_eNot ?_ | refine i_eIf ?_ | refine i_bOf ?_ | refine i_bAnd ?_ | refine i_bOr ?_ | refine i_bNot ?_ | refine i_bYes ?_ | refine i_aNil ?_ | refine i_aCons ?_ | refine i_eCall ?_ | refine i_eCallKw ?_ | refine i_eCut ?_ | refine i_oNone ?_ | refine i_oSome ?_ | refine i_eM ?_ | refine i_sSq ?_ | refine i_sRange1 ?_ | refine i_sRange2 ?_ | refine i_sEnum ?_ | refine i_eIsi ?_ | refine i_eIsi2 ?_ | refine i_eLc ?_ | refine i_eLcM ?_ | refine i_sFor ?_ | refine i_eDisp1 ?_ | refine i_bl ?_ | refine i_int ?_ | refine i_nm ?_ | refine i_one ?_ | refine i_two ?_ | refine i_rng ?_ | refine i_len0 ?_ | refine i_int1 ?_ | refine i_intb ?_ | refine i_abs ?_ | refine i_add ?_ | refine i_sub ?_ | refine i_lt ?_ | refine i_le ?_ | refine i_gt ?_ | refine i_ge ?_ | refine i_eqi ?_ | refine i_is ?_ | refine i_isn ?_ | refine i_nes ?_ | refine i_rbl ?_ | refine i_eCallX ?_ | refine i_eCallKwX ?_ | refine i_sRaiseF ?_ | refine i_eIsX ?_ | refine i_eFld ?_ | refine i_eDit1 ?_ | refine i_sTry ?_ | refine i_runX ?_) | ((with_reducible refine i_eVarX ?_); refine ⟨_, rfl, ?_⟩) | ((with_reducible refine i_len1 ?_ ?_); · exact Nat.le_of_ble_eq_true rfl))
  refine int2 (.inl (.inl ⟨by decide, by decide⟩)) ?_
  repeat (first | (with_reducible first | refine i_sIf ?_ | refine i_sNil ?_ | refine i_sRet ?_ | refine i_sAsg ?_ | refine i_sDrop ?_ | refine i_sPut ?_ | refine i_sPar ?_ | refine i_eC ?_ | refine i_eOp ?_ | refine i_eChain ?_ | refine i_eB ?_ | refine i_eUn ?_ | refine i_eTup ?_ | refine i_eLst ?_ | refine i_eLstM ?_ | refine i_eAnd ?_ | refine i_eOr ?_ | refine i_eNot ?_ | refine i_eIf ?_ | refine i_bOf ?_ | refine i_bAnd ?_ | refine i_bOr ?_ | refine i_bNot ?_ | refine i_bYes ?_ | refine i_aNil ?_ | refine i_aCons ?_ | refine i_eCall ?_ | refine i_eCallKw ?_ | refine i_eCut ?_ | refine i_oNone ?_ | refine i_oSome ?_ | refine i_eM ?_ | refine i_sSq ?_ | refine i_sRange1 ?_ | refine i_sRange2 ?_ | refine i_sEnum ?_ | refine i_eIsi ?_ | refine i_eIsi2 ?_ | refine i_eLc ?_ | refine i_eLcM ?_ | refine i_sFor ?_ | refine i_eDisp1 ?_ | refine i_bl ?_ | refine i_int ?_ | refine i_nm ?_ | refine i_one ?_ | refine i_two ?_ | refine i_rng ?_ | refine i_len0 ?_ | refine i_int1 ?_ | refine i_intb ?_ | refine i_abs ?_ | refine i_add ?_ | refine i_sub ?_ | refine i_lt ?_ | refine i_le ?_ | refine i_gt ?_ | refine i_ge ?_ | refine i_eqi ?_ | refine i_is ?_ | refine i_isn ?_ | refine i_nes ?_ | refine i_rbl ?_ | refine i_eCallX ?_ | refine i_eCallKwX ?_ | refine i_sRaiseF ?_ | refine i_eIsX ?_ | refine i_eFld ?_ | refine i_eDit1 ?_ | refine i_sTry ?_ | refine i_runX ?_) | ((with_reducible refine i_eVarX ?_); refine ⟨_, rfl, ?_⟩) | ((with_reducible refine i_len1 ?_ ?_); · exact Nat.le_of_ble_eq_true rfl))
  refine draw_of u2 (by omega) (by omega) (by omega) fun o3 m u3 m0 m1 => ?_
  repeat (first | (with_reducible first | refine i_sIf ?_ | refine i_sNil ?_ | refine i_sRet ?_ | refine i_sAsg ?_ | refine i_sDrop ?_ | refine i_sPut ?_ | refine i_sPar ?_ | refine i_eC ?_ | refine i_eOp ?_ | refine i_eChain ?_ | refine i_eB ?_ | refine i_eUn ?_ | refine i_eTup ?_ | refine i_eLst ?_ | refine i_eLstM ?_ | refine i_eAnd ?_ | refine i_eOr ?_ | refine i_eNot ?_ | refine i_eIf ?_ | refine i_bOf ?_ | refine i_bAnd ?_ | refine i_bOr ?_ | refine i_bNot ?_ | refine i_bYes ?_ | refine i_aNil ?_ | refine i_aCons ?_ | refine i_eCall ?_ | refine i_eCallKw ?_ | refine i_eCut ?_ | refine i_oNone ?_ | refine i_oSome ?_ | refine i_eM ?_ | refine i_sSq ?_ | refine i_sRange1 ?_ | refine i_sRange2 ?_ | refine i_sEnum ?_ | refine i_eIsi ?_ | refine i_eIsi2 ?_ | refine i_eLc ?_ | refine i_eLcM ?_ | refine i_sFor ?_ | refine i_eDisp1 ?_ | refine i_bl ?_ | refine i_int ?_ | refine i_nm ?_ | refine i_one ?_ | refine i_two ?_ | refine i_rng ?_ | refine i_len0 ?_ | refine i_int1 ?_ | refine i_intb ?_ | refine i_abs ?_ | refine i_add ?_ | refine i_sub ?_ | refine i_lt ?_ | refine i_le ?_ | refine i_gt ?_ | refine i_ge ?_ | refine i_eqi ?_ | refine i_is ?_ | refine i_isn ?_ | refine i_nes ?_ | refine i_rbl ?_ | refine i_eCallX ?_ | refine i_eCallKwX ?_ | refine i_sRaiseF ?_ | refine i_eIsX ?_ | refine i_eFld ?_ | refine i_eDit1 ?_ | refine i_sTry ?_ | refine i_runX ?_) | ((with_reducible refine i_eVarX ?_); refine ⟨_, rfl, ?_⟩) | ((with_reducible refine i_len1 ?_ ?_); · exact Nat.le_of_ble_eq_true rfl))
  exact q o3 (n - s, m - s) u3 ⟨by show (n - s).natAbs ≤ _; omega, by show (m - s).natAbs ≤ _; omega⟩
theorem run_law_odd (xs : List D) (S : Store) (Q : QD) (h : r_law_odd xs S Q) : runD 1 b_law_odd xs S Q := by
  obtain ⟨k, o, T, rfl, rfl, u, hk, q⟩ := h
  refine i_runD ?_
  unfold b_law_odd
  repeat (first | (with_reducible first | refine i_sIf ?_ | refine i_sNil ?_ | refine i_sRet ?_ | refine i_sAsg ?_ | refine i_sDrop ?_ | refine i_sPut ?_ | refine i_sPar ?_ | refine i_eC ?_ | refine i_eOp ?_ | refine i_eChain ?_ | refine i_eB ?_ | refine i_eUn ?_ | refine i_eTup ?_ | refine i_eLst ?_ | refine i_eLstM ?_ | refine i_eAnd ?_ | refine i_eOr ?_ | refine i_eNot ?_ | refine i_eIf ?_ | refine i_bOf ?_ | refine i_bAnd ?_ | refine i_bOr ?_ | refine i_bNot ?_ | refine i_bYes ?_ | refine i_aNil ?_ | refine i_aCons ?_ | refine i_eCall ?_ | refine i_eCallKw ?_ | refine i_eCut ?_ | refine i_oNone ?_ | refine i_oSome ?_ | refine i_eM ?_ | refine i_sSq ?_ | refine i_sRange1 ?_ | refine i_sRange2 ?_ | refine i_sEnum ?_ | refine i_eIsi ?_ | refine i_eIsi2 ?_ | refine i_eLc ?_ | refine i_eLcM ?_ | refine i_sFor ?_ | refine i_eDisp1 ?_ | refine i_bl ?_ | refine i_int ?_ | refine i_nm ?_ | refine i_one ?_ | refine i_two ?_ | refine i_rng ?_ | refine i_len0 ?_ | refine i_int1 ?_ | refine i_intb ?_ | refine i_abs ?_ | refine i_add ?_ | refine i_sub ?_ | refine i_lt ?_ | refine i_le ?_ | refine i_gt ?_ | refine i_ge ?_ | refine i_eqi ?_ | refine i_is ?_ | refine i_isn ?_ | refine i_nes ?_ | refine i_rbl ?_ | refine i_eCallX ?_ | refine i_eCallKwX ?_ | refine i_sRaiseF ?_ | refine i_eIsX ?_ | refine i_eFld ?_ | refine i_eDit1 ?_ | refine i_sTry ?_ | refine i_runX ?_) | ((with_reducible refine i_eVarX ?_); refine ⟨_, rfl, ?_⟩) | ((with_reducible refine i_len1 ?_ ?_); · exact Nat.le_of_ble_eq_true rfl))
  refine draw_of u (by omega) (by decide) (by decide) fun o1 n u1 n0 n1 => ?_
  have hl : n.toNat < odds.length := by
    show n.toNat < 11
    omega
  exact ix_at (xs := odds) (d := odds[n.toNat]) rfl n0 (List.getElem?_eq_getElem hl) (q o1 _ u1 (List.getElem_mem hl))
theorem odd_no : odds.all (fun d => flB d && !isSq d) = true := by decide +kernel
theorem odd_flat {d : D} (h : d ∈ odds) : Flat d ∧ isSq d = false := by
  have := List.all_eq_true.mp odd_no d h
  simp only [Bool.and_eq_true, Bool.not_eq_true'] at this
  exact ⟨flB_ok this.1, this.2⟩
theorem run_law_ordered (xs : List D) (S : Store) (Q : QD) (h : r_law_ordered xs S Q) : runD 5 b_law_ordered xs S Q := by
  obtain ⟨m, ps, rfl, hm, hl, q⟩ := h
  have hm' : m < S.length := (List.getElem?_eq_some_iff.mp hm).1
  have hold : ∀ fs : List D, (S ++ [some (SO.lst fs)])[m]? = some (some (.lst (ps.map sqD))) := fun fs => by rw [List.getElem?_append_left hm']; exact hm
  have hnew : ∀ fs : List D, (S ++ [some (SO.lst fs)])[S.length]? = some (some (.lst fs)) := fun fs => by rw [List.getElem?_append_right (Nat.le_refl _), Nat.sub_self]; rfl
  refine i_runD ?_
  unfold b_law_ordered
  refine cut1 1 (fun d S' => d = .ref S.length ∧ S' = S ++ [some (.lst [])]) (fun N' hrt hnx => ?_) (fun d S' hP => ?_)
  · repeat (first | (with_reducible first | refine i_sIf ?_ | refine i_sNil ?_ | refine i_sRet ?_ | refine i_sAsg ?_ | refine i_sDrop ?_ | refine i_sPut ?_ | refine i_sPar ?_ | refine i_eC ?_ | refine i_eOp ?_ | refine i_eChain ?_ | refine i_eB ?_ | refine i_eUn ?_ | refine i_eTup ?_ | refine i_eLst ?_ | refine i_eLstM ?_ | refine i_eAnd ?_ | refine i_eOr ?_ | refine i_eNot ?_ | refine i_eIf ?_ | refine i_bOf ?_ | refine i_bAnd ?_ | refine i_bOr ?_ | refine i_bNot ?_ | refine i_bYes ?_ | refine i_aNil ?_ | refine i_aCons ?_ | refine i_eCall ?_ | refine i_eCallKw ?_ | refine i_eCut ?_ | refine i_oNone ?_ | refine i_oSome ?_ | refine i_eM ?_ | refine i_sSq ?_ | refine i_sRange1 ?_ | refine i_sRange2 ?_ | refine i_sEnum ?_ | refine i_eIsi ?_ | refine i_eIsi2 ?_ | refine i_eLc ?_ | refine i_eLcM ?_ | refine i_sFor ?_ | refine i_eDisp1 ?_ | refine i_bl ?_ | refine i_int ?_ | refine i_nm ?_ | refine i_one ?_ | refine i_two ?_ | refine i_rng ?_ | refine i_len0 ?_ | refine i_int1 ?_ | refine i_intb ?_ | refine i_abs ?_ | refine i_add ?_ | refine i_sub ?_ | refine i_lt ?_ | refine i_le ?_ | refine i_gt ?_ | refine i_ge ?_ | refine i_eqi ?_ | refine i_is ?_ | refine i_isn ?_ | refine i_nes ?_ | refine i_rbl ?_ | refine i_eCallX ?_ | refine i_eCallKwX ?_ | refine i_sRaiseF ?_ | refine i_eIsX ?_ | refine i_eFld ?_ | refine i_eDit1 ?_ | refine i_sTry ?_ | refine i_runX ?_) | ((with_reducible refine i_eVarX ?_); refine ⟨_, rfl, ?_⟩) | ((with_reducible refine i_len1 ?_ ?_); · exact Nat.le_of_ble_eq_true rfl))
    exact hnx _ _ ⟨rfl, rfl⟩
  obtain ⟨rfl, rfl⟩ := hP
  refine cut (fun ρ' S' => ∃ fs x2 x3 x4, fs.Perm ps ∧ Srt fs ∧ S' = S ++ [some (.lst (fs.map sqD))] ∧ ρ' = [some (.ref m), some (.ref S.length), x2, x3, x4]) (fun N' hrt hnx => ?_) (fun ρ' S' hP => ?_)
  · repeat (first | (with_reducible first | refine i_sIf ?_ | refine i_sNil ?_ | refine i_sRet ?_ | refine i_sAsg ?_ | refine i_sDrop ?_ | refine i_sPut ?_ | refine i_sPar ?_ | refine i_eC ?_ | refine i_eOp ?_ | refine i_eChain ?_ | refine i_eB ?_ | refine i_eUn ?_ | refine i_eTup ?_ | refine i_eLst ?_ | refine i_eLstM ?_ | refine i_eAnd ?_ | refine i_eOr ?_ | refine i_eNot ?_ | refine i_eIf ?_ | refine i_bOf ?_ | refine i_bAnd ?_ | refine i_bOr ?_ | refine i_bNot ?_ | refine i_bYes ?_ | refine i_aNil ?_ | refine i_aCons ?_ | refine i_eCall ?_ | refine i_eCallKw ?_ | refine i_eCut ?_ | refine i_oNone ?_ | refine i_oSome ?_ | refine i_eM ?_ | refine i_sSq ?_ | refine i_sRange1 ?_ | refine i_sRange2 ?_ | refine i_sEnum ?_ | refine i_eIsi ?_ | refine i_eIsi2 ?_ | refine i_eLc ?_ | refine i_eLcM ?_ | refine i_sFor ?_ | refine i_eDisp1 ?_ | refine i_bl ?_ | refine i_int ?_ | refine i_nm ?_ | refine i_one ?_ | refine i_two ?_ | refine i_rng ?_ | refine i_len0 ?_ | refine i_int1 ?_ | refine i_intb ?_ | refine i_abs ?_ | refine i_add ?_ | refine i_sub ?_ | refine i_lt ?_ | refine i_le ?_ | refine i_gt ?_ | refine i_ge ?_ | refine i_eqi ?_ | refine i_is ?_ | refine i_isn ?_ | refine i_nes ?_ | refine i_rbl ?_ | refine i_eCallX ?_ | refine i_eCallKwX ?_ | refine i_sRaiseF ?_ | refine i_eIsX ?_ | refine i_eFld ?_ | refine i_eDit1 ?_ | refine i_sTry ?_ | refine i_runX ?_) | ((with_reducible refine i_eVarX ?_); refine ⟨_, rfl, ?_⟩) | ((with_reducible refine i_len1 ?_ ?_); · exact Nat.le_of_ble_eq_true rfl))
    refine ⟨ps.map sqD, by rw [drf_ref (hold _)]; rfl, fun i ρ' S' => ∃ fs x2 x3 x4, fs.Perm (ps.take i) ∧ Srt fs ∧ S' = S ++ [some (.lst (fs.map sqD))] ∧ ρ' = [some (.ref m), some (.ref S.length), x2, x3, x4],
      ⟨[], _, _, _, .refl _, .nil, rfl, rfl⟩, fun i ρ' S' ⟨fs, _, _, _, _, _, e, _⟩ => by rw [e]; exact (drf_ref (hold _)).trans (drf_ref (hold [])).symm, ?_, ?_⟩
    · rintro i d ρ' S' hd ⟨fs, x2, x3, x4, hp, hs, rfl, rfl⟩
      rw [List.getElem?_map] at hd
      obtain ⟨x, hx, rfl⟩ := Option.map_eq_some_iff.mp hd
      have hi : i < ps.length := (List.getElem?_eq_some_iff.mp hx).1
      have tk : ps.take (i + 1) = ps.take i ++ [x] := by rw [List.take_add_one, hx]; rfl
      have flen : fs.length ≤ 50 := by
        rw [hp.length_eq, List.length_take]
        omega
      refine ⟨_, by unfold bindT; rfl, ?_⟩
      refine cut1 3 (fun d S' => d = .int (fs.filter fun a => ltS a x).length ∧ S' = S ++ [some (.lst (fs.map sqD))]) (fun N' hrt hnx => ?_) (fun d S' hP => ?_)
      · repeat (first | (with_reducible first | refine i_sIf ?_ | refine i_sNil ?_ | refine i_sRet ?_ | refine i_sAsg ?_ | refine i_sDrop ?_ | refine i_sPut ?_ | refine i_sPar ?_ | refine i_eC ?_ | refine i_eOp ?_ | refine i_eChain ?_ | refine i_eB ?_ | refine i_eUn ?_ | refine i_eTup ?_ | refine i_eLst ?_ | refine i_eLstM ?_ | refine i_eAnd ?_ | refine i_eOr ?_ | refine i_eNot ?_ | refine i_eIf ?_ | refine i_bOf ?_ | refine i_bAnd ?_ | refine i_bOr ?_ | refine i_bNot ?_ | refine i_bYes ?_ | refine i_aNil ?_ | refine i_aCons ?_ | refine i_eCall ?_ | refine i_eCallKw ?_ | refine i_eCut ?_ | refine i_oNone ?_ | refine i_oSome ?_ | refine i_eM ?_ | refine i_sSq ?_ | refine i_sRange1 ?_ | refine i_sRange2 ?_ | refine i_sEnum ?_ | refine i_eIsi ?_ | refine i_eIsi2 ?_ | refine i_eLc ?_ | refine i_eLcM ?_ | refine i_sFor ?_ | refine i_eDisp1 ?_ | refine i_bl ?_ | refine i_int ?_ | refine i_nm ?_ | refine i_one ?_ | refine i_two ?_ | refine i_rng ?_ | refine i_len0 ?_ | refine i_int1 ?_ | refine i_intb ?_ | refine i_abs ?_ | refine i_add ?_ | refine i_sub ?_ | refine i_lt ?_ | refine i_le ?_ | refine i_gt ?_ | refine i_ge ?_ | refine i_eqi ?_ | refine i_is ?_ | refine i_isn ?_ | refine i_nes ?_ | refine i_rbl ?_ | refine i_eCallX ?_ | refine i_eCallKwX ?_ | refine i_sRaiseF ?_ | refine i_eIsX ?_ | refine i_eFld ?_ | refine i_eDit1 ?_ | refine i_sTry ?_ | refine i_runX ?_) | ((with_reducible refine i_eVarX ?_); refine ⟨_, rfl, ?_⟩) | ((with_reducible refine i_len1 ?_ ?_); · exact Nat.le_of_ble_eq_true rfl))
        refine ⟨fs.map sqD, by rw [drf_ref (hnew _)]; rfl, lc_ty (p := fun a => ltS a x) (g := sqD) rfl (Nat.le_trans flen (by decide)) (fun a ha => ⟨_, by unfold bindT; rfl, fun Q' q' => ?_, fun _ Q' q' => ?_⟩) ?_⟩
        · repeat (first | (with_reducible first | refine i_sIf ?_ | refine i_sNil ?_ | refine i_sRet ?_ | refine i_sAsg ?_ | refine i_sDrop ?_ | refine i_sPut ?_ | refine i_sPar ?_ | refine i_eC ?_ | refine i_eOp ?_ | refine i_eChain ?_ | refine i_eB ?_ | refine i_eUn ?_ | refine i_eTup ?_ | refine i_eLst ?_ | refine i_eLstM ?_ | refine i_eAnd ?_ | refine i_eOr ?_ | refine i_eNot ?_ | refine i_eIf ?_ | refine i_bOf ?_ | refine i_bAnd ?_ | refine i_bOr ?_ | refine i_bNot ?_ | refine i_bYes ?_ | refine i_aNil ?_ | refine i_aCons ?_ | refine i_eCall ?_ | refine i_eCallKw ?_ | refine i_eCut ?_ | refine i_oNone ?_ | refine i_oSome ?_ | refine i_eM ?_ | refine i_sSq ?_ | refine i_sRange1 ?_ | refine i_sRange2 ?_ | refine i_sEnum ?_ | refine i_eIsi ?_ | refine i_eIsi2 ?_ | refine i_eLc ?_ | refine i_eLcM ?_ | refine i_sFor ?_ | refine i_eDisp1 ?_ | refine i_bl ?_ | refine i_int ?_ | refine i_nm ?_ | refine i_one ?_ | refine i_two ?_ | refine i_rng ?_ | refine i_len0 ?_ | refine i_int1 ?_ | refine i_intb ?_ | refine i_abs ?_ | refine i_add ?_ | refine i_sub ?_ | refine i_lt ?_ | refine i_le ?_ | refine i_gt ?_ | refine i_ge ?_ | refine i_eqi ?_ | refine i_is ?_ | refine i_isn ?_ | refine i_nes ?_ | refine i_rbl ?_ | refine i_eCallX ?_ | refine i_eCallKwX ?_ | refine i_sRaiseF ?_ | refine i_eIsX ?_ | refine i_eFld ?_ | refine i_eDit1 ?_ | refine i_sTry ?_ | refine i_runX ?_) | ((with_reducible refine i_eVarX ?_); refine ⟨_, rfl, ?_⟩) | ((with_reducible refine i_len1 ?_ ?_); · exact Nat.le_of_ble_eq_true rfl))
          refine ix_of (i := 0) rfl rfl ?_
          repeat (first | (with_reducible first | refine i_sIf ?_ | refine i_sNil ?_ | refine i_sRet ?_ | refine i_sAsg ?_ | refine i_sDrop ?_ | refine i_sPut ?_ | refine i_sPar ?_ | refine i_eC ?_ | refine i_eOp ?_ | refine i_eChain ?_ | refine i_eB ?_ | refine i_eUn ?_ | refine i_eTup ?_ | refine i_eLst ?_ | refine i_eLstM ?_ | refine i_eAnd ?_ | refine i_eOr ?_ | refine i_eNot ?_ | refine i_eIf ?_ | refine i_bOf ?_ | refine i_bAnd ?_ | refine i_bOr ?_ | refine i_bNot ?_ | refine i_bYes ?_ | refine i_aNil ?_ | refine i_aCons ?_ | refine i_eCall ?_ | refine i_eCallKw ?_ | refine i_eCut ?_ | refine i_oNone ?_ | refine i_oSome ?_ | refine i_eM ?_ | refine i_sSq ?_ | refine i_sRange1 ?_ | refine i_sRange2 ?_ | refine i_sEnum ?_ | refine i_eIsi ?_ | refine i_eIsi2 ?_ | refine i_eLc ?_ | refine i_eLcM ?_ | refine i_sFor ?_ | refine i_eDisp1 ?_ | refine i_bl ?_ | refine i_int ?_ | refine i_nm ?_ | refine i_one ?_ | refine i_two ?_ | refine i_rng ?_ | refine i_len0 ?_ | refine i_int1 ?_ | refine i_intb ?_ | refine i_abs ?_ | refine i_add ?_ | refine i_sub ?_ | refine i_lt ?_ | refine i_le ?_ | refine i_gt ?_ | refine i_ge ?_ | refine i_eqi ?_ | refine i_is ?_ | refine i_isn ?_ | refine i_nes ?_ | refine i_rbl ?_ | refine i_eCallX ?_ | refine i_eCallKwX ?_ | refine i_sRaiseF ?_ | refine i_eIsX ?_ | refine i_eFld ?_ | refine i_eDit1 ?_ | refine i_sTry ?_ | refine i_runX ?_) | ((with_reducible refine i_eVarX ?_); refine ⟨_, rfl, ?_⟩) | ((with_reducible refine i_len1 ?_ ?_); · exact Nat.le_of_ble_eq_true rfl))
          refine ix_of (i := 0) rfl rfl ?_
          repeat (first | (with_reducible first | refine i_sIf ?_ | refine i_sNil ?_ | refine i_sRet ?_ | refine i_sAsg ?_ | refine i_sDrop ?_ | refine i_sPut ?_ | refine i_sPar ?_ | refine i_eC ?_ | refine i_eOp ?_ | refine i_eChain ?_ | refine i_eB ?_ | refine i_eUn ?_ | refine i_eTup ?_ | refine i_eLst ?_ | refine i_eLstM ?_ | refine i_eAnd ?_ | refine i_eOr ?_ | refine i_eNot ?_ | refine i_eIf ?_ | refine i_bOf ?_ | refine i_bAnd ?_ | refine i_bOr ?_ | refine i_bNot ?_ | refine i_bYes ?_ | refine i_aNil ?_ | refine i_aCons ?_ | refine i_eCall ?_ | refine i_eCallKw ?_ | refine i_eCut ?_ | refine i_oNone ?_ | refine i_oSome ?_ | refine i_eM ?_ | refine i_sSq ?_ | refine i_sRange1 ?_ | refine i_sRange2 ?_ | refine i_sEnum ?_ | refine i_eIsi ?_ | refine i_eIsi2 ?_ | refine i_eLc ?_ | refine i_eLcM ?_ | refine i_sFor ?_ | refine i_eDisp1 ?_ | refine i_bl ?_ | refine i_int ?_ | refine i_nm ?_ | refine i_one ?_ | refine i_two ?_ | refine i_rng ?_ | refine i_len0 ?_ | refine i_int1 ?_ | refine i_intb ?_ | refine i_abs ?_ | refine i_add ?_ | refine i_sub ?_ | refine i_lt ?_ | refine i_le ?_ | refine i_gt ?_ | refine i_ge ?_ | refine i_eqi ?_ | refine i_is ?_ | refine i_isn ?_ | refine i_nes ?_ | refine i_rbl ?_ | refine i_eCallX ?_ | refine i_eCallKwX ?_ | refine i_sRaiseF ?_ | refine i_eIsX ?_ | refine i_eFld ?_ | refine i_eDit1 ?_ | refine i_sTry ?_ | refine i_runX ?_) | ((with_reducible refine i_eVarX ?_); refine ⟨_, rfl, ?_⟩) | ((with_reducible refine i_len1 ?_ ?_); · exact Nat.le_of_ble_eq_true rfl))
          refine ite_by (fun h => ?_) (fun h => ?_)
          · have e : ltS a x = true := SrtO.lexB_iff.mpr (.inl (of_decide_eq_true h))
            rw [e] at q'
            exact q'
          · repeat (first | (with_reducible first | refine i_sIf ?_ | refine i_sNil ?_ | refine i_sRet ?_ | refine i_sAsg ?_ | refine i_sDrop ?_ | refine i_sPut ?_ | refine i_sPar ?_ | refine i_eC ?_ | refine i_eOp ?_ | refine i_eChain ?_ | refine i_eB ?_ | refine i_eUn ?_ | refine i_eTup ?_ | refine i_eLst ?_ | refine i_eLstM ?_ | refine i_eAnd ?_ | refine i_eOr ?_ | refine i_eNot ?_ | refine i_eIf ?_ | refine i_bOf ?_ | refine i_bAnd ?_ | refine i_bOr ?_ | refine i_bNot ?_ | refine i_bYes ?_ | refine i_aNil ?_ | refine i_aCons ?_ | refine i_eCall ?_ | refine i_eCallKw ?_ | refine i_eCut ?_ | refine i_oNone ?_ | refine i_oSome ?_ | refine i_eM ?_ | refine i_sSq ?_ | refine i_sRange1 ?_ | refine i_sRange2 ?_ | refine i_sEnum ?_ | refine i_eIsi ?_ | refine i_eIsi2 ?_ | refine i_eLc ?_ | refine i_eLcM ?_ | refine i_sFor ?_ | refine i_eDisp1 ?_ | refine i_bl ?_ | refine i_int ?_ | refine i_nm ?_ | refine i_one ?_ | refine i_two ?_ | refine i_rng ?_ | refine i_len0 ?_ | refine i_int1 ?_ | refine i_intb ?_ | refine i_abs ?_ | refine i_add ?_ | refine i_sub ?_ | refine i_lt ?_ | refine i_le ?_ | refine i_gt ?_ | refine i_ge ?_ | refine i_eqi ?_ | refine i_is ?_ | refine i_isn ?_ | refine i_nes ?_ | refine i_rbl ?_ | refine i_eCallX ?_ | refine i_eCallKwX ?_ | refine i_sRaiseF ?_ | refine i_eIsX ?_ | refine i_eFld ?_ | refine i_eDit1 ?_ | refine i_sTry ?_ | refine i_runX ?_) | ((with_reducible refine i_eVarX ?_); refine ⟨_, rfl, ?_⟩) | ((with_reducible refine i_len1 ?_ ?_); · exact Nat.le_of_ble_eq_true rfl))
            refine ix_of (i := 0) rfl rfl ?_
            repeat (first | (with_reducible first | refine i_sIf ?_ | refine i_sNil ?_ | refine i_sRet ?_ | refine i_sAsg ?_ | refine i_sDrop ?_ | refine i_sPut ?_ | refine i_sPar ?_ | refine i_eC ?_ | refine i_eOp ?_ | refine i_eChain ?_ | refine i_eB ?_ | refine i_eUn ?_ | refine i_eTup ?_ | refine i_eLst ?_ | refine i_eLstM ?_ | refine i_eAnd ?_ | refine i_eOr ?_ | refine i_eNot ?_ | refine i_eIf ?_ | refine i_bOf ?_ | refine i_bAnd ?_ | refine i_bOr ?_ | refine i_bNot ?_ | refine i_bYes ?_ | refine i_aNil ?_ | refine i_aCons ?_ | refine i_eCall ?_ | refine i_eCallKw ?_ | refine i_eCut ?_ | refine i_oNone ?_ | refine i_oSome ?_ | refine i_eM ?_ | refine i_sSq ?_ | refine i_sRange1 ?_ | refine i_sRange2 ?_ | refine i_sEnum ?_ | refine i_eIsi ?_ | refine i_eIsi2 ?_ | refine i_eLc ?_ | refine i_eLcM ?_ | refine i_sFor ?_ | refine i_eDisp1 ?_ | refine i_bl ?_ | refine i_int ?_ | refine i_nm ?_ | refine i_one ?_ | refine i_two ?_ | refine i_rng ?_ | refine i_len0 ?_ | refine i_int1 ?_ | refine i_intb ?_ | refine i_abs ?_ | refine i_add ?_ | refine i_sub ?_ | refine i_lt ?_ | refine i_le ?_ | refine i_gt ?_ | refine i_ge ?_ | refine i_eqi ?_ | refine i_is ?_ | refine i_isn ?_ | refine i_nes ?_ | refine i_rbl ?_ | refine i_eCallX ?_ | refine i_eCallKwX ?_ | refine i_sRaiseF ?_ | refine i_eIsX ?_ | refine i_eFld ?_ | refine i_eDit1 ?_ | refine i_sTry ?_ | refine i_runX ?_) | ((with_reducible refine i_eVarX ?_); refine ⟨_, rfl, ?_⟩) | ((with_reducible refine i_len1 ?_ ?_); · exact Nat.le_of_ble_eq_true rfl))
            refine ix_of (i := 0) rfl rfl ?_
            repeat (first | (with_reducible first | refine i_sIf ?_ | refine i_sNil ?_ | refine i_sRet ?_ | refine i_sAsg ?_ | refine i_sDrop ?_ | refine i_sPut ?_ | refine i_sPar ?_ | refine i_eC ?_ | refine i_eOp ?_ | refine i_eChain ?_ | refine i_eB ?_ | refine i_eUn ?_ | refine i_eTup ?_ | refine i_eLst ?_ | refine i_eLstM ?_ | refine i_eAnd ?_ | refine i_eOr ?_ | refine i_eNot ?_ | refine i_eIf ?_ | refine i_bOf ?_ | refine i_bAnd ?_ | refine i_bOr ?_ | refine i_bNot ?_ | refine i_bYes ?_ | refine i_aNil ?_ | refine i_aCons ?_ | refine i_eCall ?_ | refine i_eCallKw ?_ | refine i_eCut ?_ | refine i_oNone ?_ | refine i_oSome ?_ | refine i_eM ?_ | refine i_sSq ?_ | refine i_sRange1 ?_ | refine i_sRange2 ?_ | refine i_sEnum ?_ | refine i_eIsi ?_ | refine i_eIsi2 ?_ | refine i_eLc ?_ | refine i_eLcM ?_ | refine i_sFor ?_ | refine i_eDisp1 ?_ | refine i_bl ?_ | refine i_int ?_ | refine i_nm ?_ | refine i_one ?_ | refine i_two ?_ | refine i_rng ?_ | refine i_len0 ?_ | refine i_int1 ?_ | refine i_intb ?_ | refine i_abs ?_ | refine i_add ?_ | refine i_sub ?_ | refine i_lt ?_ | refine i_le ?_ | refine i_gt ?_ | refine i_ge ?_ | refine i_eqi ?_ | refine i_is ?_ | refine i_isn ?_ | refine i_nes ?_ | refine i_rbl ?_ | refine i_eCallX ?_ | refine i_eCallKwX ?_ | refine i_sRaiseF ?_ | refine i_eIsX ?_ | refine i_eFld ?_ | refine i_eDit1 ?_ | refine i_sTry ?_ | refine i_runX ?_) | ((with_reducible refine i_eVarX ?_); refine ⟨_, rfl, ?_⟩) | ((with_reducible refine i_len1 ?_ ?_); · exact Nat.le_of_ble_eq_true rfl))
            have h1 := of_decide_eq_false h
            refine ite_by (fun h2 => ?_) (fun h2 => ?_)
            · repeat (first | (with_reducible first | refine i_sIf ?_ | refine i_sNil ?_ | refine i_sRet ?_ | refine i_sAsg ?_ | refine i_sDrop ?_ | refine i_sPut ?_ | refine i_sPar ?_ | refine i_eC ?_ | refine i_eOp ?_ | refine i_eChain ?_ | refine i_eB ?_ | refine i_eUn ?_ | refine i_eTup ?_ | refine i_eLst ?_ | refine i_eLstM ?_ | refine i_eAnd ?_ | refine i_eOr ?_ | refine i_eNot ?_ | refine i_eIf ?_ | refine i_bOf ?_ | refine i_bAnd ?_ | refine i_bOr ?_ | refine i_bNot ?_ | refine i_bYes ?_ | refine i_aNil ?_ | refine i_aCons ?_ | refine i_eCall ?_ | refine i_eCallKw ?_ | refine i_eCut ?_ | refine i_oNone ?_ | refine i_oSome ?_ | refine i_eM ?_ | refine i_sSq ?_ | refine i_sRange1 ?_ | refine i_sRange2 ?_ | refine i_sEnum ?_ | refine i_eIsi ?_ | refine i_eIsi2 ?_ | refine i_eLc ?_ | refine i_eLcM ?_ | refine i_sFor ?_ | refine i_eDisp1 ?_ | refine i_bl ?_ | refine i_int ?_ | refine i_nm ?_ | refine i_one ?_ | refine i_two ?_ | refine i_rng ?_ | refine i_len0 ?_ | refine i_int1 ?_ | refine i_intb ?_ | refine i_abs ?_ | refine i_add ?_ | refine i_sub ?_ | refine i_lt ?_ | refine i_le ?_ | refine i_gt ?_ | refine i_ge ?_ | refine i_eqi ?_ | refine i_is ?_ | refine i_isn ?_ | refine i_nes ?_ | refine i_rbl ?_ | refine i_eCallX ?_ | refine i_eCallKwX ?_ | refine i_sRaiseF ?_ | refine i_eIsX ?_ | refine i_eFld ?_ | refine i_eDit1 ?_ | refine i_sTry ?_ | refine i_runX ?_) | ((with_reducible refine i_eVarX ?_); refine ⟨_, rfl, ?_⟩) | ((with_reducible refine i_len1 ?_ ?_); · exact Nat.le_of_ble_eq_true rfl))
              refine ix_of (i := 1) rfl rfl ?_
              repeat (first | (with_reducible first | refine i_sIf ?_ | refine i_sNil ?_ | refine i_sRet ?_ | refine i_sAsg ?_ | refine i_sDrop ?_ | refine i_sPut ?_ | refine i_sPar ?_ | refine i_eC ?_ | refine i_eOp ?_ | refine i_eChain ?_ | refine i_eB ?_ | refine i_eUn ?_ | refine i_eTup ?_ | refine i_eLst ?_ | refine i_eLstM ?_ | refine i_eAnd ?_ | refine i_eOr ?_ | refine i_eNot ?_ | refine i_eIf ?_ | refine i_bOf ?_ | refine i_bAnd ?_ | refine i_bOr ?_ | refine i_bNot ?_ | refine i_bYes ?_ | refine i_aNil ?_ | refine i_aCons ?_ | refine i_eCall ?_ | refine i_eCallKw ?_ | refine i_eCut ?_ | refine i_oNone ?_ | refine i_oSome ?_ | refine i_eM ?_ | refine i_sSq ?_ | refine i_sRange1 ?_ | refine i_sRange2 ?_ | refine i_sEnum ?_ | refine i_eIsi ?_ | refine i_eIsi2 ?_ | refine i_eLc ?_ | refine i_eLcM ?_ | refine i_sFor ?_ | refine i_eDisp1 ?_ | refine i_bl ?_ | refine i_int ?_ | refine i_nm ?_ | refine i_one ?_ | refine i_two ?_ | refine i_rng ?_ | refine i_len0 ?_ | refine i_int1 ?_ | refine i_intb ?_ | refine i_abs ?_ | refine i_add ?_ | refine i_sub ?_ | refine i_lt ?_ | refine i_le ?_ | refine i_gt ?_ | refine i_ge ?_ | refine i_eqi ?_ | refine i_is ?_ | refine i_isn ?_ | refine i_nes ?_ | refine i_rbl ?_ | refine i_eCallX ?_ | refine i_eCallKwX ?_ | refine i_sRaiseF ?_ | refine i_eIsX ?_ | refine i_eFld ?_ | refine i_eDit1 ?_ | refine i_sTry ?_ | refine i_runX ?_) | ((with_reducible refine i_eVarX ?_); refine ⟨_, rfl, ?_⟩) | ((with_reducible refine i_len1 ?_ ?_); · exact Nat.le_of_ble_eq_true rfl))
              refine ix_of (i := 1) rfl rfl ?_
              repeat (first | (with_reducible first | refine i_sIf ?_ | refine i_sNil ?_ | refine i_sRet ?_ | refine i_sAsg ?_ | refine i_sDrop ?_ | refine i_sPut ?_ | refine i_sPar ?_ | refine i_eC ?_ | refine i_eOp ?_ | refine i_eChain ?_ | refine i_eB ?_ | refine i_eUn ?_ | refine i_eTup ?_ | refine i_eLst ?_ | refine i_eLstM ?_ | refine i_eAnd ?_ | refine i_eOr ?_ | refine i_eNot ?_ | refine i_eIf ?_ | refine i_bOf ?_ | refine i_bAnd ?_ | refine i_bOr ?_ | refine i_bNot ?_ | refine i_bYes ?_ | refine i_aNil ?_ | refine i_aCons ?_ | refine i_eCall ?_ | refine i_eCallKw ?_ | refine i_eCut ?_ | refine i_oNone ?_ | refine i_oSome ?_ | refine i_eM ?_ | refine i_sSq ?_ | refine i_sRange1 ?_ | refine i_sRange2 ?_ | refine i_sEnum ?_ | refine i_eIsi ?_ | refine i_eIsi2 ?_ | refine i_eLc ?_ | refine i_eLcM ?_ | refine i_sFor ?_ | refine i_eDisp1 ?_ | refine i_bl ?_ | refine i_int ?_ | refine i_nm ?_ | refine i_one ?_ | refine i_two ?_ | refine i_rng ?_ | refine i_len0 ?_ | refine i_int1 ?_ | refine i_intb ?_ | refine i_abs ?_ | refine i_add ?_ | refine i_sub ?_ | refine i_lt ?_ | refine i_le ?_ | refine i_gt ?_ | refine i_ge ?_ | refine i_eqi ?_ | refine i_is ?_ | refine i_isn ?_ | refine i_nes ?_ | refine i_rbl ?_ | refine i_eCallX ?_ | refine i_eCallKwX ?_ | refine i_sRaiseF ?_ | refine i_eIsX ?_ | refine i_eFld ?_ | refine i_eDit1 ?_ | refine i_sTry ?_ | refine i_runX ?_) | ((with_reducible refine i_eVarX ?_); refine ⟨_, rfl, ?_⟩) | ((with_reducible refine i_len1 ?_ ?_); · exact Nat.le_of_ble_eq_true rfl))
              have e : ltS a x = decide (a.2 < x.2) := by
                have e1 := of_decide_eq_true h2
                show (if a.1 = x.1 then _ else _) = _
                rw [if_pos e1]
              rw [← e]
              exact q'
            · have e : ltS a x = false := by
                have e1 := of_decide_eq_false h2
                exact SrtO.lexB_no.mpr (by omega)
              rw [e] at q'
              exact q'
        · repeat (first | (with_reducible first | refine i_sIf ?_ | refine i_sNil ?_ | refine i_sRet ?_ | refine i_sAsg ?_ | refine i_sDrop ?_ | refine i_sPut ?_ | refine i_sPar ?_ | refine i_eC ?_ | refine i_eOp ?_ | refine i_eChain ?_ | refine i_eB ?_ | refine i_eUn ?_ | refine i_eTup ?_ | refine i_eLst ?_ | refine i_eLstM ?_ | refine i_eAnd ?_ | refine i_eOr ?_ | refine i_eNot ?_ | refine i_eIf ?_ | refine i_bOf ?_ | refine i_bAnd ?_ | refine i_bOr ?_ | refine i_bNot ?_ | refine i_bYes ?_ | refine i_aNil ?_ | refine i_aCons ?_ | refine i_eCall ?_ | refine i_eCallKw ?_ | refine i_eCut ?_ | refine i_oNone ?_ | refine i_oSome ?_ | refine i_eM ?_ | refine i_sSq ?_ | refine i_sRange1 ?_ | refine i_sRange2 ?_ | refine i_sEnum ?_ | refine i_eIsi ?_ | refine i_eIsi2 ?_ | refine i_eLc ?_ | refine i_eLcM ?_ | refine i_sFor ?_ | refine i_eDisp1 ?_ | refine i_bl ?_ | refine i_int ?_ | refine i_nm ?_ | refine i_one ?_ | refine i_two ?_ | refine i_rng ?_ | refine i_len0 ?_ | refine i_int1 ?_ | refine i_intb ?_ | refine i_abs ?_ | refine i_add ?_ | refine i_sub ?_ | refine i_lt ?_ | refine i_le ?_ | refine i_gt ?_ | refine i_ge ?_ | refine i_eqi ?_ | refine i_is ?_ | refine i_isn ?_ | refine i_nes ?_ | refine i_rbl ?_ | refine i_eCallX ?_ | refine i_eCallKwX ?_ | refine i_sRaiseF ?_ | refine i_eIsX ?_ | refine i_eFld ?_ | refine i_eDit1 ?_ | refine i_sTry ?_ | refine i_runX ?_) | ((with_reducible refine i_eVarX ?_); refine ⟨_, rfl, ?_⟩) | ((with_reducible refine i_len1 ?_ ?_); · exact Nat.le_of_ble_eq_true rfl))
          exact q'
        · repeat (first | (with_reducible first | refine i_sIf ?_ | refine i_sNil ?_ | refine i_sRet ?_ | refine i_sAsg ?_ | refine i_sDrop ?_ | refine i_sPut ?_ | refine i_sPar ?_ | refine i_eC ?_ | refine i_eOp ?_ | refine i_eChain ?_ | refine i_eB ?_ | refine i_eUn ?_ | refine i_eTup ?_ | refine i_eLst ?_ | refine i_eLstM ?_ | refine i_eAnd ?_ | refine i_eOr ?_ | refine i_eNot ?_ | refine i_eIf ?_ | refine i_bOf ?_ | refine i_bAnd ?_ | refine i_bOr ?_ | refine i_bNot ?_ | refine i_bYes ?_ | refine i_aNil ?_ | refine i_aCons ?_ | refine i_eCall ?_ | refine i_eCallKw ?_ | refine i_eCut ?_ | refine i_oNone ?_ | refine i_oSome ?_ | refine i_eM ?_ | refine i_sSq ?_ | refine i_sRange1 ?_ | refine i_sRange2 ?_ | refine i_sEnum ?_ | refine i_eIsi ?_ | refine i_eIsi2 ?_ | refine i_eLc ?_ | refine i_eLcM ?_ | refine i_sFor ?_ | refine i_eDisp1 ?_ | refine i_bl ?_ | refine i_int ?_ | refine i_nm ?_ | refine i_one ?_ | refine i_two ?_ | refine i_rng ?_ | refine i_len0 ?_ | refine i_int1 ?_ | refine i_intb ?_ | refine i_abs ?_ | refine i_add ?_ | refine i_sub ?_ | refine i_lt ?_ | refine i_le ?_ | refine i_gt ?_ | refine i_ge ?_ | refine i_eqi ?_ | refine i_is ?_ | refine i_isn ?_ | refine i_nes ?_ | refine i_rbl ?_ | refine i_eCallX ?_ | refine i_eCallKwX ?_ | refine i_sRaiseF ?_ | refine i_eIsX ?_ | refine i_eFld ?_ | refine i_eDit1 ?_ | refine i_sTry ?_ | refine i_runX ?_) | ((with_reducible refine i_eVarX ?_); refine ⟨_, rfl, ?_⟩) | ((with_reducible refine i_len1 ?_ ?_); · exact Nat.le_of_ble_eq_true rfl))
          refine len_seq rfl ?_
          repeat (first | (with_reducible first | refine i_sIf ?_ | refine i_sNil ?_ | refine i_sRet ?_ | refine i_sAsg ?_ | refine i_sDrop ?_ | refine i_sPut ?_ | refine i_sPar ?_ | refine i_eC ?_ | refine i_eOp ?_ | refine i_eChain ?_ | refine i_eB ?_ | refine i_eUn ?_ | refine i_eTup ?_ | refine i_eLst ?_ | refine i_eLstM ?_ | refine i_eAnd ?_ | refine i_eOr ?_ | refine i_eNot ?_ | refine i_eIf ?_ | refine i_bOf ?_ | refine i_bAnd ?_ | refine i_bOr ?_ | refine i_bNot ?_ | refine i_bYes ?_ | refine i_aNil ?_ | refine i_aCons ?_ | refine i_eCall ?_ | refine i_eCallKw ?_ | refine i_eCut ?_ | refine i_oNone ?_ | refine i_oSome ?_ | refine i_eM ?_ | refine i_sSq ?_ | refine i_sRange1 ?_ | refine i_sRange2 ?_ | refine i_sEnum ?_ | refine i_eIsi ?_ | refine i_eIsi2 ?_ | refine i_eLc ?_ | refine i_eLcM ?_ | refine i_sFor ?_ | refine i_eDisp1 ?_ | refine i_bl ?_ | refine i_int ?_ | refine i_nm ?_ | refine i_one ?_ | refine i_two ?_ | refine i_rng ?_ | refine i_len0 ?_ | refine i_int1 ?_ | refine i_intb ?_ | refine i_abs ?_ | refine i_add ?_ | refine i_sub ?_ | refine i_lt ?_ | refine i_le ?_ | refine i_gt ?_ | refine i_ge ?_ | refine i_eqi ?_ | refine i_is ?_ | refine i_isn ?_ | refine i_nes ?_ | refine i_rbl ?_ | refine i_eCallX ?_ | refine i_eCallKwX ?_ | refine i_sRaiseF ?_ | refine i_eIsX ?_ | refine i_eFld ?_ | refine i_eDit1 ?_ | refine i_sTry ?_ | refine i_runX ?_) | ((with_reducible refine i_eVarX ?_); refine ⟨_, rfl, ?_⟩) | ((with_reducible refine i_len1 ?_ ?_); · exact Nat.le_of_ble_eq_true rfl))
          exact hnx _ _ ⟨by rw [List.length_map], rfl⟩
      obtain ⟨rfl, rfl⟩ := hP
      have fl2 : (fs.filter fun a => ltS a x).length ≤ fs.length := List.length_filter_le ..
      repeat (first | (with_reducible first | refine i_sIf ?_ | refine i_sNil ?_ | refine i_sRet ?_ | refine i_sAsg ?_ | refine i_sDrop ?_ | refine i_sPut ?_ | refine i_sPar ?_ | refine i_eC ?_ | refine i_eOp ?_ | refine i_eChain ?_ | refine i_eB ?_ | refine i_eUn ?_ | refine i_eTup ?_ | refine i_eLst ?_ | refine i_eLstM ?_ | refine i_eAnd ?_ | refine i_eOr ?_ | refine i_eNot ?_ | refine i_eIf ?_ | refine i_bOf ?_ | refine i_bAnd ?_ | refine i_bOr ?_ | refine i_bNot ?_ | refine i_bYes ?_ | refine i_aNil ?_ | refine i_aCons ?_ | refine i_eCall ?_ | refine i_eCallKw ?_ | refine i_eCut ?_ | refine i_oNone ?_ | refine i_oSome ?_ | refine i_eM ?_ | refine i_sSq ?_ | refine i_sRange1 ?_ | refine i_sRange2 ?_ | refine i_sEnum ?_ | refine i_eIsi ?_ | refine i_eIsi2 ?_ | refine i_eLc ?_ | refine i_eLcM ?_ | refine i_sFor ?_ | refine i_eDisp1 ?_ | refine i_bl ?_ | refine i_int ?_ | refine i_nm ?_ | refine i_one ?_ | refine i_two ?_ | refine i_rng ?_ | refine i_len0 ?_ | refine i_int1 ?_ | refine i_intb ?_ | refine i_abs ?_ | refine i_add ?_ | refine i_sub ?_ | refine i_lt ?_ | refine i_le ?_ | refine i_gt ?_ | refine i_ge ?_ | refine i_eqi ?_ | refine i_is ?_ | refine i_isn ?_ | refine i_nes ?_ | refine i_rbl ?_ | refine i_eCallX ?_ | refine i_eCallKwX ?_ | refine i_sRaiseF ?_ | refine i_eIsX ?_ | refine i_eFld ?_ | refine i_eDit1 ?_ | refine i_sTry ?_ | refine i_runX ?_) | ((with_reducible refine i_eVarX ?_); refine ⟨_, rfl, ?_⟩) | ((with_reducible refine i_len1 ?_ ?_); · exact Nat.le_of_ble_eq_true rfl))
      refine ⟨by rw [drf_ref (hnew _)]; trivial, ?_⟩
      repeat (first | (with_reducible first | refine i_sIf ?_ | refine i_sNil ?_ | refine i_sRet ?_ | refine i_sAsg ?_ | refine i_sDrop ?_ | refine i_sPut ?_ | refine i_sPar ?_ | refine i_eC ?_ | refine i_eOp ?_ | refine i_eChain ?_ | refine i_eB ?_ | refine i_eUn ?_ | refine i_eTup ?_ | refine i_eLst ?_ | refine i_eLstM ?_ | refine i_eAnd ?_ | refine i_eOr ?_ | refine i_eNot ?_ | refine i_eIf ?_ | refine i_bOf ?_ | refine i_bAnd ?_ | refine i_bOr ?_ | refine i_bNot ?_ | refine i_bYes ?_ | refine i_aNil ?_ | refine i_aCons ?_ | refine i_eCall ?_ | refine i_eCallKw ?_ | refine i_eCut ?_ | refine i_oNone ?_ | refine i_oSome ?_ | refine i_eM ?_ | refine i_sSq ?_ | refine i_sRange1 ?_ | refine i_sRange2 ?_ | refine i_sEnum ?_ | refine i_eIsi ?_ | refine i_eIsi2 ?_ | refine i_eLc ?_ | refine i_eLcM ?_ | refine i_sFor ?_ | refine i_eDisp1 ?_ | refine i_bl ?_ | refine i_int ?_ | refine i_nm ?_ | refine i_one ?_ | refine i_two ?_ | refine i_rng ?_ | refine i_len0 ?_ | refine i_int1 ?_ | refine i_intb ?_ | refine i_abs ?_ | refine i_add ?_ | refine i_sub ?_ | refine i_lt ?_ | refine i_le ?_ | refine i_gt ?_ | refine i_ge ?_ | refine i_eqi ?_ | refine i_is ?_ | refine i_isn ?_ | refine i_nes ?_ | refine i_rbl ?_ | refine i_eCallX ?_ | refine i_eCallKwX ?_ | refine i_sRaiseF ?_ | refine i_eIsX ?_ | refine i_eFld ?_ | refine i_eDit1 ?_ | refine i_sTry ?_ | refine i_runX ?_) | ((with_reducible refine i_eVarX ?_); refine ⟨_, rfl, ?_⟩) | ((with_reducible refine i_len1 ?_ ?_); · exact Nat.le_of_ble_eq_true rfl))
      refine ⟨S.length, fs.map sqD, _, sqD x, rfl, rfl, hnew _, ?_, by omega, by omega, ?_⟩
      · rw [List.length_map]
        exact Nat.lt_of_le_of_lt flen (by decide)
      · refine ⟨fs.take (fs.filter fun a => ltS a x).length ++ [x] ++ fs.drop (fs.filter fun a => ltS a x).length, _, _, _, ?_, put_in hs, ?_, rfl⟩
        · rw [tk]
          exact (put_perm fs x _).trans (hp.append_right [x])
        · rw [List.set_append_right _ _ (Nat.le_refl _), Nat.sub_self]
          simp [List.map_take, List.map_drop]
    · rintro ρ' S' ⟨fs, x2, x3, x4, hp, hs, rfl, rfl⟩
      rw [List.length_map, List.take_length] at hp
      exact hnx _ _ ⟨fs, x2, x3, x4, hp, hs, rfl, rfl⟩
  obtain ⟨fs, x2, x3, x4, hp, hs, rfl, rfl⟩ := hP
  repeat (first | (with_reducible first | refine i_sIf ?_ | refine i_sNil ?_ | refine i_sRet ?_ | refine i_sAsg ?_ | refine i_sDrop ?_ | refine i_sPut ?_ | refine i_sPar ?_ | refine i_eC ?_ | refine i_eOp ?_ | refine i_eChain ?_ | refine i_eB ?_ | refine i_eUn ?_ | refine i_eTup ?_ | refine i_eLst ?_ | refine i_eLstM ?_ | refine i_eAnd ?_ | refine i_eOr ?_ | refine i_eNot ?_ | refine i_eIf ?_ | refine i_bOf ?_ | refine i_bAnd ?_ | refine i_bOr ?_ | refine i_bNot ?_ | refine i_bYes ?_ | refine i_aNil ?_ | refine i_aCons ?_ | refine i_eCall ?_ | refine i_eCallKw ?_ | refine i_eCut ?_ | refine i_oNone ?_ | refine i_oSome ?_ | refine i_eM ?_ | refine i_sSq ?_ | refine i_sRange1 ?_ | refine i_sRange2 ?_ | refine i_sEnum ?_ | refine i_eIsi ?_ | refine i_eIsi2 ?_ | refine i_eLc ?_ | refine i_eLcM ?_ | refine i_sFor ?_ | refine i_eDisp1 ?_ | refine i_bl ?_ | refine i_int ?_ | refine i_nm ?_ | refine i_one ?_ | refine i_two ?_ | refine i_rng ?_ | refine i_len0 ?_ | refine i_int1 ?_ | refine i_intb ?_ | refine i_abs ?_ | refine i_add ?_ | refine i_sub ?_ | refine i_lt ?_ | refine i_le ?_ | refine i_gt ?_ | refine i_ge ?_ | refine i_eqi ?_ | refine i_is ?_ | refine i_isn ?_ | refine i_nes ?_ | refine i_rbl ?_ | refine i_eCallX ?_ | refine i_eCallKwX ?_ | refine i_sRaiseF ?_ | refine i_eIsX ?_ | refine i_eFld ?_ | refine i_eDit1 ?_ | refine i_sTry ?_ | refine i_runX ?_) | ((with_reducible refine i_eVarX ?_); refine ⟨_, rfl, ?_⟩) | ((with_reducible refine i_len1 ?_ ?_); · exact Nat.le_of_ble_eq_true rfl))
  exact q fs hp hs

theorem at_end {S : Store} {so : SO} : (S ++ [some so])[S.length]? = some (some so) := by rw [List.getElem?_append_right (Nat.le_refl _), Nat.sub_self]; rfl
theorem heard_of {K : PySem.W.Frag} {cs : Cs} (kf : KF K cs) {te : XD → TD} {ρ : Rho} {S : Store} {Q : QD}
    (h : ∀ (so : SO) (E' : XD) (Q' : QD), (∀ (w : Str) (C : Addr) (p : Str) (S1 : Store), (w = "square" ∧ C = cs.BadSquare ∨ w = "squares" ∧ C = cs.BadSquares) → (∀ so, Q (.tup [.str w, .str p]) (S1 ++ [some so])) → E' (C, [("part", .str p)]) S1) →
      (∀ d S1, Q .non S1 → Q' d S1) → te E' ρ (S ++ [some so]) Q') : eHear 3 (b_law_heard K cs) te ρ S Q := by
  intro κ hκ
  unfold b_law_heard
  repeat (first | (with_reducible first | refine i_sSeq ?_ | refine i_sIf ?_ | refine i_sNil ?_ | refine i_sRet ?_ | refine i_sAsg ?_ | refine i_sDrop ?_ | refine i_sPut ?_ | refine i_sPar ?_ | refine i_eC ?_ | refine i_eOp ?_ | refine i_eChain ?_ | refine i_eB ?_ | refine i_eUn ?_ | refine i_eTup ?_ | refine i_eLst ?_ | refine i_eLstM ?_ | refine i_eAnd ?_ | refine i_eOr ?_ | refine i_eNot ?_ | refine i_eIf ?_ | refine i_bOf ?_ | refine i_bAnd ?_ | refine i_bOr ?_ | refine i_bNot ?_ | refine i_bYes ?_ | refine i_aNil ?_ | refine i_aCons ?_ | refine i_eCall ?_ | refine i_eCallKw ?_ | refine i_eCut ?_ | refine i_oNone ?_ | refine i_oSome ?_ | refine i_eM ?_ | refine i_sSq ?_ | refine i_sRange1 ?_ | refine i_sRange2 ?_ | refine i_sEnum ?_ | refine i_eIsi ?_ | refine i_eIsi2 ?_ | refine i_eLc ?_ | refine i_eLcM ?_ | refine i_sFor ?_ | refine i_eDisp1 ?_ | refine i_bl ?_ | refine i_int ?_ | refine i_nm ?_ | refine i_one ?_ | refine i_two ?_ | refine i_rng ?_ | refine i_len0 ?_ | refine i_int1 ?_ | refine i_intb ?_ | refine i_abs ?_ | refine i_add ?_ | refine i_sub ?_ | refine i_lt ?_ | refine i_le ?_ | refine i_gt ?_ | refine i_ge ?_ | refine i_eqi ?_ | refine i_is ?_ | refine i_isn ?_ | refine i_nes ?_ | refine i_rbl ?_ | refine i_eCallX ?_ | refine i_eCallKwX ?_ | refine i_sRaiseF ?_ | refine i_eIsX ?_ | refine i_eFld ?_ | refine i_eDit1 ?_ | refine i_sTry ?_ | refine i_runX ?_) | ((with_reducible refine i_eVarX ?_); refine ⟨_, rfl, ?_⟩) | ((with_reducible refine i_len1 ?_ ?_); · exact Nat.le_of_ble_eq_true rfl))
  refine ⟨by rw [hκ]; rfl, by rw [hκ]; exact at_end, h _ _ _ (fun w C p S1 hC q => ?_) (fun d S1 q => ?_)⟩
  · refine ⟨true, by rcases hC with ⟨_, rfl⟩ | ⟨_, rfl⟩; exact kf.x_BadSquare_FlightError; exact kf.x_BadSquares_FlightError, fun _ => ?_, fun e => (nomatch e)⟩
    have get : (S1 ++ [some (SO.exc C [("part", D.str p)])])[S1.length]? = some (some (.exc C [("part", .str p)])) := at_end
    show sAsg (.nm 1) (eVar 2) _ _ _
    repeat (first | (with_reducible first | refine i_sSeq ?_ | refine i_sIf ?_ | refine i_sNil ?_ | refine i_sRet ?_ | refine i_sAsg ?_ | refine i_sDrop ?_ | refine i_sPut ?_ | refine i_sPar ?_ | refine i_eC ?_ | refine i_eOp ?_ | refine i_eChain ?_ | refine i_eB ?_ | refine i_eUn ?_ | refine i_eTup ?_ | refine i_eLst ?_ | refine i_eLstM ?_ | refine i_eAnd ?_ | refine i_eOr ?_ | refine i_eNot ?_ | refine i_eIf ?_ | refine i_bOf ?_ | refine i_bAnd ?_ | refine i_bOr ?_ | refine i_bNot ?_ | refine i_bYes ?_ | refine i_aNil ?_ | refine i_aCons ?_ | refine i_eCall ?_ | refine i_eCallKw ?_ | refine i_eCut ?_ | refine i_oNone ?_ | refine i_oSome ?_ | refine i_eM ?_ | refine i_sSq ?_ | refine i_sRange1 ?_ | refine i_sRange2 ?_ | refine i_sEnum ?_ | refine i_eIsi ?_ | refine i_eIsi2 ?_ | refine i_eLc ?_ | refine i_eLcM ?_ | refine i_sFor ?_ | refine i_eDisp1 ?_ | refine i_bl ?_ | refine i_int ?_ | refine i_nm ?_ | refine i_one ?_ | refine i_two ?_ | refine i_rng ?_ | refine i_len0 ?_ | refine i_int1 ?_ | refine i_intb ?_ | refine i_abs ?_ | refine i_add ?_ | refine i_sub ?_ | refine i_lt ?_ | refine i_le ?_ | refine i_gt ?_ | refine i_ge ?_ | refine i_eqi ?_ | refine i_is ?_ | refine i_isn ?_ | refine i_nes ?_ | refine i_rbl ?_ | refine i_eCallX ?_ | refine i_eCallKwX ?_ | refine i_sRaiseF ?_ | refine i_eIsX ?_ | refine i_eFld ?_ | refine i_eDit1 ?_ | refine i_sTry ?_ | refine i_runX ?_) | ((with_reducible refine i_eVarX ?_); refine ⟨_, rfl, ?_⟩) | ((with_reducible refine i_len1 ?_ ?_); · exact Nat.le_of_ble_eq_true rfl))
    rcases hC with ⟨rfl, rfl⟩ | ⟨rfl, rfl⟩
    · refine isx_exc get kf.e_BadSquare kf.i_BadSquare_BadSquare ?_
      repeat (first | (with_reducible first | refine i_sSeq ?_ | refine i_sIf ?_ | refine i_sNil ?_ | refine i_sRet ?_ | refine i_sAsg ?_ | refine i_sDrop ?_ | refine i_sPut ?_ | refine i_sPar ?_ | refine i_eC ?_ | refine i_eOp ?_ | refine i_eChain ?_ | refine i_eB ?_ | refine i_eUn ?_ | refine i_eTup ?_ | refine i_eLst ?_ | refine i_eLstM ?_ | refine i_eAnd ?_ | refine i_eOr ?_ | refine i_eNot ?_ | refine i_eIf ?_ | refine i_bOf ?_ | refine i_bAnd ?_ | refine i_bOr ?_ | refine i_bNot ?_ | refine i_bYes ?_ | refine i_aNil ?_ | refine i_aCons ?_ | refine i_eCall ?_ | refine i_eCallKw ?_ | refine i_eCut ?_ | refine i_oNone ?_ | refine i_oSome ?_ | refine i_eM ?_ | refine i_sSq ?_ | refine i_sRange1 ?_ | refine i_sRange2 ?_ | refine i_sEnum ?_ | refine i_eIsi ?_ | refine i_eIsi2 ?_ | refine i_eLc ?_ | refine i_eLcM ?_ | refine i_sFor ?_ | refine i_eDisp1 ?_ | refine i_bl ?_ | refine i_int ?_ | refine i_nm ?_ | refine i_one ?_ | refine i_two ?_ | refine i_rng ?_ | refine i_len0 ?_ | refine i_int1 ?_ | refine i_intb ?_ | refine i_abs ?_ | refine i_add ?_ | refine i_sub ?_ | refine i_lt ?_ | refine i_le ?_ | refine i_gt ?_ | refine i_ge ?_ | refine i_eqi ?_ | refine i_is ?_ | refine i_isn ?_ | refine i_nes ?_ | refine i_rbl ?_ | refine i_eCallX ?_ | refine i_eCallKwX ?_ | refine i_sRaiseF ?_ | refine i_eIsX ?_ | refine i_eFld ?_ | refine i_eDit1 ?_ | refine i_sTry ?_ | refine i_runX ?_) | ((with_reducible refine i_eVarX ?_); refine ⟨_, rfl, ?_⟩) | ((with_reducible refine i_len1 ?_ ?_); · exact Nat.le_of_ble_eq_true rfl))
      refine iteT ?_
      repeat (first | (with_reducible first | refine i_sSeq ?_ | refine i_sIf ?_ | refine i_sNil ?_ | refine i_sRet ?_ | refine i_sAsg ?_ | refine i_sDrop ?_ | refine i_sPut ?_ | refine i_sPar ?_ | refine i_eC ?_ | refine i_eOp ?_ | refine i_eChain ?_ | refine i_eB ?_ | refine i_eUn ?_ | refine i_eTup ?_ | refine i_eLst ?_ | refine i_eLstM ?_ | refine i_eAnd ?_ | refine i_eOr ?_ | refine i_eNot ?_ | refine i_eIf ?_ | refine i_bOf ?_ | refine i_bAnd ?_ | refine i_bOr ?_ | refine i_bNot ?_ | refine i_bYes ?_ | refine i_aNil ?_ | refine i_aCons ?_ | refine i_eCall ?_ | refine i_eCallKw ?_ | refine i_eCut ?_ | refine i_oNone ?_ | refine i_oSome ?_ | refine i_eM ?_ | refine i_sSq ?_ | refine i_sRange1 ?_ | refine i_sRange2 ?_ | refine i_sEnum ?_ | refine i_eIsi ?_ | refine i_eIsi2 ?_ | refine i_eLc ?_ | refine i_eLcM ?_ | refine i_sFor ?_ | refine i_eDisp1 ?_ | refine i_bl ?_ | refine i_int ?_ | refine i_nm ?_ | refine i_one ?_ | refine i_two ?_ | refine i_rng ?_ | refine i_len0 ?_ | refine i_int1 ?_ | refine i_intb ?_ | refine i_abs ?_ | refine i_add ?_ | refine i_sub ?_ | refine i_lt ?_ | refine i_le ?_ | refine i_gt ?_ | refine i_ge ?_ | refine i_eqi ?_ | refine i_is ?_ | refine i_isn ?_ | refine i_nes ?_ | refine i_rbl ?_ | refine i_eCallX ?_ | refine i_eCallKwX ?_ | refine i_sRaiseF ?_ | refine i_eIsX ?_ | refine i_eFld ?_ | refine i_eDit1 ?_ | refine i_sTry ?_ | refine i_runX ?_) | ((with_reducible refine i_eVarX ?_); refine ⟨_, rfl, ?_⟩) | ((with_reducible refine i_len1 ?_ ?_); · exact Nat.le_of_ble_eq_true rfl))
      refine ⟨_, _, _, _, rfl, get, kf.f_BadSquare, kf.o_BadSquare_part, rfl, ?_⟩
      repeat (first | (with_reducible first | refine i_sSeq ?_ | refine i_sIf ?_ | refine i_sNil ?_ | refine i_sRet ?_ | refine i_sAsg ?_ | refine i_sDrop ?_ | refine i_sPut ?_ | refine i_sPar ?_ | refine i_eC ?_ | refine i_eOp ?_ | refine i_eChain ?_ | refine i_eB ?_ | refine i_eUn ?_ | refine i_eTup ?_ | refine i_eLst ?_ | refine i_eLstM ?_ | refine i_eAnd ?_ | refine i_eOr ?_ | refine i_eNot ?_ | refine i_eIf ?_ | refine i_bOf ?_ | refine i_bAnd ?_ | refine i_bOr ?_ | refine i_bNot ?_ | refine i_bYes ?_ | refine i_aNil ?_ | refine i_aCons ?_ | refine i_eCall ?_ | refine i_eCallKw ?_ | refine i_eCut ?_ | refine i_oNone ?_ | refine i_oSome ?_ | refine i_eM ?_ | refine i_sSq ?_ | refine i_sRange1 ?_ | refine i_sRange2 ?_ | refine i_sEnum ?_ | refine i_eIsi ?_ | refine i_eIsi2 ?_ | refine i_eLc ?_ | refine i_eLcM ?_ | refine i_sFor ?_ | refine i_eDisp1 ?_ | refine i_bl ?_ | refine i_int ?_ | refine i_nm ?_ | refine i_one ?_ | refine i_two ?_ | refine i_rng ?_ | refine i_len0 ?_ | refine i_int1 ?_ | refine i_intb ?_ | refine i_abs ?_ | refine i_add ?_ | refine i_sub ?_ | refine i_lt ?_ | refine i_le ?_ | refine i_gt ?_ | refine i_ge ?_ | refine i_eqi ?_ | refine i_is ?_ | refine i_isn ?_ | refine i_nes ?_ | refine i_rbl ?_ | refine i_eCallX ?_ | refine i_eCallKwX ?_ | refine i_sRaiseF ?_ | refine i_eIsX ?_ | refine i_eFld ?_ | refine i_eDit1 ?_ | refine i_sTry ?_ | refine i_runX ?_) | ((with_reducible refine i_eVarX ?_); refine ⟨_, rfl, ?_⟩) | ((with_reducible refine i_len1 ?_ ?_); · exact Nat.le_of_ble_eq_true rfl))
      exact q _
    · refine isx_exc get kf.e_BadSquares kf.i_BadSquares_BadSquare ?_
      repeat (first | (with_reducible first | refine i_sSeq ?_ | refine i_sIf ?_ | refine i_sNil ?_ | refine i_sRet ?_ | refine i_sAsg ?_ | refine i_sDrop ?_ | refine i_sPut ?_ | refine i_sPar ?_ | refine i_eC ?_ | refine i_eOp ?_ | refine i_eChain ?_ | refine i_eB ?_ | refine i_eUn ?_ | refine i_eTup ?_ | refine i_eLst ?_ | refine i_eLstM ?_ | refine i_eAnd ?_ | refine i_eOr ?_ | refine i_eNot ?_ | refine i_eIf ?_ | refine i_bOf ?_ | refine i_bAnd ?_ | refine i_bOr ?_ | refine i_bNot ?_ | refine i_bYes ?_ | refine i_aNil ?_ | refine i_aCons ?_ | refine i_eCall ?_ | refine i_eCallKw ?_ | refine i_eCut ?_ | refine i_oNone ?_ | refine i_oSome ?_ | refine i_eM ?_ | refine i_sSq ?_ | refine i_sRange1 ?_ | refine i_sRange2 ?_ | refine i_sEnum ?_ | refine i_eIsi ?_ | refine i_eIsi2 ?_ | refine i_eLc ?_ | refine i_eLcM ?_ | refine i_sFor ?_ | refine i_eDisp1 ?_ | refine i_bl ?_ | refine i_int ?_ | refine i_nm ?_ | refine i_one ?_ | refine i_two ?_ | refine i_rng ?_ | refine i_len0 ?_ | refine i_int1 ?_ | refine i_intb ?_ | refine i_abs ?_ | refine i_add ?_ | refine i_sub ?_ | refine i_lt ?_ | refine i_le ?_ | refine i_gt ?_ | refine i_ge ?_ | refine i_eqi ?_ | refine i_is ?_ | refine i_isn ?_ | refine i_nes ?_ | refine i_rbl ?_ | refine i_eCallX ?_ | refine i_eCallKwX ?_ | refine i_sRaiseF ?_ | refine i_eIsX ?_ | refine i_eFld ?_ | refine i_eDit1 ?_ | refine i_sTry ?_ | refine i_runX ?_) | ((with_reducible refine i_eVarX ?_); refine ⟨_, rfl, ?_⟩) | ((with_reducible refine i_len1 ?_ ?_); · exact Nat.le_of_ble_eq_true rfl))
      refine iteF ?_
      repeat (first | (with_reducible first | refine i_sSeq ?_ | refine i_sIf ?_ | refine i_sNil ?_ | refine i_sRet ?_ | refine i_sAsg ?_ | refine i_sDrop ?_ | refine i_sPut ?_ | refine i_sPar ?_ | refine i_eC ?_ | refine i_eOp ?_ | refine i_eChain ?_ | refine i_eB ?_ | refine i_eUn ?_ | refine i_eTup ?_ | refine i_eLst ?_ | refine i_eLstM ?_ | refine i_eAnd ?_ | refine i_eOr ?_ | refine i_eNot ?_ | refine i_eIf ?_ | refine i_bOf ?_ | refine i_bAnd ?_ | refine i_bOr ?_ | refine i_bNot ?_ | refine i_bYes ?_ | refine i_aNil ?_ | refine i_aCons ?_ | refine i_eCall ?_ | refine i_eCallKw ?_ | refine i_eCut ?_ | refine i_oNone ?_ | refine i_oSome ?_ | refine i_eM ?_ | refine i_sSq ?_ | refine i_sRange1 ?_ | refine i_sRange2 ?_ | refine i_sEnum ?_ | refine i_eIsi ?_ | refine i_eIsi2 ?_ | refine i_eLc ?_ | refine i_eLcM ?_ | refine i_sFor ?_ | refine i_eDisp1 ?_ | refine i_bl ?_ | refine i_int ?_ | refine i_nm ?_ | refine i_one ?_ | refine i_two ?_ | refine i_rng ?_ | refine i_len0 ?_ | refine i_int1 ?_ | refine i_intb ?_ | refine i_abs ?_ | refine i_add ?_ | refine i_sub ?_ | refine i_lt ?_ | refine i_le ?_ | refine i_gt ?_ | refine i_ge ?_ | refine i_eqi ?_ | refine i_is ?_ | refine i_isn ?_ | refine i_nes ?_ | refine i_rbl ?_ | refine i_eCallX ?_ | refine i_eCallKwX ?_ | refine i_sRaiseF ?_ | refine i_eIsX ?_ | refine i_eFld ?_ | refine i_eDit1 ?_ | refine i_sTry ?_ | refine i_runX ?_) | ((with_reducible refine i_eVarX ?_); refine ⟨_, rfl, ?_⟩) | ((with_reducible refine i_len1 ?_ ?_); · exact Nat.le_of_ble_eq_true rfl))
      refine isx_exc get kf.e_BadSquares kf.i_BadSquares_BadSquares ?_
      repeat (first | (with_reducible first | refine i_sSeq ?_ | refine i_sIf ?_ | refine i_sNil ?_ | refine i_sRet ?_ | refine i_sAsg ?_ | refine i_sDrop ?_ | refine i_sPut ?_ | refine i_sPar ?_ | refine i_eC ?_ | refine i_eOp ?_ | refine i_eChain ?_ | refine i_eB ?_ | refine i_eUn ?_ | refine i_eTup ?_ | refine i_eLst ?_ | refine i_eLstM ?_ | refine i_eAnd ?_ | refine i_eOr ?_ | refine i_eNot ?_ | refine i_eIf ?_ | refine i_bOf ?_ | refine i_bAnd ?_ | refine i_bOr ?_ | refine i_bNot ?_ | refine i_bYes ?_ | refine i_aNil ?_ | refine i_aCons ?_ | refine i_eCall ?_ | refine i_eCallKw ?_ | refine i_eCut ?_ | refine i_oNone ?_ | refine i_oSome ?_ | refine i_eM ?_ | refine i_sSq ?_ | refine i_sRange1 ?_ | refine i_sRange2 ?_ | refine i_sEnum ?_ | refine i_eIsi ?_ | refine i_eIsi2 ?_ | refine i_eLc ?_ | refine i_eLcM ?_ | refine i_sFor ?_ | refine i_eDisp1 ?_ | refine i_bl ?_ | refine i_int ?_ | refine i_nm ?_ | refine i_one ?_ | refine i_two ?_ | refine i_rng ?_ | refine i_len0 ?_ | refine i_int1 ?_ | refine i_intb ?_ | refine i_abs ?_ | refine i_add ?_ | refine i_sub ?_ | refine i_lt ?_ | refine i_le ?_ | refine i_gt ?_ | refine i_ge ?_ | refine i_eqi ?_ | refine i_is ?_ | refine i_isn ?_ | refine i_nes ?_ | refine i_rbl ?_ | refine i_eCallX ?_ | refine i_eCallKwX ?_ | refine i_sRaiseF ?_ | refine i_eIsX ?_ | refine i_eFld ?_ | refine i_eDit1 ?_ | refine i_sTry ?_ | refine i_runX ?_) | ((with_reducible refine i_eVarX ?_); refine ⟨_, rfl, ?_⟩) | ((with_reducible refine i_len1 ?_ ?_); · exact Nat.le_of_ble_eq_true rfl))
      refine iteT ?_
      repeat (first | (with_reducible first | refine i_sSeq ?_ | refine i_sIf ?_ | refine i_sNil ?_ | refine i_sRet ?_ | refine i_sAsg ?_ | refine i_sDrop ?_ | refine i_sPut ?_ | refine i_sPar ?_ | refine i_eC ?_ | refine i_eOp ?_ | refine i_eChain ?_ | refine i_eB ?_ | refine i_eUn ?_ | refine i_eTup ?_ | refine i_eLst ?_ | refine i_eLstM ?_ | refine i_eAnd ?_ | refine i_eOr ?_ | refine i_eNot ?_ | refine i_eIf ?_ | refine i_bOf ?_ | refine i_bAnd ?_ | refine i_bOr ?_ | refine i_bNot ?_ | refine i_bYes ?_ | refine i_aNil ?_ | refine i_aCons ?_ | refine i_eCall ?_ | refine i_eCallKw ?_ | refine i_eCut ?_ | refine i_oNone ?_ | refine i_oSome ?_ | refine i_eM ?_ | refine i_sSq ?_ | refine i_sRange1 ?_ | refine i_sRange2 ?_ | refine i_sEnum ?_ | refine i_eIsi ?_ | refine i_eIsi2 ?_ | refine i_eLc ?_ | refine i_eLcM ?_ | refine i_sFor ?_ | refine i_eDisp1 ?_ | refine i_bl ?_ | refine i_int ?_ | refine i_nm ?_ | refine i_one ?_ | refine i_two ?_ | refine i_rng ?_ | refine i_len0 ?_ | refine i_int1 ?_ | refine i_intb ?_ | refine i_abs ?_ | refine i_add ?_ | refine i_sub ?_ | refine i_lt ?_ | refine i_le ?_ | refine i_gt ?_ | refine i_ge ?_ | refine i_eqi ?_ | refine i_is ?_ | refine i_isn ?_ | refine i_nes ?_ | refine i_rbl ?_ | refine i_eCallX ?_ | refine i_eCallKwX ?_ | refine i_sRaiseF ?_ | refine i_eIsX ?_ | refine i_eFld ?_ | refine i_eDit1 ?_ | refine i_sTry ?_ | refine i_runX ?_) | ((with_reducible refine i_eVarX ?_); refine ⟨_, rfl, ?_⟩) | ((with_reducible refine i_len1 ?_ ?_); · exact Nat.le_of_ble_eq_true rfl))
      refine ⟨_, _, _, _, rfl, get, kf.f_BadSquares, kf.o_BadSquares_part, rfl, ?_⟩
      repeat (first | (with_reducible first | refine i_sSeq ?_ | refine i_sIf ?_ | refine i_sNil ?_ | refine i_sRet ?_ | refine i_sAsg ?_ | refine i_sDrop ?_ | refine i_sPut ?_ | refine i_sPar ?_ | refine i_eC ?_ | refine i_eOp ?_ | refine i_eChain ?_ | refine i_eB ?_ | refine i_eUn ?_ | refine i_eTup ?_ | refine i_eLst ?_ | refine i_eLstM ?_ | refine i_eAnd ?_ | refine i_eOr ?_ | refine i_eNot ?_ | refine i_eIf ?_ | refine i_bOf ?_ | refine i_bAnd ?_ | refine i_bOr ?_ | refine i_bNot ?_ | refine i_bYes ?_ | refine i_aNil ?_ | refine i_aCons ?_ | refine i_eCall ?_ | refine i_eCallKw ?_ | refine i_eCut ?_ | refine i_oNone ?_ | refine i_oSome ?_ | refine i_eM ?_ | refine i_sSq ?_ | refine i_sRange1 ?_ | refine i_sRange2 ?_ | refine i_sEnum ?_ | refine i_eIsi ?_ | refine i_eIsi2 ?_ | refine i_eLc ?_ | refine i_eLcM ?_ | refine i_sFor ?_ | refine i_eDisp1 ?_ | refine i_bl ?_ | refine i_int ?_ | refine i_nm ?_ | refine i_one ?_ | refine i_two ?_ | refine i_rng ?_ | refine i_len0 ?_ | refine i_int1 ?_ | refine i_intb ?_ | refine i_abs ?_ | refine i_add ?_ | refine i_sub ?_ | refine i_lt ?_ | refine i_le ?_ | refine i_gt ?_ | refine i_ge ?_ | refine i_eqi ?_ | refine i_is ?_ | refine i_isn ?_ | refine i_nes ?_ | refine i_rbl ?_ | refine i_eCallX ?_ | refine i_eCallKwX ?_ | refine i_sRaiseF ?_ | refine i_eIsX ?_ | refine i_eFld ?_ | refine i_eDit1 ?_ | refine i_sTry ?_ | refine i_runX ?_) | ((with_reducible refine i_eVarX ?_); refine ⟨_, rfl, ?_⟩) | ((with_reducible refine i_len1 ?_ ?_); · exact Nat.le_of_ble_eq_true rfl))
      exact q _
  · repeat (first | (with_reducible first | refine i_sSeq ?_ | refine i_sIf ?_ | refine i_sNil ?_ | refine i_sRet ?_ | refine i_sAsg ?_ | refine i_sDrop ?_ | refine i_sPut ?_ | refine i_sPar ?_ | refine i_eC ?_ | refine i_eOp ?_ | refine i_eChain ?_ | refine i_eB ?_ | refine i_eUn ?_ | refine i_eTup ?_ | refine i_eLst ?_ | refine i_eLstM ?_ | refine i_eAnd ?_ | refine i_eOr ?_ | refine i_eNot ?_ | refine i_eIf ?_ | refine i_bOf ?_ | refine i_bAnd ?_ | refine i_bOr ?_ | refine i_bNot ?_ | refine i_bYes ?_ | refine i_aNil ?_ | refine i_aCons ?_ | refine i_eCall ?_ | refine i_eCallKw ?_ | refine i_eCut ?_ | refine i_oNone ?_ | refine i_oSome ?_ | refine i_eM ?_ | refine i_sSq ?_ | refine i_sRange1 ?_ | refine i_sRange2 ?_ | refine i_sEnum ?_ | refine i_eIsi ?_ | refine i_eIsi2 ?_ | refine i_eLc ?_ | refine i_eLcM ?_ | refine i_sFor ?_ | refine i_eDisp1 ?_ | refine i_bl ?_ | refine i_int ?_ | refine i_nm ?_ | refine i_one ?_ | refine i_two ?_ | refine i_rng ?_ | refine i_len0 ?_ | refine i_int1 ?_ | refine i_intb ?_ | refine i_abs ?_ | refine i_add ?_ | refine i_sub ?_ | refine i_lt ?_ | refine i_le ?_ | refine i_gt ?_ | refine i_ge ?_ | refine i_eqi ?_ | refine i_is ?_ | refine i_isn ?_ | refine i_nes ?_ | refine i_rbl ?_ | refine i_eCallX ?_ | refine i_eCallKwX ?_ | refine i_sRaiseF ?_ | refine i_eIsX ?_ | refine i_eFld ?_ | refine i_eDit1 ?_ | refine i_sTry ?_ | refine i_runX ?_) | ((with_reducible refine i_eVarX ?_); refine ⟨_, rfl, ?_⟩) | ((with_reducible refine i_len1 ?_ ?_); · exact Nat.le_of_ble_eq_true rfl))
    refine isx_non kf.n_BadSquare ?_
    repeat (first | (with_reducible first | refine i_sSeq ?_ | refine i_sIf ?_ | refine i_sNil ?_ | refine i_sRet ?_ | refine i_sAsg ?_ | refine i_sDrop ?_ | refine i_sPut ?_ | refine i_sPar ?_ | refine i_eC ?_ | refine i_eOp ?_ | refine i_eChain ?_ | refine i_eB ?_ | refine i_eUn ?_ | refine i_eTup ?_ | refine i_eLst ?_ | refine i_eLstM ?_ | refine i_eAnd ?_ | refine i_eOr ?_ | refine i_eNot ?_ | refine i_eIf ?_ | refine i_bOf ?_ | refine i_bAnd ?_ | refine i_bOr ?_ | refine i_bNot ?_ | refine i_bYes ?_ | refine i_aNil ?_ | refine i_aCons ?_ | refine i_eCall ?_ | refine i_eCallKw ?_ | refine i_eCut ?_ | refine i_oNone ?_ | refine i_oSome ?_ | refine i_eM ?_ | refine i_sSq ?_ | refine i_sRange1 ?_ | refine i_sRange2 ?_ | refine i_sEnum ?_ | refine i_eIsi ?_ | refine i_eIsi2 ?_ | refine i_eLc ?_ | refine i_eLcM ?_ | refine i_sFor ?_ | refine i_eDisp1 ?_ | refine i_bl ?_ | refine i_int ?_ | refine i_nm ?_ | refine i_one ?_ | refine i_two ?_ | refine i_rng ?_ | refine i_len0 ?_ | refine i_int1 ?_ | refine i_intb ?_ | refine i_abs ?_ | refine i_add ?_ | refine i_sub ?_ | refine i_lt ?_ | refine i_le ?_ | refine i_gt ?_ | refine i_ge ?_ | refine i_eqi ?_ | refine i_is ?_ | refine i_isn ?_ | refine i_nes ?_ | refine i_rbl ?_ | refine i_eCallX ?_ | refine i_eCallKwX ?_ | refine i_sRaiseF ?_ | refine i_eIsX ?_ | refine i_eFld ?_ | refine i_eDit1 ?_ | refine i_sTry ?_ | refine i_runX ?_) | ((with_reducible refine i_eVarX ?_); refine ⟨_, rfl, ?_⟩) | ((with_reducible refine i_len1 ?_ ?_); · exact Nat.le_of_ble_eq_true rfl))
    refine iteF ?_
    repeat (first | (with_reducible first | refine i_sSeq ?_ | refine i_sIf ?_ | refine i_sNil ?_ | refine i_sRet ?_ | refine i_sAsg ?_ | refine i_sDrop ?_ | refine i_sPut ?_ | refine i_sPar ?_ | refine i_eC ?_ | refine i_eOp ?_ | refine i_eChain ?_ | refine i_eB ?_ | refine i_eUn ?_ | refine i_eTup ?_ | refine i_eLst ?_ | refine i_eLstM ?_ | refine i_eAnd ?_ | refine i_eOr ?_ | refine i_eNot ?_ | refine i_eIf ?_ | refine i_bOf ?_ | refine i_bAnd ?_ | refine i_bOr ?_ | refine i_bNot ?_ | refine i_bYes ?_ | refine i_aNil ?_ | refine i_aCons ?_ | refine i_eCall ?_ | refine i_eCallKw ?_ | refine i_eCut ?_ | refine i_oNone ?_ | refine i_oSome ?_ | refine i_eM ?_ | refine i_sSq ?_ | refine i_sRange1 ?_ | refine i_sRange2 ?_ | refine i_sEnum ?_ | refine i_eIsi ?_ | refine i_eIsi2 ?_ | refine i_eLc ?_ | refine i_eLcM ?_ | refine i_sFor ?_ | refine i_eDisp1 ?_ | refine i_bl ?_ | refine i_int ?_ | refine i_nm ?_ | refine i_one ?_ | refine i_two ?_ | refine i_rng ?_ | refine i_len0 ?_ | refine i_int1 ?_ | refine i_intb ?_ | refine i_abs ?_ | refine i_add ?_ | refine i_sub ?_ | refine i_lt ?_ | refine i_le ?_ | refine i_gt ?_ | refine i_ge ?_ | refine i_eqi ?_ | refine i_is ?_ | refine i_isn ?_ | refine i_nes ?_ | refine i_rbl ?_ | refine i_eCallX ?_ | refine i_eCallKwX ?_ | refine i_sRaiseF ?_ | refine i_eIsX ?_ | refine i_eFld ?_ | refine i_eDit1 ?_ | refine i_sTry ?_ | refine i_runX ?_) | ((with_reducible refine i_eVarX ?_); refine ⟨_, rfl, ?_⟩) | ((with_reducible refine i_len1 ?_ ?_); · exact Nat.le_of_ble_eq_true rfl))
    refine isx_non kf.n_BadSquares ?_
    repeat (first | (with_reducible first | refine i_sSeq ?_ | refine i_sIf ?_ | refine i_sNil ?_ | refine i_sRet ?_ | refine i_sAsg ?_ | refine i_sDrop ?_ | refine i_sPut ?_ | refine i_sPar ?_ | refine i_eC ?_ | refine i_eOp ?_ | refine i_eChain ?_ | refine i_eB ?_ | refine i_eUn ?_ | refine i_eTup ?_ | refine i_eLst ?_ | refine i_eLstM ?_ | refine i_eAnd ?_ | refine i_eOr ?_ | refine i_eNot ?_ | refine i_eIf ?_ | refine i_bOf ?_ | refine i_bAnd ?_ | refine i_bOr ?_ | refine i_bNot ?_ | refine i_bYes ?_ | refine i_aNil ?_ | refine i_aCons ?_ | refine i_eCall ?_ | refine i_eCallKw ?_ | refine i_eCut ?_ | refine i_oNone ?_ | refine i_oSome ?_ | refine i_eM ?_ | refine i_sSq ?_ | refine i_sRange1 ?_ | refine i_sRange2 ?_ | refine i_sEnum ?_ | refine i_eIsi ?_ | refine i_eIsi2 ?_ | refine i_eLc ?_ | refine i_eLcM ?_ | refine i_sFor ?_ | refine i_eDisp1 ?_ | refine i_bl ?_ | refine i_int ?_ | refine i_nm ?_ | refine i_one ?_ | refine i_two ?_ | refine i_rng ?_ | refine i_len0 ?_ | refine i_int1 ?_ | refine i_intb ?_ | refine i_abs ?_ | refine i_add ?_ | refine i_sub ?_ | refine i_lt ?_ | refine i_le ?_ | refine i_gt ?_ | refine i_ge ?_ | refine i_eqi ?_ | refine i_is ?_ | refine i_isn ?_ | refine i_nes ?_ | refine i_rbl ?_ | refine i_eCallX ?_ | refine i_eCallKwX ?_ | refine i_sRaiseF ?_ | refine i_eIsX ?_ | refine i_eFld ?_ | refine i_eDit1 ?_ | refine i_sTry ?_ | refine i_runX ?_) | ((with_reducible refine i_eVarX ?_); refine ⟨_, rfl, ?_⟩) | ((with_reducible refine i_len1 ?_ ?_); · exact Nat.le_of_ble_eq_true rfl))
    refine iteF ?_
    repeat (first | (with_reducible first | refine i_sSeq ?_ | refine i_sIf ?_ | refine i_sNil ?_ | refine i_sRet ?_ | refine i_sAsg ?_ | refine i_sDrop ?_ | refine i_sPut ?_ | refine i_sPar ?_ | refine i_eC ?_ | refine i_eOp ?_ | refine i_eChain ?_ | refine i_eB ?_ | refine i_eUn ?_ | refine i_eTup ?_ | refine i_eLst ?_ | refine i_eLstM ?_ | refine i_eAnd ?_ | refine i_eOr ?_ | refine i_eNot ?_ | refine i_eIf ?_ | refine i_bOf ?_ | refine i_bAnd ?_ | refine i_bOr ?_ | refine i_bNot ?_ | refine i_bYes ?_ | refine i_aNil ?_ | refine i_aCons ?_ | refine i_eCall ?_ | refine i_eCallKw ?_ | refine i_eCut ?_ | refine i_oNone ?_ | refine i_oSome ?_ | refine i_eM ?_ | refine i_sSq ?_ | refine i_sRange1 ?_ | refine i_sRange2 ?_ | refine i_sEnum ?_ | refine i_eIsi ?_ | refine i_eIsi2 ?_ | refine i_eLc ?_ | refine i_eLcM ?_ | refine i_sFor ?_ | refine i_eDisp1 ?_ | refine i_bl ?_ | refine i_int ?_ | refine i_nm ?_ | refine i_one ?_ | refine i_two ?_ | refine i_rng ?_ | refine i_len0 ?_ | refine i_int1 ?_ | refine i_intb ?_ | refine i_abs ?_ | refine i_add ?_ | refine i_sub ?_ | refine i_lt ?_ | refine i_le ?_ | refine i_gt ?_ | refine i_ge ?_ | refine i_eqi ?_ | refine i_is ?_ | refine i_isn ?_ | refine i_nes ?_ | refine i_rbl ?_ | refine i_eCallX ?_ | refine i_eCallKwX ?_ | refine i_sRaiseF ?_ | refine i_eIsX ?_ | refine i_eFld ?_ | refine i_eDit1 ?_ | refine i_sTry ?_ | refine i_runX ?_) | ((with_reducible refine i_eVarX ?_); refine ⟨_, rfl, ?_⟩) | ((with_reducible refine i_len1 ?_ ?_); · exact Nat.le_of_ble_eq_true rfl))
    refine iteT ?_
    repeat (first | (with_reducible first | refine i_sSeq ?_ | refine i_sIf ?_ | refine i_sNil ?_ | refine i_sRet ?_ | refine i_sAsg ?_ | refine i_sDrop ?_ | refine i_sPut ?_ | refine i_sPar ?_ | refine i_eC ?_ | refine i_eOp ?_ | refine i_eChain ?_ | refine i_eB ?_ | refine i_eUn ?_ | refine i_eTup ?_ | refine i_eLst ?_ | refine i_eLstM ?_ | refine i_eAnd ?_ | refine i_eOr ?_ | refine i_eNot ?_ | refine i_eIf ?_ | refine i_bOf ?_ | refine i_bAnd ?_ | refine i_bOr ?_ | refine i_bNot ?_ | refine i_bYes ?_ | refine i_aNil ?_ | refine i_aCons ?_ | refine i_eCall ?_ | refine i_eCallKw ?_ | refine i_eCut ?_ | refine i_oNone ?_ | refine i_oSome ?_ | refine i_eM ?_ | refine i_sSq ?_ | refine i_sRange1 ?_ | refine i_sRange2 ?_ | refine i_sEnum ?_ | refine i_eIsi ?_ | refine i_eIsi2 ?_ | refine i_eLc ?_ | refine i_eLcM ?_ | refine i_sFor ?_ | refine i_eDisp1 ?_ | refine i_bl ?_ | refine i_int ?_ | refine i_nm ?_ | refine i_one ?_ | refine i_two ?_ | refine i_rng ?_ | refine i_len0 ?_ | refine i_int1 ?_ | refine i_intb ?_ | refine i_abs ?_ | refine i_add ?_ | refine i_sub ?_ | refine i_lt ?_ | refine i_le ?_ | refine i_gt ?_ | refine i_ge ?_ | refine i_eqi ?_ | refine i_is ?_ | refine i_isn ?_ | refine i_nes ?_ | refine i_rbl ?_ | refine i_eCallX ?_ | refine i_eCallKwX ?_ | refine i_sRaiseF ?_ | refine i_eIsX ?_ | refine i_eFld ?_ | refine i_eDit1 ?_ | refine i_sTry ?_ | refine i_runX ?_) | ((with_reducible refine i_eVarX ?_); refine ⟨_, rfl, ?_⟩) | ((with_reducible refine i_len1 ?_ ?_); · exact Nat.le_of_ble_eq_true rfl))
    exact q

theorem cut_both {d : D} {zs : List D} {lo hi : Option Int} {S : Store} {Q : QD} (e : d = .lst zs ∨ d = .tup zs) (q : ∀ d', (d' = .lst (cutD zs lo hi) ∨ d' = .tup (cutD zs lo hi)) → Q d' S) : rCut d lo hi S Q := by
  rcases e with rfl | rfl
  · exact cut_lst rfl (q _ (.inl rfl))
  · exact cut_tup rfl (q _ (.inr rfl))
theorem list_both {d : D} {zs : List D} {S : Store} {Q : QD} (e : d = .lst zs ∨ d = .tup zs) (q : Q (.lst zs) S) : rList [d] S Q := by
  rcases e with rfl | rfl
  · exact ⟨zs, rfl, q⟩
  · exact ⟨zs, rfl, q⟩
theorem rev_both {d : D} {zs : List D} {S : Store} {Q : QD} (e : d = .lst zs ∨ d = .tup zs) (q : ∀ d', (d' = .lst zs.reverse ∨ d' = .tup zs.reverse) → Q d' S) : rRev d S Q := by
  rcases e with rfl | rfl
  · exact rev_lst rfl (q _ (.inl rfl))
  · exact rev_tup rfl (q _ (.inr rfl))
theorem cut_fr {l : List D} {i : Nat} (h : i ≤ l.length) : cutD l (some (i : Int)) none = l.drop i := by
  unfold cutD
  rw [HT.sIx_none, HT.sIx_nat, Nat.min_eq_left h, List.take_of_length_le (by rw [List.length_drop]; exact Nat.le_refl _)]
theorem add_lst {x y : D} {a b : List D} {S : Store} {Q : QD} (hx : drf S x = .lst a) (hy : drf S y = .lst b) (hl : a.length + b.length ≤ sizeLine) (q : Q (.lst (a ++ b)) S) : rAdd x y S Q := by
  unfold rAdd
  rw [hx, hy]
  exact ⟨hl, q⟩
theorem ne_ss {a b : Str} {S : Store} {Q : QD} (ha : PyData.strOk a = true) (hb : PyData.strOk b = true) (q : Q (.bl false) S) : rNe3 (.tup [.str a, .str b]) (.tup [.str a, .str b]) S Q := by
  have h : fl 60 (D.tup [.str a, .str b]) = true := by simp [fl, fls, ha, hb]
  refine ne_dat h h ?_
  have e : eqd (D.tup [.str a, .str b]) (.tup [.str a, .str b]) = true := by simp [eqd, pd, pds, PyData.eqv, PyData.eqvAll]
  show Q (.bl (!eqd (D.tup [.str a, .str b]) (.tup [.str a, .str b]))) S
  rw [e]
  exact q
/-- what is no list of unlike squares -/
def Bad (d : D) : Prop := (∀ S, Lot S d d) ∧ areSq d = false
theorem run_law {K : PySem.W.Frag} {cs : Cs} (kf : KF K cs) (xs : List D) (S : Store) (Q : QD) (h : r_law xs S Q) : runD 16 (b_law K cs) xs S Q := by
  obtain ⟨ns, rfl, rfl, hns, q⟩ := h
  refine i_runD ?_
  unfold b_law
  refine cut1 1 (fun d S' => ∃ o, Urn 0 o ∧ d = .ref 0 ∧ S' = [some o]) (fun N' hrt hnx => ?_) (fun d S' hP => ?_)
  · repeat (first | (with_reducible first | refine i_sIf ?_ | refine i_sNil ?_ | refine i_sRet ?_ | refine i_sAsg ?_ | refine i_sDrop ?_ | refine i_sPut ?_ | refine i_sPar ?_ | refine i_eC ?_ | refine i_eOp ?_ | refine i_eChain ?_ | refine i_eB ?_ | refine i_eUn ?_ | refine i_eTup ?_ | refine i_eLst ?_ | refine i_eLstM ?_ | refine i_eAnd ?_ | refine i_eOr ?_ | refine i_eNot ?_ | refine i_eIf ?_ | refine i_bOf ?_ | refine i_bAnd ?_ | refine i_bOr ?_ | refine i_bNot ?_ | refine i_bYes ?_ | refine i_aNil ?_ | refine i_aCons ?_ | refine i_eCall ?_ | refine i_eCallKw ?_ | refine i_eCut ?_ | refine i_oNone ?_ | refine i_oSome ?_ | refine i_eM ?_ | refine i_sSq ?_ | refine i_sRange1 ?_ | refine i_sRange2 ?_ | refine i_sEnum ?_ | refine i_eIsi ?_ | refine i_eIsi2 ?_ | refine i_eLc ?_ | refine i_eLcM ?_ | refine i_sFor ?_ | refine i_eDisp1 ?_ | refine i_bl ?_ | refine i_int ?_ | refine i_nm ?_ | refine i_one ?_ | refine i_two ?_ | refine i_rng ?_ | refine i_len0 ?_ | refine i_int1 ?_ | refine i_intb ?_ | refine i_abs ?_ | refine i_add ?_ | refine i_sub ?_ | refine i_lt ?_ | refine i_le ?_ | refine i_gt ?_ | refine i_ge ?_ | refine i_eqi ?_ | refine i_is ?_ | refine i_isn ?_ | refine i_nes ?_ | refine i_rbl ?_ | refine i_eCallX ?_ | refine i_eCallKwX ?_ | refine i_sRaiseF ?_ | refine i_eIsX ?_ | refine i_eFld ?_ | refine i_eDit1 ?_ | refine i_sTry ?_ | refine i_runX ?_) | ((with_reducible refine i_eVarX ?_); refine ⟨_, rfl, ?_⟩) | ((with_reducible refine i_len1 ?_ ?_); · exact Nat.le_of_ble_eq_true rfl))
    refine ⟨ns, rfl, rfl, hns, fun o u => ?_⟩
    repeat (first | (with_reducible first | refine i_sIf ?_ | refine i_sNil ?_ | refine i_sRet ?_ | refine i_sAsg ?_ | refine i_sDrop ?_ | refine i_sPut ?_ | refine i_sPar ?_ | refine i_eC ?_ | refine i_eOp ?_ | refine i_eChain ?_ | refine i_eB ?_ | refine i_eUn ?_ | refine i_eTup ?_ | refine i_eLst ?_ | refine i_eLstM ?_ | refine i_eAnd ?_ | refine i_eOr ?_ | refine i_eNot ?_ | refine i_eIf ?_ | refine i_bOf ?_ | refine i_bAnd ?_ | refine i_bOr ?_ | refine i_bNot ?_ | refine i_bYes ?_ | refine i_aNil ?_ | refine i_aCons ?_ | refine i_eCall ?_ | refine i_eCallKw ?_ | refine i_eCut ?_ | refine i_oNone ?_ | refine i_oSome ?_ | refine i_eM ?_ | refine i_sSq ?_ | refine i_sRange1 ?_ | refine i_sRange2 ?_ | refine i_sEnum ?_ | refine i_eIsi ?_ | refine i_eIsi2 ?_ | refine i_eLc ?_ | refine i_eLcM ?_ | refine i_sFor ?_ | refine i_eDisp1 ?_ | refine i_bl ?_ | refine i_int ?_ | refine i_nm ?_ | refine i_one ?_ | refine i_two ?_ | refine i_rng ?_ | refine i_len0 ?_ | refine i_int1 ?_ | refine i_intb ?_ | refine i_abs ?_ | refine i_add ?_ | refine i_sub ?_ | refine i_lt ?_ | refine i_le ?_ | refine i_gt ?_ | refine i_ge ?_ | refine i_eqi ?_ | refine i_is ?_ | refine i_isn ?_ | refine i_nes ?_ | refine i_rbl ?_ | refine i_eCallX ?_ | refine i_eCallKwX ?_ | refine i_sRaiseF ?_ | refine i_eIsX ?_ | refine i_eFld ?_ | refine i_eDit1 ?_ | refine i_sTry ?_ | refine i_runX ?_) | ((with_reducible refine i_eVarX ?_); refine ⟨_, rfl, ?_⟩) | ((with_reducible refine i_len1 ?_ ?_); · exact Nat.le_of_ble_eq_true rfl))
    exact hnx _ _ ⟨o, u, rfl, rfl⟩
  obtain ⟨o, u, rfl, rfl⟩ := hP
  refine cut (fun ρ' S' => True) (fun N' hrt hnx => ?_) (fun ρ' S' hP => ?_)
  rotate_left
  · have none_ : ∀ d : D, (d = .lst [] ∨ d = .tup []) → ∀ Q' : QD, Q' (.tup []) S' → r_squares_of cs [d] S' Q' NoX := by
      intro d e Q' q'
      have e1 : areSq d = true := by rcases e with rfl | rfl <;> decide
      have e2 : sqsOf d = [] := by rcases e with rfl | rfl <;> rfl
      refine ⟨d, rfl, d, d, "values", rfl, by decide, lot_of e (by decide) (fun z hz => (nomatch hz)), ⟨fun h => ?_, fun _ qs hp _ => ?_⟩⟩
      · rw [e1] at h
        cases h
      · rw [e2] at hp
        rw [hp.eq_nil]
        exact q'
    repeat (first | (with_reducible first | refine i_sIf ?_ | refine i_sNil ?_ | refine i_sRet ?_ | refine i_sAsg ?_ | refine i_sDrop ?_ | refine i_sPut ?_ | refine i_sPar ?_ | refine i_eC ?_ | refine i_eOp ?_ | refine i_eChain ?_ | refine i_eB ?_ | refine i_eUn ?_ | refine i_eTup ?_ | refine i_eLst ?_ | refine i_eLstM ?_ | refine i_eAnd ?_ | refine i_eOr ?_ | refine i_eNot ?_ | refine i_eIf ?_ | refine i_bOf ?_ | refine i_bAnd ?_ | refine i_bOr ?_ | refine i_bNot ?_ | refine i_bYes ?_ | refine i_aNil ?_ | refine i_aCons ?_ | refine i_eCall ?_ | refine i_eCallKw ?_ | refine i_eCut ?_ | refine i_oNone ?_ | refine i_oSome ?_ | refine i_eM ?_ | refine i_sSq ?_ | refine i_sRange1 ?_ | refine i_sRange2 ?_ | refine i_sEnum ?_ | refine i_eIsi ?_ | refine i_eIsi2 ?_ | refine i_eLc ?_ | refine i_eLcM ?_ | refine i_sFor ?_ | refine i_eDisp1 ?_ | refine i_bl ?_ | refine i_int ?_ | refine i_nm ?_ | refine i_one ?_ | refine i_two ?_ | refine i_rng ?_ | refine i_len0 ?_ | refine i_int1 ?_ | refine i_intb ?_ | refine i_abs ?_ | refine i_add ?_ | refine i_sub ?_ | refine i_lt ?_ | refine i_le ?_ | refine i_gt ?_ | refine i_ge ?_ | refine i_eqi ?_ | refine i_is ?_ | refine i_isn ?_ | refine i_nes ?_ | refine i_rbl ?_ | refine i_eCallX ?_ | refine i_eCallKwX ?_ | refine i_sRaiseF ?_ | refine i_eIsX ?_ | refine i_eFld ?_ | refine i_eDit1 ?_ | refine i_sTry ?_ | refine i_runX ?_) | ((with_reducible refine i_eVarX ?_); refine ⟨_, rfl, ?_⟩) | ((with_reducible refine i_len1 ?_ ?_); · exact Nat.le_of_ble_eq_true rfl))
    refine none_ _ (.inl rfl) _ ?_
    repeat (first | (with_reducible first | refine i_sIf ?_ | refine i_sNil ?_ | refine i_sRet ?_ | refine i_sAsg ?_ | refine i_sDrop ?_ | refine i_sPut ?_ | refine i_sPar ?_ | refine i_eC ?_ | refine i_eOp ?_ | refine i_eChain ?_ | refine i_eB ?_ | refine i_eUn ?_ | refine i_eTup ?_ | refine i_eLst ?_ | refine i_eLstM ?_ | refine i_eAnd ?_ | refine i_eOr ?_ | refine i_eNot ?_ | refine i_eIf ?_ | refine i_bOf ?_ | refine i_bAnd ?_ | refine i_bOr ?_ | refine i_bNot ?_ | refine i_bYes ?_ | refine i_aNil ?_ | refine i_aCons ?_ | refine i_eCall ?_ | refine i_eCallKw ?_ | refine i_eCut ?_ | refine i_oNone ?_ | refine i_oSome ?_ | refine i_eM ?_ | refine i_sSq ?_ | refine i_sRange1 ?_ | refine i_sRange2 ?_ | refine i_sEnum ?_ | refine i_eIsi ?_ | refine i_eIsi2 ?_ | refine i_eLc ?_ | refine i_eLcM ?_ | refine i_sFor ?_ | refine i_eDisp1 ?_ | refine i_bl ?_ | refine i_int ?_ | refine i_nm ?_ | refine i_one ?_ | refine i_two ?_ | refine i_rng ?_ | refine i_len0 ?_ | refine i_int1 ?_ | refine i_intb ?_ | refine i_abs ?_ | refine i_add ?_ | refine i_sub ?_ | refine i_lt ?_ | refine i_le ?_ | refine i_gt ?_ | refine i_ge ?_ | refine i_eqi ?_ | refine i_is ?_ | refine i_isn ?_ | refine i_nes ?_ | refine i_rbl ?_ | refine i_eCallX ?_ | refine i_eCallKwX ?_ | refine i_sRaiseF ?_ | refine i_eIsX ?_ | refine i_eFld ?_ | refine i_eDit1 ?_ | refine i_sTry ?_ | refine i_runX ?_) | ((with_reducible refine i_eVarX ?_); refine ⟨_, rfl, ?_⟩) | ((with_reducible refine i_len1 ?_ ?_); · exact Nat.le_of_ble_eq_true rfl))
    refine eq_dat rfl rfl ?_
    repeat (first | (with_reducible first | refine i_sIf ?_ | refine i_sNil ?_ | refine i_sRet ?_ | refine i_sAsg ?_ | refine i_sDrop ?_ | refine i_sPut ?_ | refine i_sPar ?_ | refine i_eC ?_ | refine i_eOp ?_ | refine i_eChain ?_ | refine i_eB ?_ | refine i_eUn ?_ | refine i_eTup ?_ | refine i_eLst ?_ | refine i_eLstM ?_ | refine i_eAnd ?_ | refine i_eOr ?_ | refine i_eNot ?_ | refine i_eIf ?_ | refine i_bOf ?_ | refine i_bAnd ?_ | refine i_bOr ?_ | refine i_bNot ?_ | refine i_bYes ?_ | refine i_aNil ?_ | refine i_aCons ?_ | refine i_eCall ?_ | refine i_eCallKw ?_ | refine i_eCut ?_ | refine i_oNone ?_ | refine i_oSome ?_ | refine i_eM ?_ | refine i_sSq ?_ | refine i_sRange1 ?_ | refine i_sRange2 ?_ | refine i_sEnum ?_ | refine i_eIsi ?_ | refine i_eIsi2 ?_ | refine i_eLc ?_ | refine i_eLcM ?_ | refine i_sFor ?_ | refine i_eDisp1 ?_ | refine i_bl ?_ | refine i_int ?_ | refine i_nm ?_ | refine i_one ?_ | refine i_two ?_ | refine i_rng ?_ | refine i_len0 ?_ | refine i_int1 ?_ | refine i_intb ?_ | refine i_abs ?_ | refine i_add ?_ | refine i_sub ?_ | refine i_lt ?_ | refine i_le ?_ | refine i_gt ?_ | refine i_ge ?_ | refine i_eqi ?_ | refine i_is ?_ | refine i_isn ?_ | refine i_nes ?_ | refine i_rbl ?_ | refine i_eCallX ?_ | refine i_eCallKwX ?_ | refine i_sRaiseF ?_ | refine i_eIsX ?_ | refine i_eFld ?_ | refine i_eDit1 ?_ | refine i_sTry ?_ | refine i_runX ?_) | ((with_reducible refine i_eVarX ?_); refine ⟨_, rfl, ?_⟩) | ((with_reducible refine i_len1 ?_ ?_); · exact Nat.le_of_ble_eq_true rfl))
    refine iteT ?_
    repeat (first | (with_reducible first | refine i_sIf ?_ | refine i_sNil ?_ | refine i_sRet ?_ | refine i_sAsg ?_ | refine i_sDrop ?_ | refine i_sPut ?_ | refine i_sPar ?_ | refine i_eC ?_ | refine i_eOp ?_ | refine i_eChain ?_ | refine i_eB ?_ | refine i_eUn ?_ | refine i_eTup ?_ | refine i_eLst ?_ | refine i_eLstM ?_ | refine i_eAnd ?_ | refine i_eOr ?_ | refine i_eNot ?_ | refine i_eIf ?_ | refine i_bOf ?_ | refine i_bAnd ?_ | refine i_bOr ?_ | refine i_bNot ?_ | refine i_bYes ?_ | refine i_aNil ?_ | refine i_aCons ?_ | refine i_eCall ?_ | refine i_eCallKw ?_ | refine i_eCut ?_ | refine i_oNone ?_ | refine i_oSome ?_ | refine i_eM ?_ | refine i_sSq ?_ | refine i_sRange1 ?_ | refine i_sRange2 ?_ | refine i_sEnum ?_ | refine i_eIsi ?_ | refine i_eIsi2 ?_ | refine i_eLc ?_ | refine i_eLcM ?_ | refine i_sFor ?_ | refine i_eDisp1 ?_ | refine i_bl ?_ | refine i_int ?_ | refine i_nm ?_ | refine i_one ?_ | refine i_two ?_ | refine i_rng ?_ | refine i_len0 ?_ | refine i_int1 ?_ | refine i_intb ?_ | refine i_abs ?_ | refine i_add ?_ | refine i_sub ?_ | refine i_lt ?_ | refine i_le ?_ | refine i_gt ?_ | refine i_ge ?_ | refine i_eqi ?_ | refine i_is ?_ | refine i_isn ?_ | refine i_nes ?_ | refine i_rbl ?_ | refine i_eCallX ?_ | refine i_eCallKwX ?_ | refine i_sRaiseF ?_ | refine i_eIsX ?_ | refine i_eFld ?_ | refine i_eDit1 ?_ | refine i_sTry ?_ | refine i_runX ?_) | ((with_reducible refine i_eVarX ?_); refine ⟨_, rfl, ?_⟩) | ((with_reducible refine i_len1 ?_ ?_); · exact Nat.le_of_ble_eq_true rfl))
    refine none_ _ (.inr rfl) _ ?_
    repeat (first | (with_reducible first | refine i_sIf ?_ | refine i_sNil ?_ | refine i_sRet ?_ | refine i_sAsg ?_ | refine i_sDrop ?_ | refine i_sPut ?_ | refine i_sPar ?_ | refine i_eC ?_ | refine i_eOp ?_ | refine i_eChain ?_ | refine i_eB ?_ | refine i_eUn ?_ | refine i_eTup ?_ | refine i_eLst ?_ | refine i_eLstM ?_ | refine i_eAnd ?_ | refine i_eOr ?_ | refine i_eNot ?_ | refine i_eIf ?_ | refine i_bOf ?_ | refine i_bAnd ?_ | refine i_bOr ?_ | refine i_bNot ?_ | refine i_bYes ?_ | refine i_aNil ?_ | refine i_aCons ?_ | refine i_eCall ?_ | refine i_eCallKw ?_ | refine i_eCut ?_ | refine i_oNone ?_ | refine i_oSome ?_ | refine i_eM ?_ | refine i_sSq ?_ | refine i_sRange1 ?_ | refine i_sRange2 ?_ | refine i_sEnum ?_ | refine i_eIsi ?_ | refine i_eIsi2 ?_ | refine i_eLc ?_ | refine i_eLcM ?_ | refine i_sFor ?_ | refine i_eDisp1 ?_ | refine i_bl ?_ | refine i_int ?_ | refine i_nm ?_ | refine i_one ?_ | refine i_two ?_ | refine i_rng ?_ | refine i_len0 ?_ | refine i_int1 ?_ | refine i_intb ?_ | refine i_abs ?_ | refine i_add ?_ | refine i_sub ?_ | refine i_lt ?_ | refine i_le ?_ | refine i_gt ?_ | refine i_ge ?_ | refine i_eqi ?_ | refine i_is ?_ | refine i_isn ?_ | refine i_nes ?_ | refine i_rbl ?_ | refine i_eCallX ?_ | refine i_eCallKwX ?_ | refine i_sRaiseF ?_ | refine i_eIsX ?_ | refine i_eFld ?_ | refine i_eDit1 ?_ | refine i_sTry ?_ | refine i_runX ?_) | ((with_reducible refine i_eVarX ?_); refine ⟨_, rfl, ?_⟩) | ((with_reducible refine i_len1 ?_ ?_); · exact Nat.le_of_ble_eq_true rfl))
    refine eq_dat rfl rfl ?_
    exact q _
  repeat (first | (with_reducible first | refine i_sIf ?_ | refine i_sNil ?_ | refine i_sRet ?_ | refine i_sAsg ?_ | refine i_sDrop ?_ | refine i_sPut ?_ | refine i_sPar ?_ | refine i_eC ?_ | refine i_eOp ?_ | refine i_eChain ?_ | refine i_eB ?_ | refine i_eUn ?_ | refine i_eTup ?_ | refine i_eLst ?_ | refine i_eLstM ?_ | refine i_eAnd ?_ | refine i_eOr ?_ | refine i_eNot ?_ | refine i_eIf ?_ | refine i_bOf ?_ | refine i_bAnd ?_ | refine i_bOr ?_ | refine i_bNot ?_ | refine i_bYes ?_ | refine i_aNil ?_ | refine i_aCons ?_ | refine i_eCall ?_ | refine i_eCallKw ?_ | refine i_eCut ?_ | refine i_oNone ?_ | refine i_oSome ?_ | refine i_eM ?_ | refine i_sSq ?_ | refine i_sRange1 ?_ | refine i_sRange2 ?_ | refine i_sEnum ?_ | refine i_eIsi ?_ | refine i_eIsi2 ?_ | refine i_eLc ?_ | refine i_eLcM ?_ | refine i_sFor ?_ | refine i_eDisp1 ?_ | refine i_bl ?_ | refine i_int ?_ | refine i_nm ?_ | refine i_one ?_ | refine i_two ?_ | refine i_rng ?_ | refine i_len0 ?_ | refine i_int1 ?_ | refine i_intb ?_ | refine i_abs ?_ | refine i_add ?_ | refine i_sub ?_ | refine i_lt ?_ | refine i_le ?_ | refine i_gt ?_ | refine i_ge ?_ | refine i_eqi ?_ | refine i_is ?_ | refine i_isn ?_ | refine i_nes ?_ | refine i_rbl ?_ | refine i_eCallX ?_ | refine i_eCallKwX ?_ | refine i_sRaiseF ?_ | refine i_eIsX ?_ | refine i_eFld ?_ | refine i_eDit1 ?_ | refine i_sTry ?_ | refine i_runX ?_) | ((with_reducible refine i_eVarX ?_); refine ⟨_, rfl, ?_⟩) | ((with_reducible refine i_len1 ?_ ?_); · exact Nat.le_of_ble_eq_true rfl))
  refine ⟨by decide, by decide, ⟨fun i ρ' S' => ∃ o T x0 x2 x3 x4 x5 x6 x7 x8 x9 x10 x11 x12 x13 x14 x15, Urn (2000 * i) o ∧ S' = some o :: T ∧ ρ' = [x0, some (.ref 0), x2, x3, x4, x5, x6, x7, x8, x9, x10, x11, x12, x13, x14, x15],
    ⟨o, [], _, _, _, _, _, _, _, _, _, _, _, _, _, _, _, u, rfl, rfl⟩, fun _ _ _ _ => trivial, ?_, fun ρ' S' _ => hnx _ _ trivial⟩⟩
  rintro i d ρ' S' hd ⟨o, T, x0, x2, x3, x4, x5, x6, x7, x8, x9, x10, x11, x12, x13, x14, x15, u, rfl, rfl⟩
  have hi : i < 3 := by
    have := (List.getElem?_eq_some_iff.mp hd).1
    rw [rangeD_len] at this
    exact this
  generalize hK : 2000 * i = K at u
  refine ⟨_, by unfold bindT; rfl, ?_⟩
  -- some
  refine cut1 3 (fun d3 S' => d3 = .ref (T.length + 1) ∧ S' = some o :: (T ++ [some (.lst [])])) (fun N' hrt hnx => ?_) (fun d3 S' hP => ?_)
  · repeat (first | (with_reducible first | refine i_sIf ?_ | refine i_sNil ?_ | refine i_sRet ?_ | refine i_sAsg ?_ | refine i_sDrop ?_ | refine i_sPut ?_ | refine i_sPar ?_ | refine i_eC ?_ | refine i_eOp ?_ | refine i_eChain ?_ | refine i_eB ?_ | refine i_eUn ?_ | refine i_eTup ?_ | refine i_eLst ?_ | refine i_eLstM ?_ | refine i_eAnd ?_ | refine i_eOr ?_ | refine i_eNot ?_ | refine i_eIf ?_ | refine i_bOf ?_ | refine i_bAnd ?_ | refine i_bOr ?_ | refine i_bNot ?_ | refine i_bYes ?_ | refine i_aNil ?_ | refine i_aCons ?_ | refine i_eCall ?_ | refine i_eCallKw ?_ | refine i_eCut ?_ | refine i_oNone ?_ | refine i_oSome ?_ | refine i_eM ?_ | refine i_sSq ?_ | refine i_sRange1 ?_ | refine i_sRange2 ?_ | refine i_sEnum ?_ | refine i_eIsi ?_ | refine i_eIsi2 ?_ | refine i_eLc ?_ | refine i_eLcM ?_ | refine i_sFor ?_ | refine i_eDisp1 ?_ | refine i_bl ?_ | refine i_int ?_ | refine i_nm ?_ | refine i_one ?_ | refine i_two ?_ | refine i_rng ?_ | refine i_len0 ?_ | refine i_int1 ?_ | refine i_intb ?_ | refine i_abs ?_ | refine i_add ?_ | refine i_sub ?_ | refine i_lt ?_ | refine i_le ?_ | refine i_gt ?_ | refine i_ge ?_ | refine i_eqi ?_ | refine i_is ?_ | refine i_isn ?_ | refine i_nes ?_ | refine i_rbl ?_ | refine i_eCallX ?_ | refine i_eCallKwX ?_ | refine i_sRaiseF ?_ | refine i_eIsX ?_ | refine i_eFld ?_ | refine i_eDit1 ?_ | refine i_sTry ?_ | refine i_runX ?_) | ((with_reducible refine i_eVarX ?_); refine ⟨_, rfl, ?_⟩) | ((with_reducible refine i_len1 ?_ ?_); · exact Nat.le_of_ble_eq_true rfl))
    exact hnx _ _ ⟨rfl, rfl⟩
  obtain ⟨rfl, rfl⟩ := hP
  have hget : ∀ (o : SO) (ds : List D) (E : Store), (some o :: (T ++ [some (SO.lst ds)] ++ E))[T.length + 1]? = some (some (.lst ds)) := fun o ds E => by
    rw [List.getElem?_cons_succ, List.append_assoc, List.getElem?_append_right (Nat.le_refl _), Nat.sub_self]
    rfl
  have hget0 : ∀ (o : SO) (ds : List D), (some o :: (T ++ [some (SO.lst ds)]))[T.length + 1]? = some (some (.lst ds)) := fun o ds => by
    have := hget o ds []
    rwa [List.append_nil] at this
  -- squares are drawn
  refine cut (fun ρ' S' => ∃ (o : SO) (ps : List (Int × Int)) (x4 x14 : Option D), Urn (K + 40) o ∧ ps.Nodup ∧ ps.length ≤ 7 ∧ (∀ p ∈ ps, Drawn p) ∧ S' = some o :: (T ++ [some (.lst (ps.map sqD))]) ∧ ρ' = [x0, some (.ref 0), some d, some (.ref (T.length + 1)), x4, x5, x6, x7, x8, x9, x10, x11, x12, x13, x14, x15]) (fun N' hrt hnx => ?_) (fun ρ' S' hP => ?_)
  · repeat (first | (with_reducible first | refine i_sIf ?_ | refine i_sNil ?_ | refine i_sRet ?_ | refine i_sAsg ?_ | refine i_sDrop ?_ | refine i_sPut ?_ | refine i_sPar ?_ | refine i_eC ?_ | refine i_eOp ?_ | refine i_eChain ?_ | refine i_eB ?_ | refine i_eUn ?_ | refine i_eTup ?_ | refine i_eLst ?_ | refine i_eLstM ?_ | refine i_eAnd ?_ | refine i_eOr ?_ | refine i_eNot ?_ | refine i_eIf ?_ | refine i_bOf ?_ | refine i_bAnd ?_ | refine i_bOr ?_ | refine i_bNot ?_ | refine i_bYes ?_ | refine i_aNil ?_ | refine i_aCons ?_ | refine i_eCall ?_ | refine i_eCallKw ?_ | refine i_eCut ?_ | refine i_oNone ?_ | refine i_oSome ?_ | refine i_eM ?_ | refine i_sSq ?_ | refine i_sRange1 ?_ | refine i_sRange2 ?_ | refine i_sEnum ?_ | refine i_eIsi ?_ | refine i_eIsi2 ?_ | refine i_eLc ?_ | refine i_eLcM ?_ | refine i_sFor ?_ | refine i_eDisp1 ?_ | refine i_bl ?_ | refine i_int ?_ | refine i_nm ?_ | refine i_one ?_ | refine i_two ?_ | refine i_rng ?_ | refine i_len0 ?_ | refine i_int1 ?_ | refine i_intb ?_ | refine i_abs ?_ | refine i_add ?_ | refine i_sub ?_ | refine i_lt ?_ | refine i_le ?_ | refine i_gt ?_ | refine i_ge ?_ | refine i_eqi ?_ | refine i_is ?_ | refine i_isn ?_ | refine i_nes ?_ | refine i_rbl ?_ | refine i_eCallX ?_ | refine i_eCallKwX ?_ | refine i_sRaiseF ?_ | refine i_eIsX ?_ | refine i_eFld ?_ | refine i_eDit1 ?_ | refine i_sTry ?_ | refine i_runX ?_) | ((with_reducible refine i_eVarX ?_); refine ⟨_, rfl, ?_⟩) | ((with_reducible refine i_len1 ?_ ?_); · exact Nat.le_of_ble_eq_true rfl))
    refine draw_of u (by omega) (by decide) (by decide) fun o1 n u1 n0 n1 => ?_
    repeat (first | (with_reducible first | refine i_sIf ?_ | refine i_sNil ?_ | refine i_sRet ?_ | refine i_sAsg ?_ | refine i_sDrop ?_ | refine i_sPut ?_ | refine i_sPar ?_ | refine i_eC ?_ | refine i_eOp ?_ | refine i_eChain ?_ | refine i_eB ?_ | refine i_eUn ?_ | refine i_eTup ?_ | refine i_eLst ?_ | refine i_eLstM ?_ | refine i_eAnd ?_ | refine i_eOr ?_ | refine i_eNot ?_ | refine i_eIf ?_ | refine i_bOf ?_ | refine i_bAnd ?_ | refine i_bOr ?_ | refine i_bNot ?_ | refine i_bYes ?_ | refine i_aNil ?_ | refine i_aCons ?_ | refine i_eCall ?_ | refine i_eCallKw ?_ | refine i_eCut ?_ | refine i_oNone ?_ | refine i_oSome ?_ | refine i_eM ?_ | refine i_sSq ?_ | refine i_sRange1 ?_ | refine i_sRange2 ?_ | refine i_sEnum ?_ | refine i_eIsi ?_ | refine i_eIsi2 ?_ | refine i_eLc ?_ | refine i_eLcM ?_ | refine i_sFor ?_ | refine i_eDisp1 ?_ | refine i_bl ?_ | refine i_int ?_ | refine i_nm ?_ | refine i_one ?_ | refine i_two ?_ | refine i_rng ?_ | refine i_len0 ?_ | refine i_int1 ?_ | refine i_intb ?_ | refine i_abs ?_ | refine i_add ?_ | refine i_sub ?_ | refine i_lt ?_ | refine i_le ?_ | refine i_gt ?_ | refine i_ge ?_ | refine i_eqi ?_ | refine i_is ?_ | refine i_isn ?_ | refine i_nes ?_ | refine i_rbl ?_ | refine i_eCallX ?_ | refine i_eCallKwX ?_ | refine i_sRaiseF ?_ | refine i_eIsX ?_ | refine i_eFld ?_ | refine i_eDit1 ?_ | refine i_sTry ?_ | refine i_runX ?_) | ((with_reducible refine i_eVarX ?_); refine ⟨_, rfl, ?_⟩) | ((with_reducible refine i_len1 ?_ ?_); · exact Nat.le_of_ble_eq_true rfl))
    refine ⟨by omega, by omega, fun j ρ' S' => ∃ (o : SO) (ps : List (Int × Int)) (x4 x14 : Option D), Urn (K + 1 + 3 * j) o ∧ ps.Nodup ∧ ps.length ≤ j ∧ (∀ p ∈ ps, Drawn p) ∧ S' = some o :: (T ++ [some (.lst (ps.map sqD))]) ∧ ρ' = [x0, some (.ref 0), some d, some (.ref (T.length + 1)), x4, x5, x6, x7, x8, x9, x10, x11, x12, x13, x14, x15],
      ⟨o1, [], _, _, u1, .nil, Nat.le_refl _, fun p h => (nomatch h), rfl, rfl⟩, fun _ _ _ _ => trivial, ?_, ?_⟩
    · rintro j e ρ' S' he ⟨o2, ps, y4, y14, u2, hn, hl, hdr, rfl, rfl⟩
      have hj : j < 7 := by
        have := (List.getElem?_eq_some_iff.mp he).1
        rw [rangeD_len] at this
        omega
      refine ⟨_, by unfold bindT; rfl, ?_⟩
      refine cut1 14 (fun d14 S' => ∃ o p, Urn (K + 1 + 3 * j + 3) o ∧ Drawn p ∧ d14 = sqD p ∧ S' = some o :: (T ++ [some (.lst (ps.map sqD))])) (fun N' hrt hnx => ?_) (fun d14 S' hP => ?_)
      · repeat (first | (with_reducible first | refine i_sIf ?_ | refine i_sNil ?_ | refine i_sRet ?_ | refine i_sAsg ?_ | refine i_sDrop ?_ | refine i_sPut ?_ | refine i_sPar ?_ | refine i_eC ?_ | refine i_eOp ?_ | refine i_eChain ?_ | refine i_eB ?_ | refine i_eUn ?_ | refine i_eTup ?_ | refine i_eLst ?_ | refine i_eLstM ?_ | refine i_eAnd ?_ | refine i_eOr ?_ | refine i_eNot ?_ | refine i_eIf ?_ | refine i_bOf ?_ | refine i_bAnd ?_ | refine i_bOr ?_ | refine i_bNot ?_ | refine i_bYes ?_ | refine i_aNil ?_ | refine i_aCons ?_ | refine i_eCall ?_ | refine i_eCallKw ?_ | refine i_eCut ?_ | refine i_oNone ?_ | refine i_oSome ?_ | refine i_eM ?_ | refine i_sSq ?_ | refine i_sRange1 ?_ | refine i_sRange2 ?_ | refine i_sEnum ?_ | refine i_eIsi ?_ | refine i_eIsi2 ?_ | refine i_eLc ?_ | refine i_eLcM ?_ | refine i_sFor ?_ | refine i_eDisp1 ?_ | refine i_bl ?_ | refine i_int ?_ | refine i_nm ?_ | refine i_one ?_ | refine i_two ?_ | refine i_rng ?_ | refine i_len0 ?_ | refine i_int1 ?_ | refine i_intb ?_ | refine i_abs ?_ | refine i_add ?_ | refine i_sub ?_ | refine i_lt ?_ | refine i_le ?_ | refine i_gt ?_ | refine i_ge ?_ | refine i_eqi ?_ | refine i_is ?_ | refine i_isn ?_ | refine i_nes ?_ | refine i_rbl ?_ | refine i_eCallX ?_ | refine i_eCallKwX ?_ | refine i_sRaiseF ?_ | refine i_eIsX ?_ | refine i_eFld ?_ | refine i_eDit1 ?_ | refine i_sTry ?_ | refine i_runX ?_) | ((with_reducible refine i_eVarX ?_); refine ⟨_, rfl, ?_⟩) | ((with_reducible refine i_len1 ?_ ?_); · exact Nat.le_of_ble_eq_true rfl))
        refine ⟨_, o2, _, rfl, rfl, u2, by omega, fun o3 p u3 hp => ?_⟩
        repeat (first | (with_reducible first | refine i_sIf ?_ | refine i_sNil ?_ | refine i_sRet ?_ | refine i_sAsg ?_ | refine i_sDrop ?_ | refine i_sPut ?_ | refine i_sPar ?_ | refine i_eC ?_ | refine i_eOp ?_ | refine i_eChain ?_ | refine i_eB ?_ | refine i_eUn ?_ | refine i_eTup ?_ | refine i_eLst ?_ | refine i_eLstM ?_ | refine i_eAnd ?_ | refine i_eOr ?_ | refine i_eNot ?_ | refine i_eIf ?_ | refine i_bOf ?_ | refine i_bAnd ?_ | refine i_bOr ?_ | refine i_bNot ?_ | refine i_bYes ?_ | refine i_aNil ?_ | refine i_aCons ?_ | refine i_eCall ?_ | refine i_eCallKw ?_ | refine i_eCut ?_ | refine i_oNone ?_ | refine i_oSome ?_ | refine i_eM ?_ | refine i_sSq ?_ | refine i_sRange1 ?_ | refine i_sRange2 ?_ | refine i_sEnum ?_ | refine i_eIsi ?_ | refine i_eIsi2 ?_ | refine i_eLc ?_ | refine i_eLcM ?_ | refine i_sFor ?_ | refine i_eDisp1 ?_ | refine i_bl ?_ | refine i_int ?_ | refine i_nm ?_ | refine i_one ?_ | refine i_two ?_ | refine i_rng ?_ | refine i_len0 ?_ | refine i_int1 ?_ | refine i_intb ?_ | refine i_abs ?_ | refine i_add ?_ | refine i_sub ?_ | refine i_lt ?_ | refine i_le ?_ | refine i_gt ?_ | refine i_ge ?_ | refine i_eqi ?_ | refine i_is ?_ | refine i_isn ?_ | refine i_nes ?_ | refine i_rbl ?_ | refine i_eCallX ?_ | refine i_eCallKwX ?_ | refine i_sRaiseF ?_ | refine i_eIsX ?_ | refine i_eFld ?_ | refine i_eDit1 ?_ | refine i_sTry ?_ | refine i_runX ?_) | ((with_reducible refine i_eVarX ?_); refine ⟨_, rfl, ?_⟩) | ((with_reducible refine i_len1 ?_ ?_); · exact Nat.le_of_ble_eq_true rfl))
        exact hnx _ _ ⟨o3, p, u3, hp, rfl, rfl⟩
      obtain ⟨o3, p, u3, hp, rfl, rfl⟩ := hP
      have u3' : Urn (K + 1 + 3 * (j + 1)) o3 := u3.mono (by omega)
      repeat (first | (with_reducible first | refine i_sIf ?_ | refine i_sNil ?_ | refine i_sRet ?_ | refine i_sAsg ?_ | refine i_sDrop ?_ | refine i_sPut ?_ | refine i_sPar ?_ | refine i_eC ?_ | refine i_eOp ?_ | refine i_eChain ?_ | refine i_eB ?_ | refine i_eUn ?_ | refine i_eTup ?_ | refine i_eLst ?_ | refine i_eLstM ?_ | refine i_eAnd ?_ | refine i_eOr ?_ | refine i_eNot ?_ | refine i_eIf ?_ | refine i_bOf ?_ | refine i_bAnd ?_ | refine i_bOr ?_ | refine i_bNot ?_ | refine i_bYes ?_ | refine i_aNil ?_ | refine i_aCons ?_ | refine i_eCall ?_ | refine i_eCallKw ?_ | refine i_eCut ?_ | refine i_oNone ?_ | refine i_oSome ?_ | refine i_eM ?_ | refine i_sSq ?_ | refine i_sRange1 ?_ | refine i_sRange2 ?_ | refine i_sEnum ?_ | refine i_eIsi ?_ | refine i_eIsi2 ?_ | refine i_eLc ?_ | refine i_eLcM ?_ | refine i_sFor ?_ | refine i_eDisp1 ?_ | refine i_bl ?_ | refine i_int ?_ | refine i_nm ?_ | refine i_one ?_ | refine i_two ?_ | refine i_rng ?_ | refine i_len0 ?_ | refine i_int1 ?_ | refine i_intb ?_ | refine i_abs ?_ | refine i_add ?_ | refine i_sub ?_ | refine i_lt ?_ | refine i_le ?_ | refine i_gt ?_ | refine i_ge ?_ | refine i_eqi ?_ | refine i_is ?_ | refine i_isn ?_ | refine i_nes ?_ | refine i_rbl ?_ | refine i_eCallX ?_ | refine i_eCallKwX ?_ | refine i_sRaiseF ?_ | refine i_eIsX ?_ | refine i_eFld ?_ | refine i_eDit1 ?_ | refine i_sTry ?_ | refine i_runX ?_) | ((with_reducible refine i_eVarX ?_); refine ⟨_, rfl, ?_⟩) | ((with_reducible refine i_len1 ?_ ?_); · exact Nat.le_of_ble_eq_true rfl))
      refine ni_sq (ps := ps) (by rw [drf_ref (hget0 _ _)]; rfl) ?_
      repeat (first | (with_reducible first | refine i_sIf ?_ | refine i_sNil ?_ | refine i_sRet ?_ | refine i_sAsg ?_ | refine i_sDrop ?_ | refine i_sPut ?_ | refine i_sPar ?_ | refine i_eC ?_ | refine i_eOp ?_ | refine i_eChain ?_ | refine i_eB ?_ | refine i_eUn ?_ | refine i_eTup ?_ | refine i_eLst ?_ | refine i_eLstM ?_ | refine i_eAnd ?_ | refine i_eOr ?_ | refine i_eNot ?_ | refine i_eIf ?_ | refine i_bOf ?_ | refine i_bAnd ?_ | refine i_bOr ?_ | refine i_bNot ?_ | refine i_bYes ?_ | refine i_aNil ?_ | refine i_aCons ?_ | refine i_eCall ?_ | refine i_eCallKw ?_ | refine i_eCut ?_ | refine i_oNone ?_ | refine i_oSome ?_ | refine i_eM ?_ | refine i_sSq ?_ | refine i_sRange1 ?_ | refine i_sRange2 ?_ | refine i_sEnum ?_ | refine i_eIsi ?_ | refine i_eIsi2 ?_ | refine i_eLc ?_ | refine i_eLcM ?_ | refine i_sFor ?_ | refine i_eDisp1 ?_ | refine i_bl ?_ | refine i_int ?_ | refine i_nm ?_ | refine i_one ?_ | refine i_two ?_ | refine i_rng ?_ | refine i_len0 ?_ | refine i_int1 ?_ | refine i_intb ?_ | refine i_abs ?_ | refine i_add ?_ | refine i_sub ?_ | refine i_lt ?_ | refine i_le ?_ | refine i_gt ?_ | refine i_ge ?_ | refine i_eqi ?_ | refine i_is ?_ | refine i_isn ?_ | refine i_nes ?_ | refine i_rbl ?_ | refine i_eCallX ?_ | refine i_eCallKwX ?_ | refine i_sRaiseF ?_ | refine i_eIsX ?_ | refine i_eFld ?_ | refine i_eDit1 ?_ | refine i_sTry ?_ | refine i_runX ?_) | ((with_reducible refine i_eVarX ?_); refine ⟨_, rfl, ?_⟩) | ((with_reducible refine i_len1 ?_ ?_); · exact Nat.le_of_ble_eq_true rfl))
      refine ite_by (fun h => ?_) (fun h => ?_)
      · have hni : p ∉ ps := by simpa using h
        repeat (first | (with_reducible first | refine i_sIf ?_ | refine i_sNil ?_ | refine i_sRet ?_ | refine i_sAsg ?_ | refine i_sDrop ?_ | refine i_sPut ?_ | refine i_sPar ?_ | refine i_eC ?_ | refine i_eOp ?_ | refine i_eChain ?_ | refine i_eB ?_ | refine i_eUn ?_ | refine i_eTup ?_ | refine i_eLst ?_ | refine i_eLstM ?_ | refine i_eAnd ?_ | refine i_eOr ?_ | refine i_eNot ?_ | refine i_eIf ?_ | refine i_bOf ?_ | refine i_bAnd ?_ | refine i_bOr ?_ | refine i_bNot ?_ | refine i_bYes ?_ | refine i_aNil ?_ | refine i_aCons ?_ | refine i_eCall ?_ | refine i_eCallKw ?_ | refine i_eCut ?_ | refine i_oNone ?_ | refine i_oSome ?_ | refine i_eM ?_ | refine i_sSq ?_ | refine i_sRange1 ?_ | refine i_sRange2 ?_ | refine i_sEnum ?_ | refine i_eIsi ?_ | refine i_eIsi2 ?_ | refine i_eLc ?_ | refine i_eLcM ?_ | refine i_sFor ?_ | refine i_eDisp1 ?_ | refine i_bl ?_ | refine i_int ?_ | refine i_nm ?_ | refine i_one ?_ | refine i_two ?_ | refine i_rng ?_ | refine i_len0 ?_ | refine i_int1 ?_ | refine i_intb ?_ | refine i_abs ?_ | refine i_add ?_ | refine i_sub ?_ | refine i_lt ?_ | refine i_le ?_ | refine i_gt ?_ | refine i_ge ?_ | refine i_eqi ?_ | refine i_is ?_ | refine i_isn ?_ | refine i_nes ?_ | refine i_rbl ?_ | refine i_eCallX ?_ | refine i_eCallKwX ?_ | refine i_sRaiseF ?_ | refine i_eIsX ?_ | refine i_eFld ?_ | refine i_eDit1 ?_ | refine i_sTry ?_ | refine i_runX ?_) | ((with_reducible refine i_eVarX ?_); refine ⟨_, rfl, ?_⟩) | ((with_reducible refine i_len1 ?_ ?_); · exact Nat.le_of_ble_eq_true rfl))
        refine ⟨by rw [drf_ref (hget0 _ _)]; trivial, ?_⟩
        repeat (first | (with_reducible first | refine i_sIf ?_ | refine i_sNil ?_ | refine i_sRet ?_ | refine i_sAsg ?_ | refine i_sDrop ?_ | refine i_sPut ?_ | refine i_sPar ?_ | refine i_eC ?_ | refine i_eOp ?_ | refine i_eChain ?_ | refine i_eB ?_ | refine i_eUn ?_ | refine i_eTup ?_ | refine i_eLst ?_ | refine i_eLstM ?_ | refine i_eAnd ?_ | refine i_eOr ?_ | refine i_eNot ?_ | refine i_eIf ?_ | refine i_bOf ?_ | refine i_bAnd ?_ | refine i_bOr ?_ | refine i_bNot ?_ | refine i_bYes ?_ | refine i_aNil ?_ | refine i_aCons ?_ | refine i_eCall ?_ | refine i_eCallKw ?_ | refine i_eCut ?_ | refine i_oNone ?_ | refine i_oSome ?_ | refine i_eM ?_ | refine i_sSq ?_ | refine i_sRange1 ?_ | refine i_sRange2 ?_ | refine i_sEnum ?_ | refine i_eIsi ?_ | refine i_eIsi2 ?_ | refine i_eLc ?_ | refine i_eLcM ?_ | refine i_sFor ?_ | refine i_eDisp1 ?_ | refine i_bl ?_ | refine i_int ?_ | refine i_nm ?_ | refine i_one ?_ | refine i_two ?_ | refine i_rng ?_ | refine i_len0 ?_ | refine i_int1 ?_ | refine i_intb ?_ | refine i_abs ?_ | refine i_add ?_ | refine i_sub ?_ | refine i_lt ?_ | refine i_le ?_ | refine i_gt ?_ | refine i_ge ?_ | refine i_eqi ?_ | refine i_is ?_ | refine i_isn ?_ | refine i_nes ?_ | refine i_rbl ?_ | refine i_eCallX ?_ | refine i_eCallKwX ?_ | refine i_sRaiseF ?_ | refine i_eIsX ?_ | refine i_eFld ?_ | refine i_eDit1 ?_ | refine i_sTry ?_ | refine i_runX ?_) | ((with_reducible refine i_eVarX ?_); refine ⟨_, rfl, ?_⟩) | ((with_reducible refine i_len1 ?_ ?_); · exact Nat.le_of_ble_eq_true rfl))
        refine ⟨T.length + 1, ps.map sqD, sqD p, rfl, rfl, hget0 _ _, ?_, ?_⟩
        · rw [List.length_map]
          exact Nat.lt_of_le_of_lt hl (Nat.lt_of_lt_of_le hj (by decide))
        refine ⟨o3, ps ++ [p], _, _, u3', ?_, ?_, ?_, ?_, rfl⟩
        · rw [List.nodup_append]
          exact ⟨hn, by simp, fun a ha b hb e => hni (by rw [← List.mem_singleton.mp hb, ← e]; exact ha)⟩
        · simp
          omega
        · intro z hz
          rcases List.mem_append.mp hz with z1 | z1
          · exact hdr z z1
          · rw [List.mem_singleton.mp z1]
            exact hp
        · rw [List.set_cons_succ, List.set_append_right _ _ (Nat.le_refl _), Nat.sub_self, List.map_append]
          rfl
      · repeat (first | (with_reducible first | refine i_sIf ?_ | refine i_sNil ?_ | refine i_sRet ?_ | refine i_sAsg ?_ | refine i_sDrop ?_ | refine i_sPut ?_ | refine i_sPar ?_ | refine i_eC ?_ | refine i_eOp ?_ | refine i_eChain ?_ | refine i_eB ?_ | refine i_eUn ?_ | refine i_eTup ?_ | refine i_eLst ?_ | refine i_eLstM ?_ | refine i_eAnd ?_ | refine i_eOr ?_ | refine i_eNot ?_ | refine i_eIf ?_ | refine i_bOf ?_ | refine i_bAnd ?_ | refine i_bOr ?_ | refine i_bNot ?_ | refine i_bYes ?_ | refine i_aNil ?_ | refine i_aCons ?_ | refine i_eCall ?_ | refine i_eCallKw ?_ | refine i_eCut ?_ | refine i_oNone ?_ | refine i_oSome ?_ | refine i_eM ?_ | refine i_sSq ?_ | refine i_sRange1 ?_ | refine i_sRange2 ?_ | refine i_sEnum ?_ | refine i_eIsi ?_ | refine i_eIsi2 ?_ | refine i_eLc ?_ | refine i_eLcM ?_ | refine i_sFor ?_ | refine i_eDisp1 ?_ | refine i_bl ?_ | refine i_int ?_ | refine i_nm ?_ | refine i_one ?_ | refine i_two ?_ | refine i_rng ?_ | refine i_len0 ?_ | refine i_int1 ?_ | refine i_intb ?_ | refine i_abs ?_ | refine i_add ?_ | refine i_sub ?_ | refine i_lt ?_ | refine i_le ?_ | refine i_gt ?_ | refine i_ge ?_ | refine i_eqi ?_ | refine i_is ?_ | refine i_isn ?_ | refine i_nes ?_ | refine i_rbl ?_ | refine i_eCallX ?_ | refine i_eCallKwX ?_ | refine i_sRaiseF ?_ | refine i_eIsX ?_ | refine i_eFld ?_ | refine i_eDit1 ?_ | refine i_sTry ?_ | refine i_runX ?_) | ((with_reducible refine i_eVarX ?_); refine ⟨_, rfl, ?_⟩) | ((with_reducible refine i_len1 ?_ ?_); · exact Nat.le_of_ble_eq_true rfl))
        exact ⟨o3, ps, _, _, u3', hn, by omega, hdr, rfl, rfl⟩
    · rintro ρ' S' ⟨o2, ps, y4, y14, u2, hn, hl, hdr, rfl, rfl⟩
      rw [rangeD_len] at u2 hl
      exact hnx _ _ ⟨o2, ps, y4, y14, u2.mono (by omega), hn, by omega, hdr, rfl, rfl⟩
  clear u
  obtain ⟨o, ps, x4, x14, u, hn, hl, hdr, rfl, rfl⟩ := hP
  have hsm : ∀ p ∈ ps, SmlP p := fun p hp => (hdr p hp).sml
  -- passed
  refine cut1 5 (fun d5 S' => ∃ o zs, Urn (K + 47) o ∧ zs.map sqOf = ps ∧ (∀ z ∈ zs, SqV z) ∧ d5 = .lst zs ∧ S' = some o :: (T ++ [some (.lst (ps.map sqD))])) (fun N' hrt hnx => ?_) (fun d5 S' hP => ?_)
  · repeat (first | (with_reducible first | refine i_sIf ?_ | refine i_sNil ?_ | refine i_sRet ?_ | refine i_sAsg ?_ | refine i_sDrop ?_ | refine i_sPut ?_ | refine i_sPar ?_ | refine i_eC ?_ | refine i_eOp ?_ | refine i_eChain ?_ | refine i_eB ?_ | refine i_eUn ?_ | refine i_eTup ?_ | refine i_eLst ?_ | refine i_eLstM ?_ | refine i_eAnd ?_ | refine i_eOr ?_ | refine i_eNot ?_ | refine i_eIf ?_ | refine i_bOf ?_ | refine i_bAnd ?_ | refine i_bOr ?_ | refine i_bNot ?_ | refine i_bYes ?_ | refine i_aNil ?_ | refine i_aCons ?_ | refine i_eCall ?_ | refine i_eCallKw ?_ | refine i_eCut ?_ | refine i_oNone ?_ | refine i_oSome ?_ | refine i_eM ?_ | refine i_sSq ?_ | refine i_sRange1 ?_ | refine i_sRange2 ?_ | refine i_sEnum ?_ | refine i_eIsi ?_ | refine i_eIsi2 ?_ | refine i_eLc ?_ | refine i_eLcM ?_ | refine i_sFor ?_ | refine i_eDisp1 ?_ | refine i_bl ?_ | refine i_int ?_ | refine i_nm ?_ | refine i_one ?_ | refine i_two ?_ | refine i_rng ?_ | refine i_len0 ?_ | refine i_int1 ?_ | refine i_intb ?_ | refine i_abs ?_ | refine i_add ?_ | refine i_sub ?_ | refine i_lt ?_ | refine i_le ?_ | refine i_gt ?_ | refine i_ge ?_ | refine i_eqi ?_ | refine i_is ?_ | refine i_isn ?_ | refine i_nes ?_ | refine i_rbl ?_ | refine i_eCallX ?_ | refine i_eCallKwX ?_ | refine i_sRaiseF ?_ | refine i_eIsX ?_ | refine i_eFld ?_ | refine i_eDit1 ?_ | refine i_sTry ?_ | refine i_runX ?_) | ((with_reducible refine i_eVarX ?_); refine ⟨_, rfl, ?_⟩) | ((with_reducible refine i_len1 ?_ ?_); · exact Nat.le_of_ble_eq_true rfl))
    refine ⟨ps.map sqD, by rw [drf_ref (hget0 _ _)]; rfl, fun j acc S' => ∃ o, Urn (K + 40 + j) o ∧ acc.map sqOf = ps.take j ∧ (∀ z ∈ acc, SqV z) ∧ S' = some o :: (T ++ [some (.lst (ps.map sqD))]), ⟨o, u, rfl, fun z h => (nomatch h), rfl⟩,
      fun j acc S' ⟨o', _, _, _, e⟩ => by rw [e]; exact (drf_ref (hget0 _ _)).trans (drf_ref (hget0 _ _)).symm, by rw [List.length_map]; exact Nat.le_trans hl (by decide), ?_, ?_⟩
    · rintro j e acc S' he ⟨o2, u2, hm, hv, rfl⟩
      rw [List.getElem?_map] at he
      obtain ⟨p, hp, rfl⟩ := Option.map_eq_some_iff.mp he
      have hj : j < ps.length := (List.getElem?_eq_some_iff.mp hp).1
      have tk : ps.take (j + 1) = ps.take j ++ [p] := by rw [List.take_add_one, hp]; rfl
      have hpm := hsm p (List.mem_of_getElem? hp)
      refine ⟨_, by unfold bindT; rfl, i_bYes (iteT ?_)⟩
      repeat (first | (with_reducible first | refine i_sIf ?_ | refine i_sNil ?_ | refine i_sRet ?_ | refine i_sAsg ?_ | refine i_sDrop ?_ | refine i_sPut ?_ | refine i_sPar ?_ | refine i_eC ?_ | refine i_eOp ?_ | refine i_eChain ?_ | refine i_eB ?_ | refine i_eUn ?_ | refine i_eTup ?_ | refine i_eLst ?_ | refine i_eLstM ?_ | refine i_eAnd ?_ | refine i_eOr ?_ | refine i_eNot ?_ | refine i_eIf ?_ | refine i_bOf ?_ | refine i_bAnd ?_ | refine i_bOr ?_ | refine i_bNot ?_ | refine i_bYes ?_ | refine i_aNil ?_ | refine i_aCons ?_ | refine i_eCall ?_ | refine i_eCallKw ?_ | refine i_eCut ?_ | refine i_oNone ?_ | refine i_oSome ?_ | refine i_eM ?_ | refine i_sSq ?_ | refine i_sRange1 ?_ | refine i_sRange2 ?_ | refine i_sEnum ?_ | refine i_eIsi ?_ | refine i_eIsi2 ?_ | refine i_eLc ?_ | refine i_eLcM ?_ | refine i_sFor ?_ | refine i_eDisp1 ?_ | refine i_bl ?_ | refine i_int ?_ | refine i_nm ?_ | refine i_one ?_ | refine i_two ?_ | refine i_rng ?_ | refine i_len0 ?_ | refine i_int1 ?_ | refine i_intb ?_ | refine i_abs ?_ | refine i_add ?_ | refine i_sub ?_ | refine i_lt ?_ | refine i_le ?_ | refine i_gt ?_ | refine i_ge ?_ | refine i_eqi ?_ | refine i_is ?_ | refine i_isn ?_ | refine i_nes ?_ | refine i_rbl ?_ | refine i_eCallX ?_ | refine i_eCallKwX ?_ | refine i_sRaiseF ?_ | refine i_eIsX ?_ | refine i_eFld ?_ | refine i_eDit1 ?_ | refine i_sTry ?_ | refine i_runX ?_) | ((with_reducible refine i_eVarX ?_); refine ⟨_, rfl, ?_⟩) | ((with_reducible refine i_len1 ?_ ?_); · exact Nat.le_of_ble_eq_true rfl))
      refine draw_of u2 (by omega) (by decide) (by decide) fun o3 n u3 n0 n1 => ?_
      repeat (first | (with_reducible first | refine i_sIf ?_ | refine i_sNil ?_ | refine i_sRet ?_ | refine i_sAsg ?_ | refine i_sDrop ?_ | refine i_sPut ?_ | refine i_sPar ?_ | refine i_eC ?_ | refine i_eOp ?_ | refine i_eChain ?_ | refine i_eB ?_ | refine i_eUn ?_ | refine i_eTup ?_ | refine i_eLst ?_ | refine i_eLstM ?_ | refine i_eAnd ?_ | refine i_eOr ?_ | refine i_eNot ?_ | refine i_eIf ?_ | refine i_bOf ?_ | refine i_bAnd ?_ | refine i_bOr ?_ | refine i_bNot ?_ | refine i_bYes ?_ | refine i_aNil ?_ | refine i_aCons ?_ | refine i_eCall ?_ | refine i_eCallKw ?_ | refine i_eCut ?_ | refine i_oNone ?_ | refine i_oSome ?_ | refine i_eM ?_ | refine i_sSq ?_ | refine i_sRange1 ?_ | refine i_sRange2 ?_ | refine i_sEnum ?_ | refine i_eIsi ?_ | refine i_eIsi2 ?_ | refine i_eLc ?_ | refine i_eLcM ?_ | refine i_sFor ?_ | refine i_eDisp1 ?_ | refine i_bl ?_ | refine i_int ?_ | refine i_nm ?_ | refine i_one ?_ | refine i_two ?_ | refine i_rng ?_ | refine i_len0 ?_ | refine i_int1 ?_ | refine i_intb ?_ | refine i_abs ?_ | refine i_add ?_ | refine i_sub ?_ | refine i_lt ?_ | refine i_le ?_ | refine i_gt ?_ | refine i_ge ?_ | refine i_eqi ?_ | refine i_is ?_ | refine i_isn ?_ | refine i_nes ?_ | refine i_rbl ?_ | refine i_eCallX ?_ | refine i_eCallKwX ?_ | refine i_sRaiseF ?_ | refine i_eIsX ?_ | refine i_eFld ?_ | refine i_eDit1 ?_ | refine i_sTry ?_ | refine i_runX ?_) | ((with_reducible refine i_eVarX ?_); refine ⟨_, rfl, ?_⟩) | ((with_reducible refine i_len1 ?_ ?_); · exact Nat.le_of_ble_eq_true rfl))
      refine ite_by (fun h => ?_) (fun h => ?_)
      · repeat (first | (with_reducible first | refine i_sIf ?_ | refine i_sNil ?_ | refine i_sRet ?_ | refine i_sAsg ?_ | refine i_sDrop ?_ | refine i_sPut ?_ | refine i_sPar ?_ | refine i_eC ?_ | refine i_eOp ?_ | refine i_eChain ?_ | refine i_eB ?_ | refine i_eUn ?_ | refine i_eTup ?_ | refine i_eLst ?_ | refine i_eLstM ?_ | refine i_eAnd ?_ | refine i_eOr ?_ | refine i_eNot ?_ | refine i_eIf ?_ | refine i_bOf ?_ | refine i_bAnd ?_ | refine i_bOr ?_ | refine i_bNot ?_ | refine i_bYes ?_ | refine i_aNil ?_ | refine i_aCons ?_ | refine i_eCall ?_ | refine i_eCallKw ?_ | refine i_eCut ?_ | refine i_oNone ?_ | refine i_oSome ?_ | refine i_eM ?_ | refine i_sSq ?_ | refine i_sRange1 ?_ | refine i_sRange2 ?_ | refine i_sEnum ?_ | refine i_eIsi ?_ | refine i_eIsi2 ?_ | refine i_eLc ?_ | refine i_eLcM ?_ | refine i_sFor ?_ | refine i_eDisp1 ?_ | refine i_bl ?_ | refine i_int ?_ | refine i_nm ?_ | refine i_one ?_ | refine i_two ?_ | refine i_rng ?_ | refine i_len0 ?_ | refine i_int1 ?_ | refine i_intb ?_ | refine i_abs ?_ | refine i_add ?_ | refine i_sub ?_ | refine i_lt ?_ | refine i_le ?_ | refine i_gt ?_ | refine i_ge ?_ | refine i_eqi ?_ | refine i_is ?_ | refine i_isn ?_ | refine i_nes ?_ | refine i_rbl ?_ | refine i_eCallX ?_ | refine i_eCallKwX ?_ | refine i_sRaiseF ?_ | refine i_eIsX ?_ | refine i_eFld ?_ | refine i_eDit1 ?_ | refine i_sTry ?_ | refine i_runX ?_) | ((with_reducible refine i_eVarX ?_); refine ⟨_, rfl, ?_⟩) | ((with_reducible refine i_len1 ?_ ?_); · exact Nat.le_of_ble_eq_true rfl))
        refine ⟨[.int p.1, .int p.2], rfl, o3, u3, ?_, ?_, rfl⟩
        · rw [List.map_append, hm, tk]
          rfl
        · intro z hz
          rcases List.mem_append.mp hz with z1 | z1
          · exact hv z z1
          · rw [List.mem_singleton.mp z1]
            exact ⟨p, hpm, .inr rfl⟩
      · repeat (first | (with_reducible first | refine i_sIf ?_ | refine i_sNil ?_ | refine i_sRet ?_ | refine i_sAsg ?_ | refine i_sDrop ?_ | refine i_sPut ?_ | refine i_sPar ?_ | refine i_eC ?_ | refine i_eOp ?_ | refine i_eChain ?_ | refine i_eB ?_ | refine i_eUn ?_ | refine i_eTup ?_ | refine i_eLst ?_ | refine i_eLstM ?_ | refine i_eAnd ?_ | refine i_eOr ?_ | refine i_eNot ?_ | refine i_eIf ?_ | refine i_bOf ?_ | refine i_bAnd ?_ | refine i_bOr ?_ | refine i_bNot ?_ | refine i_bYes ?_ | refine i_aNil ?_ | refine i_aCons ?_ | refine i_eCall ?_ | refine i_eCallKw ?_ | refine i_eCut ?_ | refine i_oNone ?_ | refine i_oSome ?_ | refine i_eM ?_ | refine i_sSq ?_ | refine i_sRange1 ?_ | refine i_sRange2 ?_ | refine i_sEnum ?_ | refine i_eIsi ?_ | refine i_eIsi2 ?_ | refine i_eLc ?_ | refine i_eLcM ?_ | refine i_sFor ?_ | refine i_eDisp1 ?_ | refine i_bl ?_ | refine i_int ?_ | refine i_nm ?_ | refine i_one ?_ | refine i_two ?_ | refine i_rng ?_ | refine i_len0 ?_ | refine i_int1 ?_ | refine i_intb ?_ | refine i_abs ?_ | refine i_add ?_ | refine i_sub ?_ | refine i_lt ?_ | refine i_le ?_ | refine i_gt ?_ | refine i_ge ?_ | refine i_eqi ?_ | refine i_is ?_ | refine i_isn ?_ | refine i_nes ?_ | refine i_rbl ?_ | refine i_eCallX ?_ | refine i_eCallKwX ?_ | refine i_sRaiseF ?_ | refine i_eIsX ?_ | refine i_eFld ?_ | refine i_eDit1 ?_ | refine i_sTry ?_ | refine i_runX ?_) | ((with_reducible refine i_eVarX ?_); refine ⟨_, rfl, ?_⟩) | ((with_reducible refine i_len1 ?_ ?_); · exact Nat.le_of_ble_eq_true rfl))
        refine ⟨o3, u3, ?_, ?_, rfl⟩
        · rw [List.map_append, hm, tk]
          rfl
        · intro z hz
          rcases List.mem_append.mp hz with z1 | z1
          · exact hv z z1
          · rw [List.mem_singleton.mp z1]
            exact ⟨p, hpm, .inl rfl⟩
    · rintro acc S' ⟨o2, u2, hm, hv, rfl⟩
      rw [List.length_map] at u2 hm
      rw [List.take_length] at hm
      repeat (first | (with_reducible first | refine i_sIf ?_ | refine i_sNil ?_ | refine i_sRet ?_ | refine i_sAsg ?_ | refine i_sDrop ?_ | refine i_sPut ?_ | refine i_sPar ?_ | refine i_eC ?_ | refine i_eOp ?_ | refine i_eChain ?_ | refine i_eB ?_ | refine i_eUn ?_ | refine i_eTup ?_ | refine i_eLst ?_ | refine i_eLstM ?_ | refine i_eAnd ?_ | refine i_eOr ?_ | refine i_eNot ?_ | refine i_eIf ?_ | refine i_bOf ?_ | refine i_bAnd ?_ | refine i_bOr ?_ | refine i_bNot ?_ | refine i_bYes ?_ | refine i_aNil ?_ | refine i_aCons ?_ | refine i_eCall ?_ | refine i_eCallKw ?_ | refine i_eCut ?_ | refine i_oNone ?_ | refine i_oSome ?_ | refine i_eM ?_ | refine i_sSq ?_ | refine i_sRange1 ?_ | refine i_sRange2 ?_ | refine i_sEnum ?_ | refine i_eIsi ?_ | refine i_eIsi2 ?_ | refine i_eLc ?_ | refine i_eLcM ?_ | refine i_sFor ?_ | refine i_eDisp1 ?_ | refine i_bl ?_ | refine i_int ?_ | refine i_nm ?_ | refine i_one ?_ | refine i_two ?_ | refine i_rng ?_ | refine i_len0 ?_ | refine i_int1 ?_ | refine i_intb ?_ | refine i_abs ?_ | refine i_add ?_ | refine i_sub ?_ | refine i_lt ?_ | refine i_le ?_ | refine i_gt ?_ | refine i_ge ?_ | refine i_eqi ?_ | refine i_is ?_ | refine i_isn ?_ | refine i_nes ?_ | refine i_rbl ?_ | refine i_eCallX ?_ | refine i_eCallKwX ?_ | refine i_sRaiseF ?_ | refine i_eIsX ?_ | refine i_eFld ?_ | refine i_eDit1 ?_ | refine i_sTry ?_ | refine i_runX ?_) | ((with_reducible refine i_eVarX ?_); refine ⟨_, rfl, ?_⟩) | ((with_reducible refine i_len1 ?_ ?_); · exact Nat.le_of_ble_eq_true rfl))
      exact hnx _ _ ⟨o2, acc, u2.mono (by omega), hm, hv, rfl, rfl⟩
  clear u
  obtain ⟨o, zs, u, hz, hv, rfl, rfl⟩ := hP
  have zl : zs.length = ps.length := by rw [← hz, List.length_map]
  -- passed, perhaps a tuple
  refine cut1 5 (fun d5 S' => ∃ o, Urn (K + 48) o ∧ (d5 = .lst zs ∨ d5 = .tup zs) ∧ S' = some o :: (T ++ [some (.lst (ps.map sqD))])) (fun N' hrt hnx => ?_) (fun d5 S' hP => ?_)
  · repeat (first | (with_reducible first | refine i_sIf ?_ | refine i_sNil ?_ | refine i_sRet ?_ | refine i_sAsg ?_ | refine i_sDrop ?_ | refine i_sPut ?_ | refine i_sPar ?_ | refine i_eC ?_ | refine i_eOp ?_ | refine i_eChain ?_ | refine i_eB ?_ | refine i_eUn ?_ | refine i_eTup ?_ | refine i_eLst ?_ | refine i_eLstM ?_ | refine i_eAnd ?_ | refine i_eOr ?_ | refine i_eNot ?_ | refine i_eIf ?_ | refine i_bOf ?_ | refine i_bAnd ?_ | refine i_bOr ?_ | refine i_bNot ?_ | refine i_bYes ?_ | refine i_aNil ?_ | refine i_aCons ?_ | refine i_eCall ?_ | refine i_eCallKw ?_ | refine i_eCut ?_ | refine i_oNone ?_ | refine i_oSome ?_ | refine i_eM ?_ | refine i_sSq ?_ | refine i_sRange1 ?_ | refine i_sRange2 ?_ | refine i_sEnum ?_ | refine i_eIsi ?_ | refine i_eIsi2 ?_ | refine i_eLc ?_ | refine i_eLcM ?_ | refine i_sFor ?_ | refine i_eDisp1 ?_ | refine i_bl ?_ | refine i_int ?_ | refine i_nm ?_ | refine i_one ?_ | refine i_two ?_ | refine i_rng ?_ | refine i_len0 ?_ | refine i_int1 ?_ | refine i_intb ?_ | refine i_abs ?_ | refine i_add ?_ | refine i_sub ?_ | refine i_lt ?_ | refine i_le ?_ | refine i_gt ?_ | refine i_ge ?_ | refine i_eqi ?_ | refine i_is ?_ | refine i_isn ?_ | refine i_nes ?_ | refine i_rbl ?_ | refine i_eCallX ?_ | refine i_eCallKwX ?_ | refine i_sRaiseF ?_ | refine i_eIsX ?_ | refine i_eFld ?_ | refine i_eDit1 ?_ | refine i_sTry ?_ | refine i_runX ?_) | ((with_reducible refine i_eVarX ?_); refine ⟨_, rfl, ?_⟩) | ((with_reducible refine i_len1 ?_ ?_); · exact Nat.le_of_ble_eq_true rfl))
    refine draw_of u (by omega) (by decide) (by decide) fun o1 n u1 n0 n1 => ?_
    repeat (first | (with_reducible first | refine i_sIf ?_ | refine i_sNil ?_ | refine i_sRet ?_ | refine i_sAsg ?_ | refine i_sDrop ?_ | refine i_sPut ?_ | refine i_sPar ?_ | refine i_eC ?_ | refine i_eOp ?_ | refine i_eChain ?_ | refine i_eB ?_ | refine i_eUn ?_ | refine i_eTup ?_ | refine i_eLst ?_ | refine i_eLstM ?_ | refine i_eAnd ?_ | refine i_eOr ?_ | refine i_eNot ?_ | refine i_eIf ?_ | refine i_bOf ?_ | refine i_bAnd ?_ | refine i_bOr ?_ | refine i_bNot ?_ | refine i_bYes ?_ | refine i_aNil ?_ | refine i_aCons ?_ | refine i_eCall ?_ | refine i_eCallKw ?_ | refine i_eCut ?_ | refine i_oNone ?_ | refine i_oSome ?_ | refine i_eM ?_ | refine i_sSq ?_ | refine i_sRange1 ?_ | refine i_sRange2 ?_ | refine i_sEnum ?_ | refine i_eIsi ?_ | refine i_eIsi2 ?_ | refine i_eLc ?_ | refine i_eLcM ?_ | refine i_sFor ?_ | refine i_eDisp1 ?_ | refine i_bl ?_ | refine i_int ?_ | refine i_nm ?_ | refine i_one ?_ | refine i_two ?_ | refine i_rng ?_ | refine i_len0 ?_ | refine i_int1 ?_ | refine i_intb ?_ | refine i_abs ?_ | refine i_add ?_ | refine i_sub ?_ | refine i_lt ?_ | refine i_le ?_ | refine i_gt ?_ | refine i_ge ?_ | refine i_eqi ?_ | refine i_is ?_ | refine i_isn ?_ | refine i_nes ?_ | refine i_rbl ?_ | refine i_eCallX ?_ | refine i_eCallKwX ?_ | refine i_sRaiseF ?_ | refine i_eIsX ?_ | refine i_eFld ?_ | refine i_eDit1 ?_ | refine i_sTry ?_ | refine i_runX ?_) | ((with_reducible refine i_eVarX ?_); refine ⟨_, rfl, ?_⟩) | ((with_reducible refine i_len1 ?_ ?_); · exact Nat.le_of_ble_eq_true rfl))
    refine ite_by (fun h => ?_) (fun h => ?_)
    · repeat (first | (with_reducible first | refine i_sIf ?_ | refine i_sNil ?_ | refine i_sRet ?_ | refine i_sAsg ?_ | refine i_sDrop ?_ | refine i_sPut ?_ | refine i_sPar ?_ | refine i_eC ?_ | refine i_eOp ?_ | refine i_eChain ?_ | refine i_eB ?_ | refine i_eUn ?_ | refine i_eTup ?_ | refine i_eLst ?_ | refine i_eLstM ?_ | refine i_eAnd ?_ | refine i_eOr ?_ | refine i_eNot ?_ | refine i_eIf ?_ | refine i_bOf ?_ | refine i_bAnd ?_ | refine i_bOr ?_ | refine i_bNot ?_ | refine i_bYes ?_ | refine i_aNil ?_ | refine i_aCons ?_ | refine i_eCall ?_ | refine i_eCallKw ?_ | refine i_eCut ?_ | refine i_oNone ?_ | refine i_oSome ?_ | refine i_eM ?_ | refine i_sSq ?_ | refine i_sRange1 ?_ | refine i_sRange2 ?_ | refine i_sEnum ?_ | refine i_eIsi ?_ | refine i_eIsi2 ?_ | refine i_eLc ?_ | refine i_eLcM ?_ | refine i_sFor ?_ | refine i_eDisp1 ?_ | refine i_bl ?_ | refine i_int ?_ | refine i_nm ?_ | refine i_one ?_ | refine i_two ?_ | refine i_rng ?_ | refine i_len0 ?_ | refine i_int1 ?_ | refine i_intb ?_ | refine i_abs ?_ | refine i_add ?_ | refine i_sub ?_ | refine i_lt ?_ | refine i_le ?_ | refine i_gt ?_ | refine i_ge ?_ | refine i_eqi ?_ | refine i_is ?_ | refine i_isn ?_ | refine i_nes ?_ | refine i_rbl ?_ | refine i_eCallX ?_ | refine i_eCallKwX ?_ | refine i_sRaiseF ?_ | refine i_eIsX ?_ | refine i_eFld ?_ | refine i_eDit1 ?_ | refine i_sTry ?_ | refine i_runX ?_) | ((with_reducible refine i_eVarX ?_); refine ⟨_, rfl, ?_⟩) | ((with_reducible refine i_len1 ?_ ?_); · exact Nat.le_of_ble_eq_true rfl))
      refine ⟨zs, rfl, ?_⟩
      repeat (first | (with_reducible first | refine i_sIf ?_ | refine i_sNil ?_ | refine i_sRet ?_ | refine i_sAsg ?_ | refine i_sDrop ?_ | refine i_sPut ?_ | refine i_sPar ?_ | refine i_eC ?_ | refine i_eOp ?_ | refine i_eChain ?_ | refine i_eB ?_ | refine i_eUn ?_ | refine i_eTup ?_ | refine i_eLst ?_ | refine i_eLstM ?_ | refine i_eAnd ?_ | refine i_eOr ?_ | refine i_eNot ?_ | refine i_eIf ?_ | refine i_bOf ?_ | refine i_bAnd ?_ | refine i_bOr ?_ | refine i_bNot ?_ | refine i_bYes ?_ | refine i_aNil ?_ | refine i_aCons ?_ | refine i_eCall ?_ | refine i_eCallKw ?_ | refine i_eCut ?_ | refine i_oNone ?_ | refine i_oSome ?_ | refine i_eM ?_ | refine i_sSq ?_ | refine i_sRange1 ?_ | refine i_sRange2 ?_ | refine i_sEnum ?_ | refine i_eIsi ?_ | refine i_eIsi2 ?_ | refine i_eLc ?_ | refine i_eLcM ?_ | refine i_sFor ?_ | refine i_eDisp1 ?_ | refine i_bl ?_ | refine i_int ?_ | refine i_nm ?_ | refine i_one ?_ | refine i_two ?_ | refine i_rng ?_ | refine i_len0 ?_ | refine i_int1 ?_ | refine i_intb ?_ | refine i_abs ?_ | refine i_add ?_ | refine i_sub ?_ | refine i_lt ?_ | refine i_le ?_ | refine i_gt ?_ | refine i_ge ?_ | refine i_eqi ?_ | refine i_is ?_ | refine i_isn ?_ | refine i_nes ?_ | refine i_rbl ?_ | refine i_eCallX ?_ | refine i_eCallKwX ?_ | refine i_sRaiseF ?_ | refine i_eIsX ?_ | refine i_eFld ?_ | refine i_eDit1 ?_ | refine i_sTry ?_ | refine i_runX ?_) | ((with_reducible refine i_eVarX ?_); refine ⟨_, rfl, ?_⟩) | ((with_reducible refine i_len1 ?_ ?_); · exact Nat.le_of_ble_eq_true rfl))
      exact hnx _ _ ⟨o1, u1, .inr rfl, rfl⟩
    · repeat (first | (with_reducible first | refine i_sIf ?_ | refine i_sNil ?_ | refine i_sRet ?_ | refine i_sAsg ?_ | refine i_sDrop ?_ | refine i_sPut ?_ | refine i_sPar ?_ | refine i_eC ?_ | refine i_eOp ?_ | refine i_eChain ?_ | refine i_eB ?_ | refine i_eUn ?_ | refine i_eTup ?_ | refine i_eLst ?_ | refine i_eLstM ?_ | refine i_eAnd ?_ | refine i_eOr ?_ | refine i_eNot ?_ | refine i_eIf ?_ | refine i_bOf ?_ | refine i_bAnd ?_ | refine i_bOr ?_ | refine i_bNot ?_ | refine i_bYes ?_ | refine i_aNil ?_ | refine i_aCons ?_ | refine i_eCall ?_ | refine i_eCallKw ?_ | refine i_eCut ?_ | refine i_oNone ?_ | refine i_oSome ?_ | refine i_eM ?_ | refine i_sSq ?_ | refine i_sRange1 ?_ | refine i_sRange2 ?_ | refine i_sEnum ?_ | refine i_eIsi ?_ | refine i_eIsi2 ?_ | refine i_eLc ?_ | refine i_eLcM ?_ | refine i_sFor ?_ | refine i_eDisp1 ?_ | refine i_bl ?_ | refine i_int ?_ | refine i_nm ?_ | refine i_one ?_ | refine i_two ?_ | refine i_rng ?_ | refine i_len0 ?_ | refine i_int1 ?_ | refine i_intb ?_ | refine i_abs ?_ | refine i_add ?_ | refine i_sub ?_ | refine i_lt ?_ | refine i_le ?_ | refine i_gt ?_ | refine i_ge ?_ | refine i_eqi ?_ | refine i_is ?_ | refine i_isn ?_ | refine i_nes ?_ | refine i_rbl ?_ | refine i_eCallX ?_ | refine i_eCallKwX ?_ | refine i_sRaiseF ?_ | refine i_eIsX ?_ | refine i_eFld ?_ | refine i_eDit1 ?_ | refine i_sTry ?_ | refine i_runX ?_) | ((with_reducible refine i_eVarX ?_); refine ⟨_, rfl, ?_⟩) | ((with_reducible refine i_len1 ?_ ?_); · exact Nat.le_of_ble_eq_true rfl))
      exact hnx _ _ ⟨o1, u1, .inl rfl, rfl⟩
  clear u
  obtain ⟨o, u, he, rfl⟩ := hP
  have d5s : seqOf d5 = some zs := by rcases he with rfl | rfl <;> rfl
  have d5h : NC.shw 60 d5 = true := shw_many (w := 150) he fun z hz => (hv z hz).shw
  have d5w : wid d5 ≤ 7 * (150 + 2) + 3 := wid_many he (fun z hz => (hv z hz).wid) (by omega)
  have d5d : ∀ S, drf S d5 = d5 := fun S => by rcases he with rfl | rfl <;> rfl
  -- kept
  refine cut1 6 (fun d6 S' => d6 = .str (shn d5) ∧ S' = some o :: (T ++ [some (.lst (ps.map sqD))])) (fun N' hrt hnx => ?_) (fun d6 S' hP => ?_)
  · repeat (first | (with_reducible first | refine i_sIf ?_ | refine i_sNil ?_ | refine i_sRet ?_ | refine i_sAsg ?_ | refine i_sDrop ?_ | refine i_sPut ?_ | refine i_sPar ?_ | refine i_eC ?_ | refine i_eOp ?_ | refine i_eChain ?_ | refine i_eB ?_ | refine i_eUn ?_ | refine i_eTup ?_ | refine i_eLst ?_ | refine i_eLstM ?_ | refine i_eAnd ?_ | refine i_eOr ?_ | refine i_eNot ?_ | refine i_eIf ?_ | refine i_bOf ?_ | refine i_bAnd ?_ | refine i_bOr ?_ | refine i_bNot ?_ | refine i_bYes ?_ | refine i_aNil ?_ | refine i_aCons ?_ | refine i_eCall ?_ | refine i_eCallKw ?_ | refine i_eCut ?_ | refine i_oNone ?_ | refine i_oSome ?_ | refine i_eM ?_ | refine i_sSq ?_ | refine i_sRange1 ?_ | refine i_sRange2 ?_ | refine i_sEnum ?_ | refine i_eIsi ?_ | refine i_eIsi2 ?_ | refine i_eLc ?_ | refine i_eLcM ?_ | refine i_sFor ?_ | refine i_eDisp1 ?_ | refine i_bl ?_ | refine i_int ?_ | refine i_nm ?_ | refine i_one ?_ | refine i_two ?_ | refine i_rng ?_ | refine i_len0 ?_ | refine i_int1 ?_ | refine i_intb ?_ | refine i_abs ?_ | refine i_add ?_ | refine i_sub ?_ | refine i_lt ?_ | refine i_le ?_ | refine i_gt ?_ | refine i_ge ?_ | refine i_eqi ?_ | refine i_is ?_ | refine i_isn ?_ | refine i_nes ?_ | refine i_rbl ?_ | refine i_eCallX ?_ | refine i_eCallKwX ?_ | refine i_sRaiseF ?_ | refine i_eIsX ?_ | refine i_eFld ?_ | refine i_eDit1 ?_ | refine i_sTry ?_ | refine i_runX ?_) | ((with_reducible refine i_eVarX ?_); refine ⟨_, rfl, ?_⟩) | ((with_reducible refine i_len1 ?_ ?_); · exact Nat.le_of_ble_eq_true rfl))
    refine repr_of (d5d _) d5h d5w (by decide) ?_
    repeat (first | (with_reducible first | refine i_sIf ?_ | refine i_sNil ?_ | refine i_sRet ?_ | refine i_sAsg ?_ | refine i_sDrop ?_ | refine i_sPut ?_ | refine i_sPar ?_ | refine i_eC ?_ | refine i_eOp ?_ | refine i_eChain ?_ | refine i_eB ?_ | refine i_eUn ?_ | refine i_eTup ?_ | refine i_eLst ?_ | refine i_eLstM ?_ | refine i_eAnd ?_ | refine i_eOr ?_ | refine i_eNot ?_ | refine i_eIf ?_ | refine i_bOf ?_ | refine i_bAnd ?_ | refine i_bOr ?_ | refine i_bNot ?_ | refine i_bYes ?_ | refine i_aNil ?_ | refine i_aCons ?_ | refine i_eCall ?_ | refine i_eCallKw ?_ | refine i_eCut ?_ | refine i_oNone ?_ | refine i_oSome ?_ | refine i_eM ?_ | refine i_sSq ?_ | refine i_sRange1 ?_ | refine i_sRange2 ?_ | refine i_sEnum ?_ | refine i_eIsi ?_ | refine i_eIsi2 ?_ | refine i_eLc ?_ | refine i_eLcM ?_ | refine i_sFor ?_ | refine i_eDisp1 ?_ | refine i_bl ?_ | refine i_int ?_ | refine i_nm ?_ | refine i_one ?_ | refine i_two ?_ | refine i_rng ?_ | refine i_len0 ?_ | refine i_int1 ?_ | refine i_intb ?_ | refine i_abs ?_ | refine i_add ?_ | refine i_sub ?_ | refine i_lt ?_ | refine i_le ?_ | refine i_gt ?_ | refine i_ge ?_ | refine i_eqi ?_ | refine i_is ?_ | refine i_isn ?_ | refine i_nes ?_ | refine i_rbl ?_ | refine i_eCallX ?_ | refine i_eCallKwX ?_ | refine i_sRaiseF ?_ | refine i_eIsX ?_ | refine i_eFld ?_ | refine i_eDit1 ?_ | refine i_sTry ?_ | refine i_runX ?_) | ((with_reducible refine i_eVarX ?_); refine ⟨_, rfl, ?_⟩) | ((with_reducible refine i_len1 ?_ ?_); · exact Nat.le_of_ble_eq_true rfl))
    exact hnx _ _ ⟨rfl, rfl⟩
  obtain ⟨rfl, rfl⟩ := hP
  -- due
  refine cut1 7 (fun d7 S' => ∃ qs T2, qs.Perm ps ∧ Srt qs ∧ T2[T.length]? = some (some (.lst (ps.map sqD))) ∧ d7 = .tup (qs.map sqD) ∧ S' = some o :: T2) (fun N' hrt hnx => ?_) (fun d7 S' hP => ?_)
  · repeat (first | (with_reducible first | refine i_sIf ?_ | refine i_sNil ?_ | refine i_sRet ?_ | refine i_sAsg ?_ | refine i_sDrop ?_ | refine i_sPut ?_ | refine i_sPar ?_ | refine i_eC ?_ | refine i_eOp ?_ | refine i_eChain ?_ | refine i_eB ?_ | refine i_eUn ?_ | refine i_eTup ?_ | refine i_eLst ?_ | refine i_eLstM ?_ | refine i_eAnd ?_ | refine i_eOr ?_ | refine i_eNot ?_ | refine i_eIf ?_ | refine i_bOf ?_ | refine i_bAnd ?_ | refine i_bOr ?_ | refine i_bNot ?_ | refine i_bYes ?_ | refine i_aNil ?_ | refine i_aCons ?_ | refine i_eCall ?_ | refine i_eCallKw ?_ | refine i_eCut ?_ | refine i_oNone ?_ | refine i_oSome ?_ | refine i_eM ?_ | refine i_sSq ?_ | refine i_sRange1 ?_ | refine i_sRange2 ?_ | refine i_sEnum ?_ | refine i_eIsi ?_ | refine i_eIsi2 ?_ | refine i_eLc ?_ | refine i_eLcM ?_ | refine i_sFor ?_ | refine i_eDisp1 ?_ | refine i_bl ?_ | refine i_int ?_ | refine i_nm ?_ | refine i_one ?_ | refine i_two ?_ | refine i_rng ?_ | refine i_len0 ?_ | refine i_int1 ?_ | refine i_intb ?_ | refine i_abs ?_ | refine i_add ?_ | refine i_sub ?_ | refine i_lt ?_ | refine i_le ?_ | refine i_gt ?_ | refine i_ge ?_ | refine i_eqi ?_ | refine i_is ?_ | refine i_isn ?_ | refine i_nes ?_ | refine i_rbl ?_ | refine i_eCallX ?_ | refine i_eCallKwX ?_ | refine i_sRaiseF ?_ | refine i_eIsX ?_ | refine i_eFld ?_ | refine i_eDit1 ?_ | refine i_sTry ?_ | refine i_runX ?_) | ((with_reducible refine i_eVarX ?_); refine ⟨_, rfl, ?_⟩) | ((with_reducible refine i_len1 ?_ ?_); · exact Nat.le_of_ble_eq_true rfl))
    refine ⟨_, ps, rfl, hget0 _ _, by omega, fun qs h1 h2 => ?_⟩
    repeat (first | (with_reducible first | refine i_sIf ?_ | refine i_sNil ?_ | refine i_sRet ?_ | refine i_sAsg ?_ | refine i_sDrop ?_ | refine i_sPut ?_ | refine i_sPar ?_ | refine i_eC ?_ | refine i_eOp ?_ | refine i_eChain ?_ | refine i_eB ?_ | refine i_eUn ?_ | refine i_eTup ?_ | refine i_eLst ?_ | refine i_eLstM ?_ | refine i_eAnd ?_ | refine i_eOr ?_ | refine i_eNot ?_ | refine i_eIf ?_ | refine i_bOf ?_ | refine i_bAnd ?_ | refine i_bOr ?_ | refine i_bNot ?_ | refine i_bYes ?_ | refine i_aNil ?_ | refine i_aCons ?_ | refine i_eCall ?_ | refine i_eCallKw ?_ | refine i_eCut ?_ | refine i_oNone ?_ | refine i_oSome ?_ | refine i_eM ?_ | refine i_sSq ?_ | refine i_sRange1 ?_ | refine i_sRange2 ?_ | refine i_sEnum ?_ | refine i_eIsi ?_ | refine i_eIsi2 ?_ | refine i_eLc ?_ | refine i_eLcM ?_ | refine i_sFor ?_ | refine i_eDisp1 ?_ | refine i_bl ?_ | refine i_int ?_ | refine i_nm ?_ | refine i_one ?_ | refine i_two ?_ | refine i_rng ?_ | refine i_len0 ?_ | refine i_int1 ?_ | refine i_intb ?_ | refine i_abs ?_ | refine i_add ?_ | refine i_sub ?_ | refine i_lt ?_ | refine i_le ?_ | refine i_gt ?_ | refine i_ge ?_ | refine i_eqi ?_ | refine i_is ?_ | refine i_isn ?_ | refine i_nes ?_ | refine i_rbl ?_ | refine i_eCallX ?_ | refine i_eCallKwX ?_ | refine i_sRaiseF ?_ | refine i_eIsX ?_ | refine i_eFld ?_ | refine i_eDit1 ?_ | refine i_sTry ?_ | refine i_runX ?_) | ((with_reducible refine i_eVarX ?_); refine ⟨_, rfl, ?_⟩) | ((with_reducible refine i_len1 ?_ ?_); · exact Nat.le_of_ble_eq_true rfl))
    refine ⟨qs.map sqD, by rw [drf_ref at_end]; rfl, ?_⟩
    repeat (first | (with_reducible first | refine i_sIf ?_ | refine i_sNil ?_ | refine i_sRet ?_ | refine i_sAsg ?_ | refine i_sDrop ?_ | refine i_sPut ?_ | refine i_sPar ?_ | refine i_eC ?_ | refine i_eOp ?_ | refine i_eChain ?_ | refine i_eB ?_ | refine i_eUn ?_ | refine i_eTup ?_ | refine i_eLst ?_ | refine i_eLstM ?_ | refine i_eAnd ?_ | refine i_eOr ?_ | refine i_eNot ?_ | refine i_eIf ?_ | refine i_bOf ?_ | refine i_bAnd ?_ | refine i_bOr ?_ | refine i_bNot ?_ | refine i_bYes ?_ | refine i_aNil ?_ | refine i_aCons ?_ | refine i_eCall ?_ | refine i_eCallKw ?_ | refine i_eCut ?_ | refine i_oNone ?_ | refine i_oSome ?_ | refine i_eM ?_ | refine i_sSq ?_ | refine i_sRange1 ?_ | refine i_sRange2 ?_ | refine i_sEnum ?_ | refine i_eIsi ?_ | refine i_eIsi2 ?_ | refine i_eLc ?_ | refine i_eLcM ?_ | refine i_sFor ?_ | refine i_eDisp1 ?_ | refine i_bl ?_ | refine i_int ?_ | refine i_nm ?_ | refine i_one ?_ | refine i_two ?_ | refine i_rng ?_ | refine i_len0 ?_ | refine i_int1 ?_ | refine i_intb ?_ | refine i_abs ?_ | refine i_add ?_ | refine i_sub ?_ | refine i_lt ?_ | refine i_le ?_ | refine i_gt ?_ | refine i_ge ?_ | refine i_eqi ?_ | refine i_is ?_ | refine i_isn ?_ | refine i_nes ?_ | refine i_rbl ?_ | refine i_eCallX ?_ | refine i_eCallKwX ?_ | refine i_sRaiseF ?_ | refine i_eIsX ?_ | refine i_eFld ?_ | refine i_eDit1 ?_ | refine i_sTry ?_ | refine i_runX ?_) | ((with_reducible refine i_eVarX ?_); refine ⟨_, rfl, ?_⟩) | ((with_reducible refine i_len1 ?_ ?_); · exact Nat.le_of_ble_eq_true rfl))
    refine hnx _ _ ⟨qs, T ++ [some (.lst (ps.map sqD))] ++ [some (.lst (qs.map sqD))], h1, h2, ?_, rfl, rfl⟩
    rw [List.append_assoc, List.getElem?_append_right (Nat.le_refl _), Nat.sub_self]
    rfl
  obtain ⟨qs, T2, hp, hs, g2, rfl, rfl⟩ := hP
  have told_ : ∀ (d : D) (ws : List D) (S : Store) (Q' : QD) (E : XD), (d = .lst ws ∨ d = .tup ws) → ws.Perm zs → Q' (.tup (qs.map sqD)) S → r_squares_of cs [d] S Q' E := by
    intro d ws S Q' E e hw q'
    have es : seqOf d = some ws := by rcases e with rfl | rfl <;> rfl
    have hv' : ∀ z ∈ ws, SqV z := fun z hz => hv z (hw.mem_iff.mp hz)
    have hpp : (ws.map sqOf).Perm ps := by rw [← hz]; exact hw.map _
    have e1 : areSq d = true := are_of es (fun z hz => (hv' z hz).is) (hpp.nodup_iff.mpr hn)
    refine ⟨d, rfl, d, d, "values", rfl, by decide, lot_of e (by rw [hw.length_eq]; omega) (fun z hz => (hv' z hz).flat), ⟨fun h => ?_, fun _ rs h1 h2 => ?_⟩⟩
    · rw [e1] at h
      cases h
    · rw [sqs_of es] at h1
      rw [srt_uniq (h1.trans (hpp.trans hp.symm)) h2 hs]
      exact q'
  have q7h : NC.shw 60 (.tup (qs.map sqD)) = true := shw_many (w := 150) (.inr rfl) fun z hz => by
    obtain ⟨p, hp', rfl⟩ := List.mem_map.mp hz
    exact shw_D (hsm p (hp.mem_iff.mp hp'))
  have q7w : wid (.tup (qs.map sqD)) ≤ 7 * (150 + 2) + 3 := wid_many (zs := qs.map sqD) (.inr rfl) (fun z hz => by
    obtain ⟨p, hp', rfl⟩ := List.mem_map.mp hz
    exact wid_D (hsm p (hp.mem_iff.mp hp'))) (by rw [List.length_map, hp.length_eq]; omega)
  -- told
  refine cut1 8 (fun d8 S' => d8 = .tup (qs.map sqD) ∧ S' = some o :: T2) (fun N' hrt hnx => ?_) (fun d8 S' hP => ?_)
  · repeat (first | (with_reducible first | refine i_sIf ?_ | refine i_sNil ?_ | refine i_sRet ?_ | refine i_sAsg ?_ | refine i_sDrop ?_ | refine i_sPut ?_ | refine i_sPar ?_ | refine i_eC ?_ | refine i_eOp ?_ | refine i_eChain ?_ | refine i_eB ?_ | refine i_eUn ?_ | refine i_eTup ?_ | refine i_eLst ?_ | refine i_eLstM ?_ | refine i_eAnd ?_ | refine i_eOr ?_ | refine i_eNot ?_ | refine i_eIf ?_ | refine i_bOf ?_ | refine i_bAnd ?_ | refine i_bOr ?_ | refine i_bNot ?_ | refine i_bYes ?_ | refine i_aNil ?_ | refine i_aCons ?_ | refine i_eCall ?_ | refine i_eCallKw ?_ | refine i_eCut ?_ | refine i_oNone ?_ | refine i_oSome ?_ | refine i_eM ?_ | refine i_sSq ?_ | refine i_sRange1 ?_ | refine i_sRange2 ?_ | refine i_sEnum ?_ | refine i_eIsi ?_ | refine i_eIsi2 ?_ | refine i_eLc ?_ | refine i_eLcM ?_ | refine i_sFor ?_ | refine i_eDisp1 ?_ | refine i_bl ?_ | refine i_int ?_ | refine i_nm ?_ | refine i_one ?_ | refine i_two ?_ | refine i_rng ?_ | refine i_len0 ?_ | refine i_int1 ?_ | refine i_intb ?_ | refine i_abs ?_ | refine i_add ?_ | refine i_sub ?_ | refine i_lt ?_ | refine i_le ?_ | refine i_gt ?_ | refine i_ge ?_ | refine i_eqi ?_ | refine i_is ?_ | refine i_isn ?_ | refine i_nes ?_ | refine i_rbl ?_ | refine i_eCallX ?_ | refine i_eCallKwX ?_ | refine i_sRaiseF ?_ | refine i_eIsX ?_ | refine i_eFld ?_ | refine i_eDit1 ?_ | refine i_sTry ?_ | refine i_runX ?_) | ((with_reducible refine i_eVarX ?_); refine ⟨_, rfl, ?_⟩) | ((with_reducible refine i_len1 ?_ ?_); · exact Nat.le_of_ble_eq_true rfl))
    refine told_ _ zs _ _ _ he (.refl _) ?_
    repeat (first | (with_reducible first | refine i_sIf ?_ | refine i_sNil ?_ | refine i_sRet ?_ | refine i_sAsg ?_ | refine i_sDrop ?_ | refine i_sPut ?_ | refine i_sPar ?_ | refine i_eC ?_ | refine i_eOp ?_ | refine i_eChain ?_ | refine i_eB ?_ | refine i_eUn ?_ | refine i_eTup ?_ | refine i_eLst ?_ | refine i_eLstM ?_ | refine i_eAnd ?_ | refine i_eOr ?_ | refine i_eNot ?_ | refine i_eIf ?_ | refine i_bOf ?_ | refine i_bAnd ?_ | refine i_bOr ?_ | refine i_bNot ?_ | refine i_bYes ?_ | refine i_aNil ?_ | refine i_aCons ?_ | refine i_eCall ?_ | refine i_eCallKw ?_ | refine i_eCut ?_ | refine i_oNone ?_ | refine i_oSome ?_ | refine i_eM ?_ | refine i_sSq ?_ | refine i_sRange1 ?_ | refine i_sRange2 ?_ | refine i_sEnum ?_ | refine i_eIsi ?_ | refine i_eIsi2 ?_ | refine i_eLc ?_ | refine i_eLcM ?_ | refine i_sFor ?_ | refine i_eDisp1 ?_ | refine i_bl ?_ | refine i_int ?_ | refine i_nm ?_ | refine i_one ?_ | refine i_two ?_ | refine i_rng ?_ | refine i_len0 ?_ | refine i_int1 ?_ | refine i_intb ?_ | refine i_abs ?_ | refine i_add ?_ | refine i_sub ?_ | refine i_lt ?_ | refine i_le ?_ | refine i_gt ?_ | refine i_ge ?_ | refine i_eqi ?_ | refine i_is ?_ | refine i_isn ?_ | refine i_nes ?_ | refine i_rbl ?_ | refine i_eCallX ?_ | refine i_eCallKwX ?_ | refine i_sRaiseF ?_ | refine i_eIsX ?_ | refine i_eFld ?_ | refine i_eDit1 ?_ | refine i_sTry ?_ | refine i_runX ?_) | ((with_reducible refine i_eVarX ?_); refine ⟨_, rfl, ?_⟩) | ((with_reducible refine i_len1 ?_ ?_); · exact Nat.le_of_ble_eq_true rfl))
    exact hnx _ _ ⟨rfl, rfl⟩
  obtain ⟨rfl, rfl⟩ := hP
  refine cut0 (fun S' => S' = some o :: T2) (fun N' hrt hnx => ?_) (fun S' hP => ?_)
  · repeat (first | (with_reducible first | refine i_sIf ?_ | refine i_sNil ?_ | refine i_sRet ?_ | refine i_sAsg ?_ | refine i_sDrop ?_ | refine i_sPut ?_ | refine i_sPar ?_ | refine i_eC ?_ | refine i_eOp ?_ | refine i_eChain ?_ | refine i_eB ?_ | refine i_eUn ?_ | refine i_eTup ?_ | refine i_eLst ?_ | refine i_eLstM ?_ | refine i_eAnd ?_ | refine i_eOr ?_ | refine i_eNot ?_ | refine i_eIf ?_ | refine i_bOf ?_ | refine i_bAnd ?_ | refine i_bOr ?_ | refine i_bNot ?_ | refine i_bYes ?_ | refine i_aNil ?_ | refine i_aCons ?_ | refine i_eCall ?_ | refine i_eCallKw ?_ | refine i_eCut ?_ | refine i_oNone ?_ | refine i_oSome ?_ | refine i_eM ?_ | refine i_sSq ?_ | refine i_sRange1 ?_ | refine i_sRange2 ?_ | refine i_sEnum ?_ | refine i_eIsi ?_ | refine i_eIsi2 ?_ | refine i_eLc ?_ | refine i_eLcM ?_ | refine i_sFor ?_ | refine i_eDisp1 ?_ | refine i_bl ?_ | refine i_int ?_ | refine i_nm ?_ | refine i_one ?_ | refine i_two ?_ | refine i_rng ?_ | refine i_len0 ?_ | refine i_int1 ?_ | refine i_intb ?_ | refine i_abs ?_ | refine i_add ?_ | refine i_sub ?_ | refine i_lt ?_ | refine i_le ?_ | refine i_gt ?_ | refine i_ge ?_ | refine i_eqi ?_ | refine i_is ?_ | refine i_isn ?_ | refine i_nes ?_ | refine i_rbl ?_ | refine i_eCallX ?_ | refine i_eCallKwX ?_ | refine i_sRaiseF ?_ | refine i_eIsX ?_ | refine i_eFld ?_ | refine i_eDit1 ?_ | refine i_sTry ?_ | refine i_runX ?_) | ((with_reducible refine i_eVarX ?_); refine ⟨_, rfl, ?_⟩) | ((with_reducible refine i_len1 ?_ ?_); · exact Nat.le_of_ble_eq_true rfl))
    refine repr_of rfl q7h q7w (by decide) ?_
    repeat (first | (with_reducible first | refine i_sIf ?_ | refine i_sNil ?_ | refine i_sRet ?_ | refine i_sAsg ?_ | refine i_sDrop ?_ | refine i_sPut ?_ | refine i_sPar ?_ | refine i_eC ?_ | refine i_eOp ?_ | refine i_eChain ?_ | refine i_eB ?_ | refine i_eUn ?_ | refine i_eTup ?_ | refine i_eLst ?_ | refine i_eLstM ?_ | refine i_eAnd ?_ | refine i_eOr ?_ | refine i_eNot ?_ | refine i_eIf ?_ | refine i_bOf ?_ | refine i_bAnd ?_ | refine i_bOr ?_ | refine i_bNot ?_ | refine i_bYes ?_ | refine i_aNil ?_ | refine i_aCons ?_ | refine i_eCall ?_ | refine i_eCallKw ?_ | refine i_eCut ?_ | refine i_oNone ?_ | refine i_oSome ?_ | refine i_eM ?_ | refine i_sSq ?_ | refine i_sRange1 ?_ | refine i_sRange2 ?_ | refine i_sEnum ?_ | refine i_eIsi ?_ | refine i_eIsi2 ?_ | refine i_eLc ?_ | refine i_eLcM ?_ | refine i_sFor ?_ | refine i_eDisp1 ?_ | refine i_bl ?_ | refine i_int ?_ | refine i_nm ?_ | refine i_one ?_ | refine i_two ?_ | refine i_rng ?_ | refine i_len0 ?_ | refine i_int1 ?_ | refine i_intb ?_ | refine i_abs ?_ | refine i_add ?_ | refine i_sub ?_ | refine i_lt ?_ | refine i_le ?_ | refine i_gt ?_ | refine i_ge ?_ | refine i_eqi ?_ | refine i_is ?_ | refine i_isn ?_ | refine i_nes ?_ | refine i_rbl ?_ | refine i_eCallX ?_ | refine i_eCallKwX ?_ | refine i_sRaiseF ?_ | refine i_eIsX ?_ | refine i_eFld ?_ | refine i_eDit1 ?_ | refine i_sTry ?_ | refine i_runX ?_) | ((with_reducible refine i_eVarX ?_); refine ⟨_, rfl, ?_⟩) | ((with_reducible refine i_len1 ?_ ?_); · exact Nat.le_of_ble_eq_true rfl))
    refine repr_of rfl q7h q7w (by decide) ?_
    repeat (first | (with_reducible first | refine i_sIf ?_ | refine i_sNil ?_ | refine i_sRet ?_ | refine i_sAsg ?_ | refine i_sDrop ?_ | refine i_sPut ?_ | refine i_sPar ?_ | refine i_eC ?_ | refine i_eOp ?_ | refine i_eChain ?_ | refine i_eB ?_ | refine i_eUn ?_ | refine i_eTup ?_ | refine i_eLst ?_ | refine i_eLstM ?_ | refine i_eAnd ?_ | refine i_eOr ?_ | refine i_eNot ?_ | refine i_eIf ?_ | refine i_bOf ?_ | refine i_bAnd ?_ | refine i_bOr ?_ | refine i_bNot ?_ | refine i_bYes ?_ | refine i_aNil ?_ | refine i_aCons ?_ | refine i_eCall ?_ | refine i_eCallKw ?_ | refine i_eCut ?_ | refine i_oNone ?_ | refine i_oSome ?_ | refine i_eM ?_ | refine i_sSq ?_ | refine i_sRange1 ?_ | refine i_sRange2 ?_ | refine i_sEnum ?_ | refine i_eIsi ?_ | refine i_eIsi2 ?_ | refine i_eLc ?_ | refine i_eLcM ?_ | refine i_sFor ?_ | refine i_eDisp1 ?_ | refine i_bl ?_ | refine i_int ?_ | refine i_nm ?_ | refine i_one ?_ | refine i_two ?_ | refine i_rng ?_ | refine i_len0 ?_ | refine i_int1 ?_ | refine i_intb ?_ | refine i_abs ?_ | refine i_add ?_ | refine i_sub ?_ | refine i_lt ?_ | refine i_le ?_ | refine i_gt ?_ | refine i_ge ?_ | refine i_eqi ?_ | refine i_is ?_ | refine i_isn ?_ | refine i_nes ?_ | refine i_rbl ?_ | refine i_eCallX ?_ | refine i_eCallKwX ?_ | refine i_sRaiseF ?_ | refine i_eIsX ?_ | refine i_eFld ?_ | refine i_eDit1 ?_ | refine i_sTry ?_ | refine i_runX ?_) | ((with_reducible refine i_eVarX ?_); refine ⟨_, rfl, ?_⟩) | ((with_reducible refine i_len1 ?_ ?_); · exact Nat.le_of_ble_eq_true rfl))
    rw [decide_eq_true rfl]
    refine iteF ?_
    repeat (first | (with_reducible first | refine i_sIf ?_ | refine i_sNil ?_ | refine i_sRet ?_ | refine i_sAsg ?_ | refine i_sDrop ?_ | refine i_sPut ?_ | refine i_sPar ?_ | refine i_eC ?_ | refine i_eOp ?_ | refine i_eChain ?_ | refine i_eB ?_ | refine i_eUn ?_ | refine i_eTup ?_ | refine i_eLst ?_ | refine i_eLstM ?_ | refine i_eAnd ?_ | refine i_eOr ?_ | refine i_eNot ?_ | refine i_eIf ?_ | refine i_bOf ?_ | refine i_bAnd ?_ | refine i_bOr ?_ | refine i_bNot ?_ | refine i_bYes ?_ | refine i_aNil ?_ | refine i_aCons ?_ | refine i_eCall ?_ | refine i_eCallKw ?_ | refine i_eCut ?_ | refine i_oNone ?_ | refine i_oSome ?_ | refine i_eM ?_ | refine i_sSq ?_ | refine i_sRange1 ?_ | refine i_sRange2 ?_ | refine i_sEnum ?_ | refine i_eIsi ?_ | refine i_eIsi2 ?_ | refine i_eLc ?_ | refine i_eLcM ?_ | refine i_sFor ?_ | refine i_eDisp1 ?_ | refine i_bl ?_ | refine i_int ?_ | refine i_nm ?_ | refine i_one ?_ | refine i_two ?_ | refine i_rng ?_ | refine i_len0 ?_ | refine i_int1 ?_ | refine i_intb ?_ | refine i_abs ?_ | refine i_add ?_ | refine i_sub ?_ | refine i_lt ?_ | refine i_le ?_ | refine i_gt ?_ | refine i_ge ?_ | refine i_eqi ?_ | refine i_is ?_ | refine i_isn ?_ | refine i_nes ?_ | refine i_rbl ?_ | refine i_eCallX ?_ | refine i_eCallKwX ?_ | refine i_sRaiseF ?_ | refine i_eIsX ?_ | refine i_eFld ?_ | refine i_eDit1 ?_ | refine i_sTry ?_ | refine i_runX ?_) | ((with_reducible refine i_eVarX ?_); refine ⟨_, rfl, ?_⟩) | ((with_reducible refine i_len1 ?_ ?_); · exact Nat.le_of_ble_eq_true rfl))
    refine rev_both he fun d' e' => ?_
    repeat (first | (with_reducible first | refine i_sIf ?_ | refine i_sNil ?_ | refine i_sRet ?_ | refine i_sAsg ?_ | refine i_sDrop ?_ | refine i_sPut ?_ | refine i_sPar ?_ | refine i_eC ?_ | refine i_eOp ?_ | refine i_eChain ?_ | refine i_eB ?_ | refine i_eUn ?_ | refine i_eTup ?_ | refine i_eLst ?_ | refine i_eLstM ?_ | refine i_eAnd ?_ | refine i_eOr ?_ | refine i_eNot ?_ | refine i_eIf ?_ | refine i_bOf ?_ | refine i_bAnd ?_ | refine i_bOr ?_ | refine i_bNot ?_ | refine i_bYes ?_ | refine i_aNil ?_ | refine i_aCons ?_ | refine i_eCall ?_ | refine i_eCallKw ?_ | refine i_eCut ?_ | refine i_oNone ?_ | refine i_oSome ?_ | refine i_eM ?_ | refine i_sSq ?_ | refine i_sRange1 ?_ | refine i_sRange2 ?_ | refine i_sEnum ?_ | refine i_eIsi ?_ | refine i_eIsi2 ?_ | refine i_eLc ?_ | refine i_eLcM ?_ | refine i_sFor ?_ | refine i_eDisp1 ?_ | refine i_bl ?_ | refine i_int ?_ | refine i_nm ?_ | refine i_one ?_ | refine i_two ?_ | refine i_rng ?_ | refine i_len0 ?_ | refine i_int1 ?_ | refine i_intb ?_ | refine i_abs ?_ | refine i_add ?_ | refine i_sub ?_ | refine i_lt ?_ | refine i_le ?_ | refine i_gt ?_ | refine i_ge ?_ | refine i_eqi ?_ | refine i_is ?_ | refine i_isn ?_ | refine i_nes ?_ | refine i_rbl ?_ | refine i_eCallX ?_ | refine i_eCallKwX ?_ | refine i_sRaiseF ?_ | refine i_eIsX ?_ | refine i_eFld ?_ | refine i_eDit1 ?_ | refine i_sTry ?_ | refine i_runX ?_) | ((with_reducible refine i_eVarX ?_); refine ⟨_, rfl, ?_⟩) | ((with_reducible refine i_len1 ?_ ?_); · exact Nat.le_of_ble_eq_true rfl))
    refine ⟨rfl, rfl, told_ _ _ _ _ _ e' (List.reverse_perm zs) ?_⟩
    repeat (first | (with_reducible first | refine i_sIf ?_ | refine i_sNil ?_ | refine i_sRet ?_ | refine i_sAsg ?_ | refine i_sDrop ?_ | refine i_sPut ?_ | refine i_sPar ?_ | refine i_eC ?_ | refine i_eOp ?_ | refine i_eChain ?_ | refine i_eB ?_ | refine i_eUn ?_ | refine i_eTup ?_ | refine i_eLst ?_ | refine i_eLstM ?_ | refine i_eAnd ?_ | refine i_eOr ?_ | refine i_eNot ?_ | refine i_eIf ?_ | refine i_bOf ?_ | refine i_bAnd ?_ | refine i_bOr ?_ | refine i_bNot ?_ | refine i_bYes ?_ | refine i_aNil ?_ | refine i_aCons ?_ | refine i_eCall ?_ | refine i_eCallKw ?_ | refine i_eCut ?_ | refine i_oNone ?_ | refine i_oSome ?_ | refine i_eM ?_ | refine i_sSq ?_ | refine i_sRange1 ?_ | refine i_sRange2 ?_ | refine i_sEnum ?_ | refine i_eIsi ?_ | refine i_eIsi2 ?_ | refine i_eLc ?_ | refine i_eLcM ?_ | refine i_sFor ?_ | refine i_eDisp1 ?_ | refine i_bl ?_ | refine i_int ?_ | refine i_nm ?_ | refine i_one ?_ | refine i_two ?_ | refine i_rng ?_ | refine i_len0 ?_ | refine i_int1 ?_ | refine i_intb ?_ | refine i_abs ?_ | refine i_add ?_ | refine i_sub ?_ | refine i_lt ?_ | refine i_le ?_ | refine i_gt ?_ | refine i_ge ?_ | refine i_eqi ?_ | refine i_is ?_ | refine i_isn ?_ | refine i_nes ?_ | refine i_rbl ?_ | refine i_eCallX ?_ | refine i_eCallKwX ?_ | refine i_sRaiseF ?_ | refine i_eIsX ?_ | refine i_eFld ?_ | refine i_eDit1 ?_ | refine i_sTry ?_ | refine i_runX ?_) | ((with_reducible refine i_eVarX ?_); refine ⟨_, rfl, ?_⟩) | ((with_reducible refine i_len1 ?_ ?_); · exact Nat.le_of_ble_eq_true rfl))
    refine repr_of rfl q7h q7w (by decide) ?_
    repeat (first | (with_reducible first | refine i_sIf ?_ | refine i_sNil ?_ | refine i_sRet ?_ | refine i_sAsg ?_ | refine i_sDrop ?_ | refine i_sPut ?_ | refine i_sPar ?_ | refine i_eC ?_ | refine i_eOp ?_ | refine i_eChain ?_ | refine i_eB ?_ | refine i_eUn ?_ | refine i_eTup ?_ | refine i_eLst ?_ | refine i_eLstM ?_ | refine i_eAnd ?_ | refine i_eOr ?_ | refine i_eNot ?_ | refine i_eIf ?_ | refine i_bOf ?_ | refine i_bAnd ?_ | refine i_bOr ?_ | refine i_bNot ?_ | refine i_bYes ?_ | refine i_aNil ?_ | refine i_aCons ?_ | refine i_eCall ?_ | refine i_eCallKw ?_ | refine i_eCut ?_ | refine i_oNone ?_ | refine i_oSome ?_ | refine i_eM ?_ | refine i_sSq ?_ | refine i_sRange1 ?_ | refine i_sRange2 ?_ | refine i_sEnum ?_ | refine i_eIsi ?_ | refine i_eIsi2 ?_ | refine i_eLc ?_ | refine i_eLcM ?_ | refine i_sFor ?_ | refine i_eDisp1 ?_ | refine i_bl ?_ | refine i_int ?_ | refine i_nm ?_ | refine i_one ?_ | refine i_two ?_ | refine i_rng ?_ | refine i_len0 ?_ | refine i_int1 ?_ | refine i_intb ?_ | refine i_abs ?_ | refine i_add ?_ | refine i_sub ?_ | refine i_lt ?_ | refine i_le ?_ | refine i_gt ?_ | refine i_ge ?_ | refine i_eqi ?_ | refine i_is ?_ | refine i_isn ?_ | refine i_nes ?_ | refine i_rbl ?_ | refine i_eCallX ?_ | refine i_eCallKwX ?_ | refine i_sRaiseF ?_ | refine i_eIsX ?_ | refine i_eFld ?_ | refine i_eDit1 ?_ | refine i_sTry ?_ | refine i_runX ?_) | ((with_reducible refine i_eVarX ?_); refine ⟨_, rfl, ?_⟩) | ((with_reducible refine i_len1 ?_ ?_); · exact Nat.le_of_ble_eq_true rfl))
    refine repr_of rfl q7h q7w (by decide) ?_
    repeat (first | (with_reducible first | refine i_sIf ?_ | refine i_sNil ?_ | refine i_sRet ?_ | refine i_sAsg ?_ | refine i_sDrop ?_ | refine i_sPut ?_ | refine i_sPar ?_ | refine i_eC ?_ | refine i_eOp ?_ | refine i_eChain ?_ | refine i_eB ?_ | refine i_eUn ?_ | refine i_eTup ?_ | refine i_eLst ?_ | refine i_eLstM ?_ | refine i_eAnd ?_ | refine i_eOr ?_ | refine i_eNot ?_ | refine i_eIf ?_ | refine i_bOf ?_ | refine i_bAnd ?_ | refine i_bOr ?_ | refine i_bNot ?_ | refine i_bYes ?_ | refine i_aNil ?_ | refine i_aCons ?_ | refine i_eCall ?_ | refine i_eCallKw ?_ | refine i_eCut ?_ | refine i_oNone ?_ | refine i_oSome ?_ | refine i_eM ?_ | refine i_sSq ?_ | refine i_sRange1 ?_ | refine i_sRange2 ?_ | refine i_sEnum ?_ | refine i_eIsi ?_ | refine i_eIsi2 ?_ | refine i_eLc ?_ | refine i_eLcM ?_ | refine i_sFor ?_ | refine i_eDisp1 ?_ | refine i_bl ?_ | refine i_int ?_ | refine i_nm ?_ | refine i_one ?_ | refine i_two ?_ | refine i_rng ?_ | refine i_len0 ?_ | refine i_int1 ?_ | refine i_intb ?_ | refine i_abs ?_ | refine i_add ?_ | refine i_sub ?_ | refine i_lt ?_ | refine i_le ?_ | refine i_gt ?_ | refine i_ge ?_ | refine i_eqi ?_ | refine i_is ?_ | refine i_isn ?_ | refine i_nes ?_ | refine i_rbl ?_ | refine i_eCallX ?_ | refine i_eCallKwX ?_ | refine i_sRaiseF ?_ | refine i_eIsX ?_ | refine i_eFld ?_ | refine i_eDit1 ?_ | refine i_sTry ?_ | refine i_runX ?_) | ((with_reducible refine i_eVarX ?_); refine ⟨_, rfl, ?_⟩) | ((with_reducible refine i_len1 ?_ ?_); · exact Nat.le_of_ble_eq_true rfl))
    rw [decide_eq_true rfl]
    refine iteF ?_
    repeat (first | (with_reducible first | refine i_sIf ?_ | refine i_sNil ?_ | refine i_sRet ?_ | refine i_sAsg ?_ | refine i_sDrop ?_ | refine i_sPut ?_ | refine i_sPar ?_ | refine i_eC ?_ | refine i_eOp ?_ | refine i_eChain ?_ | refine i_eB ?_ | refine i_eUn ?_ | refine i_eTup ?_ | refine i_eLst ?_ | refine i_eLstM ?_ | refine i_eAnd ?_ | refine i_eOr ?_ | refine i_eNot ?_ | refine i_eIf ?_ | refine i_bOf ?_ | refine i_bAnd ?_ | refine i_bOr ?_ | refine i_bNot ?_ | refine i_bYes ?_ | refine i_aNil ?_ | refine i_aCons ?_ | refine i_eCall ?_ | refine i_eCallKw ?_ | refine i_eCut ?_ | refine i_oNone ?_ | refine i_oSome ?_ | refine i_eM ?_ | refine i_sSq ?_ | refine i_sRange1 ?_ | refine i_sRange2 ?_ | refine i_sEnum ?_ | refine i_eIsi ?_ | refine i_eIsi2 ?_ | refine i_eLc ?_ | refine i_eLcM ?_ | refine i_sFor ?_ | refine i_eDisp1 ?_ | refine i_bl ?_ | refine i_int ?_ | refine i_nm ?_ | refine i_one ?_ | refine i_two ?_ | refine i_rng ?_ | refine i_len0 ?_ | refine i_int1 ?_ | refine i_intb ?_ | refine i_abs ?_ | refine i_add ?_ | refine i_sub ?_ | refine i_lt ?_ | refine i_le ?_ | refine i_gt ?_ | refine i_ge ?_ | refine i_eqi ?_ | refine i_is ?_ | refine i_isn ?_ | refine i_nes ?_ | refine i_rbl ?_ | refine i_eCallX ?_ | refine i_eCallKwX ?_ | refine i_sRaiseF ?_ | refine i_eIsX ?_ | refine i_eFld ?_ | refine i_eDit1 ?_ | refine i_sTry ?_ | refine i_runX ?_) | ((with_reducible refine i_eVarX ?_); refine ⟨_, rfl, ?_⟩) | ((with_reducible refine i_len1 ?_ ?_); · exact Nat.le_of_ble_eq_true rfl))
    refine repr_of (d5d _) d5h d5w (by decide) ?_
    repeat (first | (with_reducible first | refine i_sIf ?_ | refine i_sNil ?_ | refine i_sRet ?_ | refine i_sAsg ?_ | refine i_sDrop ?_ | refine i_sPut ?_ | refine i_sPar ?_ | refine i_eC ?_ | refine i_eOp ?_ | refine i_eChain ?_ | refine i_eB ?_ | refine i_eUn ?_ | refine i_eTup ?_ | refine i_eLst ?_ | refine i_eLstM ?_ | refine i_eAnd ?_ | refine i_eOr ?_ | refine i_eNot ?_ | refine i_eIf ?_ | refine i_bOf ?_ | refine i_bAnd ?_ | refine i_bOr ?_ | refine i_bNot ?_ | refine i_bYes ?_ | refine i_aNil ?_ | refine i_aCons ?_ | refine i_eCall ?_ | refine i_eCallKw ?_ | refine i_eCut ?_ | refine i_oNone ?_ | refine i_oSome ?_ | refine i_eM ?_ | refine i_sSq ?_ | refine i_sRange1 ?_ | refine i_sRange2 ?_ | refine i_sEnum ?_ | refine i_eIsi ?_ | refine i_eIsi2 ?_ | refine i_eLc ?_ | refine i_eLcM ?_ | refine i_sFor ?_ | refine i_eDisp1 ?_ | refine i_bl ?_ | refine i_int ?_ | refine i_nm ?_ | refine i_one ?_ | refine i_two ?_ | refine i_rng ?_ | refine i_len0 ?_ | refine i_int1 ?_ | refine i_intb ?_ | refine i_abs ?_ | refine i_add ?_ | refine i_sub ?_ | refine i_lt ?_ | refine i_le ?_ | refine i_gt ?_ | refine i_ge ?_ | refine i_eqi ?_ | refine i_is ?_ | refine i_isn ?_ | refine i_nes ?_ | refine i_rbl ?_ | refine i_eCallX ?_ | refine i_eCallKwX ?_ | refine i_sRaiseF ?_ | refine i_eIsX ?_ | refine i_eFld ?_ | refine i_eDit1 ?_ | refine i_sTry ?_ | refine i_runX ?_) | ((with_reducible refine i_eVarX ?_); refine ⟨_, rfl, ?_⟩) | ((with_reducible refine i_len1 ?_ ?_); · exact Nat.le_of_ble_eq_true rfl))
    rw [decide_eq_true rfl]
    refine iteF ?_
    repeat (first | (with_reducible first | refine i_sIf ?_ | refine i_sNil ?_ | refine i_sRet ?_ | refine i_sAsg ?_ | refine i_sDrop ?_ | refine i_sPut ?_ | refine i_sPar ?_ | refine i_eC ?_ | refine i_eOp ?_ | refine i_eChain ?_ | refine i_eB ?_ | refine i_eUn ?_ | refine i_eTup ?_ | refine i_eLst ?_ | refine i_eLstM ?_ | refine i_eAnd ?_ | refine i_eOr ?_ | refine i_eNot ?_ | refine i_eIf ?_ | refine i_bOf ?_ | refine i_bAnd ?_ | refine i_bOr ?_ | refine i_bNot ?_ | refine i_bYes ?_ | refine i_aNil ?_ | refine i_aCons ?_ | refine i_eCall ?_ | refine i_eCallKw ?_ | refine i_eCut ?_ | refine i_oNone ?_ | refine i_oSome ?_ | refine i_eM ?_ | refine i_sSq ?_ | refine i_sRange1 ?_ | refine i_sRange2 ?_ | refine i_sEnum ?_ | refine i_eIsi ?_ | refine i_eIsi2 ?_ | refine i_eLc ?_ | refine i_eLcM ?_ | refine i_sFor ?_ | refine i_eDisp1 ?_ | refine i_bl ?_ | refine i_int ?_ | refine i_nm ?_ | refine i_one ?_ | refine i_two ?_ | refine i_rng ?_ | refine i_len0 ?_ | refine i_int1 ?_ | refine i_intb ?_ | refine i_abs ?_ | refine i_add ?_ | refine i_sub ?_ | refine i_lt ?_ | refine i_le ?_ | refine i_gt ?_ | refine i_ge ?_ | refine i_eqi ?_ | refine i_is ?_ | refine i_isn ?_ | refine i_nes ?_ | refine i_rbl ?_ | refine i_eCallX ?_ | refine i_eCallKwX ?_ | refine i_sRaiseF ?_ | refine i_eIsX ?_ | refine i_eFld ?_ | refine i_eDit1 ?_ | refine i_sTry ?_ | refine i_runX ?_) | ((with_reducible refine i_eVarX ?_); refine ⟨_, rfl, ?_⟩) | ((with_reducible refine i_len1 ?_ ?_); · exact Nat.le_of_ble_eq_true rfl))
    exact hnx _ rfl
  subst hP
  have g3 : ∀ (o : SO) (E : Store), drf (some o :: (T2 ++ E)) (.ref (T.length + 1)) = .lst (ps.map sqD) := fun o E => drf_ref (by
    rw [List.getElem?_cons_succ, List.getElem?_append_left (List.getElem?_eq_some_iff.mp g2).1]
    exact g2)
  have g30 : ∀ (o : SO), drf (some o :: T2) (.ref (T.length + 1)) = .lst (ps.map sqD) := fun o => drf_ref g2
  -- at
  refine cut1 9 (fun d9 S' => ∃ (o : SO) (a : Nat), Urn (K + 49) o ∧ a ≤ zs.length ∧ d9 = .int a ∧ S' = some o :: T2) (fun N' hrt hnx => ?_) (fun d9 S' hP => ?_)
  · repeat (first | (with_reducible first | refine i_sIf ?_ | refine i_sNil ?_ | refine i_sRet ?_ | refine i_sAsg ?_ | refine i_sDrop ?_ | refine i_sPut ?_ | refine i_sPar ?_ | refine i_eC ?_ | refine i_eOp ?_ | refine i_eChain ?_ | refine i_eB ?_ | refine i_eUn ?_ | refine i_eTup ?_ | refine i_eLst ?_ | refine i_eLstM ?_ | refine i_eAnd ?_ | refine i_eOr ?_ | refine i_eNot ?_ | refine i_eIf ?_ | refine i_bOf ?_ | refine i_bAnd ?_ | refine i_bOr ?_ | refine i_bNot ?_ | refine i_bYes ?_ | refine i_aNil ?_ | refine i_aCons ?_ | refine i_eCall ?_ | refine i_eCallKw ?_ | refine i_eCut ?_ | refine i_oNone ?_ | refine i_oSome ?_ | refine i_eM ?_ | refine i_sSq ?_ | refine i_sRange1 ?_ | refine i_sRange2 ?_ | refine i_sEnum ?_ | refine i_eIsi ?_ | refine i_eIsi2 ?_ | refine i_eLc ?_ | refine i_eLcM ?_ | refine i_sFor ?_ | refine i_eDisp1 ?_ | refine i_bl ?_ | refine i_int ?_ | refine i_nm ?_ | refine i_one ?_ | refine i_two ?_ | refine i_rng ?_ | refine i_len0 ?_ | refine i_int1 ?_ | refine i_intb ?_ | refine i_abs ?_ | refine i_add ?_ | refine i_sub ?_ | refine i_lt ?_ | refine i_le ?_ | refine i_gt ?_ | refine i_ge ?_ | refine i_eqi ?_ | refine i_is ?_ | refine i_isn ?_ | refine i_nes ?_ | refine i_rbl ?_ | refine i_eCallX ?_ | refine i_eCallKwX ?_ | refine i_sRaiseF ?_ | refine i_eIsX ?_ | refine i_eFld ?_ | refine i_eDit1 ?_ | refine i_sTry ?_ | refine i_runX ?_) | ((with_reducible refine i_eVarX ?_); refine ⟨_, rfl, ?_⟩) | ((with_reducible refine i_len1 ?_ ?_); · exact Nat.le_of_ble_eq_true rfl))
    refine len_seq (xs := ps.map sqD) (by rw [g30]; rfl) ?_
    repeat (first | (with_reducible first | refine i_sIf ?_ | refine i_sNil ?_ | refine i_sRet ?_ | refine i_sAsg ?_ | refine i_sDrop ?_ | refine i_sPut ?_ | refine i_sPar ?_ | refine i_eC ?_ | refine i_eOp ?_ | refine i_eChain ?_ | refine i_eB ?_ | refine i_eUn ?_ | refine i_eTup ?_ | refine i_eLst ?_ | refine i_eLstM ?_ | refine i_eAnd ?_ | refine i_eOr ?_ | refine i_eNot ?_ | refine i_eIf ?_ | refine i_bOf ?_ | refine i_bAnd ?_ | refine i_bOr ?_ | refine i_bNot ?_ | refine i_bYes ?_ | refine i_aNil ?_ | refine i_aCons ?_ | refine i_eCall ?_ | refine i_eCallKw ?_ | refine i_eCut ?_ | refine i_oNone ?_ | refine i_oSome ?_ | refine i_eM ?_ | refine i_sSq ?_ | refine i_sRange1 ?_ | refine i_sRange2 ?_ | refine i_sEnum ?_ | refine i_eIsi ?_ | refine i_eIsi2 ?_ | refine i_eLc ?_ | refine i_eLcM ?_ | refine i_sFor ?_ | refine i_eDisp1 ?_ | refine i_bl ?_ | refine i_int ?_ | refine i_nm ?_ | refine i_one ?_ | refine i_two ?_ | refine i_rng ?_ | refine i_len0 ?_ | refine i_int1 ?_ | refine i_intb ?_ | refine i_abs ?_ | refine i_add ?_ | refine i_sub ?_ | refine i_lt ?_ | refine i_le ?_ | refine i_gt ?_ | refine i_ge ?_ | refine i_eqi ?_ | refine i_is ?_ | refine i_isn ?_ | refine i_nes ?_ | refine i_rbl ?_ | refine i_eCallX ?_ | refine i_eCallKwX ?_ | refine i_sRaiseF ?_ | refine i_eIsX ?_ | refine i_eFld ?_ | refine i_eDit1 ?_ | refine i_sTry ?_ | refine i_runX ?_) | ((with_reducible refine i_eVarX ?_); refine ⟨_, rfl, ?_⟩) | ((with_reducible refine i_len1 ?_ ?_); · exact Nat.le_of_ble_eq_true rfl))
    rw [List.length_map]
    refine draw_of u (by omega) (by omega) (by omega) fun o1 n u1 n0 n1 => ?_
    repeat (first | (with_reducible first | refine i_sIf ?_ | refine i_sNil ?_ | refine i_sRet ?_ | refine i_sAsg ?_ | refine i_sDrop ?_ | refine i_sPut ?_ | refine i_sPar ?_ | refine i_eC ?_ | refine i_eOp ?_ | refine i_eChain ?_ | refine i_eB ?_ | refine i_eUn ?_ | refine i_eTup ?_ | refine i_eLst ?_ | refine i_eLstM ?_ | refine i_eAnd ?_ | refine i_eOr ?_ | refine i_eNot ?_ | refine i_eIf ?_ | refine i_bOf ?_ | refine i_bAnd ?_ | refine i_bOr ?_ | refine i_bNot ?_ | refine i_bYes ?_ | refine i_aNil ?_ | refine i_aCons ?_ | refine i_eCall ?_ | refine i_eCallKw ?_ | refine i_eCut ?_ | refine i_oNone ?_ | refine i_oSome ?_ | refine i_eM ?_ | refine i_sSq ?_ | refine i_sRange1 ?_ | refine i_sRange2 ?_ | refine i_sEnum ?_ | refine i_eIsi ?_ | refine i_eIsi2 ?_ | refine i_eLc ?_ | refine i_eLcM ?_ | refine i_sFor ?_ | refine i_eDisp1 ?_ | refine i_bl ?_ | refine i_int ?_ | refine i_nm ?_ | refine i_one ?_ | refine i_two ?_ | refine i_rng ?_ | refine i_len0 ?_ | refine i_int1 ?_ | refine i_intb ?_ | refine i_abs ?_ | refine i_add ?_ | refine i_sub ?_ | refine i_lt ?_ | refine i_le ?_ | refine i_gt ?_ | refine i_ge ?_ | refine i_eqi ?_ | refine i_is ?_ | refine i_isn ?_ | refine i_nes ?_ | refine i_rbl ?_ | refine i_eCallX ?_ | refine i_eCallKwX ?_ | refine i_sRaiseF ?_ | refine i_eIsX ?_ | refine i_eFld ?_ | refine i_eDit1 ?_ | refine i_sTry ?_ | refine i_runX ?_) | ((with_reducible refine i_eVarX ?_); refine ⟨_, rfl, ?_⟩) | ((with_reducible refine i_len1 ?_ ?_); · exact Nat.le_of_ble_eq_true rfl))
    exact hnx _ _ ⟨o1, n.toNat, u1, by omega, by rw [Int.toNat_of_nonneg n0], rfl⟩
  clear u
  obtain ⟨o, a, u, ha, rfl, rfl⟩ := hP
  have cutF : ∀ {S : Store} {Q' : QD}, (∀ d', (d' = .lst (zs.take a) ∨ d' = .tup (zs.take a)) → Q' d' S) → rCut d5 none (some (a : Int)) S Q' := fun q => cut_both he fun d' e' => q d' (by rw [cut_to] at e'; exact e')
  have cutB : ∀ {S : Store} {Q' : QD}, (∀ d', (d' = .lst (zs.drop a) ∨ d' = .tup (zs.drop a)) → Q' d' S) → rCut d5 (some (a : Int)) none S Q' := fun q => cut_both he fun d' e' => q d' (by rw [cut_fr ha] at e'; exact e')
  have hta : (zs.take a).length ≤ 7 := by rw [List.length_take]; omega
  have htd : (zs.drop a).length ≤ 7 := by rw [List.length_drop]; omega
  have mid_ : ∀ w, Flat w → (∀ z ∈ zs.take a ++ [w] ++ zs.drop a, Flat z) ∧ (zs.take a ++ [w] ++ zs.drop a).length < 60 ∧ w ∈ zs.take a ++ [w] ++ zs.drop a := fun w hw => by
    refine ⟨fun z hz => ?_, ?_, by simp⟩
    · rcases List.mem_append.mp hz with z1 | z1
      · rcases List.mem_append.mp z1 with z1 | z1
        · exact (hv z (List.mem_of_mem_take z1)).flat
        · rw [List.mem_singleton.mp z1]
          exact hw
      · exact (hv z (List.mem_of_mem_drop z1)).flat
    · rw [List.length_append, List.length_append, List.length_singleton]
      omega
  -- bent
  refine cut1 10 (fun d10 S' => ∃ o w, Urn (K + 50) o ∧ w ∈ odds ∧ d10 = .ref (T2.length + 1) ∧ S' = some o :: (T2 ++ [some (.lst [.lst (zs.take a ++ [w] ++ zs.drop a)])])) (fun N' hrt hnx => ?_) (fun d10 S' hP => ?_)
  · repeat (first | (with_reducible first | refine i_sIf ?_ | refine i_sNil ?_ | refine i_sRet ?_ | refine i_sAsg ?_ | refine i_sDrop ?_ | refine i_sPut ?_ | refine i_sPar ?_ | refine i_eC ?_ | refine i_eOp ?_ | refine i_eChain ?_ | refine i_eB ?_ | refine i_eUn ?_ | refine i_eTup ?_ | refine i_eLst ?_ | refine i_eLstM ?_ | refine i_eAnd ?_ | refine i_eOr ?_ | refine i_eNot ?_ | refine i_eIf ?_ | refine i_bOf ?_ | refine i_bAnd ?_ | refine i_bOr ?_ | refine i_bNot ?_ | refine i_bYes ?_ | refine i_aNil ?_ | refine i_aCons ?_ | refine i_eCall ?_ | refine i_eCallKw ?_ | refine i_eCut ?_ | refine i_oNone ?_ | refine i_oSome ?_ | refine i_eM ?_ | refine i_sSq ?_ | refine i_sRange1 ?_ | refine i_sRange2 ?_ | refine i_sEnum ?_ | refine i_eIsi ?_ | refine i_eIsi2 ?_ | refine i_eLc ?_ | refine i_eLcM ?_ | refine i_sFor ?_ | refine i_eDisp1 ?_ | refine i_bl ?_ | refine i_int ?_ | refine i_nm ?_ | refine i_one ?_ | refine i_two ?_ | refine i_rng ?_ | refine i_len0 ?_ | refine i_int1 ?_ | refine i_intb ?_ | refine i_abs ?_ | refine i_add ?_ | refine i_sub ?_ | refine i_lt ?_ | refine i_le ?_ | refine i_gt ?_ | refine i_ge ?_ | refine i_eqi ?_ | refine i_is ?_ | refine i_isn ?_ | refine i_nes ?_ | refine i_rbl ?_ | refine i_eCallX ?_ | refine i_eCallKwX ?_ | refine i_sRaiseF ?_ | refine i_eIsX ?_ | refine i_eFld ?_ | refine i_eDit1 ?_ | refine i_sTry ?_ | refine i_runX ?_) | ((with_reducible refine i_eVarX ?_); refine ⟨_, rfl, ?_⟩) | ((with_reducible refine i_len1 ?_ ?_); · exact Nat.le_of_ble_eq_true rfl))
    refine cutF fun d' e' => ?_
    repeat (first | (with_reducible first | refine i_sIf ?_ | refine i_sNil ?_ | refine i_sRet ?_ | refine i_sAsg ?_ | refine i_sDrop ?_ | refine i_sPut ?_ | refine i_sPar ?_ | refine i_eC ?_ | refine i_eOp ?_ | refine i_eChain ?_ | refine i_eB ?_ | refine i_eUn ?_ | refine i_eTup ?_ | refine i_eLst ?_ | refine i_eLstM ?_ | refine i_eAnd ?_ | refine i_eOr ?_ | refine i_eNot ?_ | refine i_eIf ?_ | refine i_bOf ?_ | refine i_bAnd ?_ | refine i_bOr ?_ | refine i_bNot ?_ | refine i_bYes ?_ | refine i_aNil ?_ | refine i_aCons ?_ | refine i_eCall ?_ | refine i_eCallKw ?_ | refine i_eCut ?_ | refine i_oNone ?_ | refine i_oSome ?_ | refine i_eM ?_ | refine i_sSq ?_ | refine i_sRange1 ?_ | refine i_sRange2 ?_ | refine i_sEnum ?_ | refine i_eIsi ?_ | refine i_eIsi2 ?_ | refine i_eLc ?_ | refine i_eLcM ?_ | refine i_sFor ?_ | refine i_eDisp1 ?_ | refine i_bl ?_ | refine i_int ?_ | refine i_nm ?_ | refine i_one ?_ | refine i_two ?_ | refine i_rng ?_ | refine i_len0 ?_ | refine i_int1 ?_ | refine i_intb ?_ | refine i_abs ?_ | refine i_add ?_ | refine i_sub ?_ | refine i_lt ?_ | refine i_le ?_ | refine i_gt ?_ | refine i_ge ?_ | refine i_eqi ?_ | refine i_is ?_ | refine i_isn ?_ | refine i_nes ?_ | refine i_rbl ?_ | refine i_eCallX ?_ | refine i_eCallKwX ?_ | refine i_sRaiseF ?_ | refine i_eIsX ?_ | refine i_eFld ?_ | refine i_eDit1 ?_ | refine i_sTry ?_ | refine i_runX ?_) | ((with_reducible refine i_eVarX ?_); refine ⟨_, rfl, ?_⟩) | ((with_reducible refine i_len1 ?_ ?_); · exact Nat.le_of_ble_eq_true rfl))
    refine list_both e' ?_
    repeat (first | (with_reducible first | refine i_sIf ?_ | refine i_sNil ?_ | refine i_sRet ?_ | refine i_sAsg ?_ | refine i_sDrop ?_ | refine i_sPut ?_ | refine i_sPar ?_ | refine i_eC ?_ | refine i_eOp ?_ | refine i_eChain ?_ | refine i_eB ?_ | refine i_eUn ?_ | refine i_eTup ?_ | refine i_eLst ?_ | refine i_eLstM ?_ | refine i_eAnd ?_ | refine i_eOr ?_ | refine i_eNot ?_ | refine i_eIf ?_ | refine i_bOf ?_ | refine i_bAnd ?_ | refine i_bOr ?_ | refine i_bNot ?_ | refine i_bYes ?_ | refine i_aNil ?_ | refine i_aCons ?_ | refine i_eCall ?_ | refine i_eCallKw ?_ | refine i_eCut ?_ | refine i_oNone ?_ | refine i_oSome ?_ | refine i_eM ?_ | refine i_sSq ?_ | refine i_sRange1 ?_ | refine i_sRange2 ?_ | refine i_sEnum ?_ | refine i_eIsi ?_ | refine i_eIsi2 ?_ | refine i_eLc ?_ | refine i_eLcM ?_ | refine i_sFor ?_ | refine i_eDisp1 ?_ | refine i_bl ?_ | refine i_int ?_ | refine i_nm ?_ | refine i_one ?_ | refine i_two ?_ | refine i_rng ?_ | refine i_len0 ?_ | refine i_int1 ?_ | refine i_intb ?_ | refine i_abs ?_ | refine i_add ?_ | refine i_sub ?_ | refine i_lt ?_ | refine i_le ?_ | refine i_gt ?_ | refine i_ge ?_ | refine i_eqi ?_ | refine i_is ?_ | refine i_isn ?_ | refine i_nes ?_ | refine i_rbl ?_ | refine i_eCallX ?_ | refine i_eCallKwX ?_ | refine i_sRaiseF ?_ | refine i_eIsX ?_ | refine i_eFld ?_ | refine i_eDit1 ?_ | refine i_sTry ?_ | refine i_runX ?_) | ((with_reducible refine i_eVarX ?_); refine ⟨_, rfl, ?_⟩) | ((with_reducible refine i_len1 ?_ ?_); · exact Nat.le_of_ble_eq_true rfl))
    refine ⟨_, o, T2, rfl, rfl, u, by omega, fun o1 w u1 hw => ?_⟩
    repeat (first | (with_reducible first | refine i_sIf ?_ | refine i_sNil ?_ | refine i_sRet ?_ | refine i_sAsg ?_ | refine i_sDrop ?_ | refine i_sPut ?_ | refine i_sPar ?_ | refine i_eC ?_ | refine i_eOp ?_ | refine i_eChain ?_ | refine i_eB ?_ | refine i_eUn ?_ | refine i_eTup ?_ | refine i_eLst ?_ | refine i_eLstM ?_ | refine i_eAnd ?_ | refine i_eOr ?_ | refine i_eNot ?_ | refine i_eIf ?_ | refine i_bOf ?_ | refine i_bAnd ?_ | refine i_bOr ?_ | refine i_bNot ?_ | refine i_bYes ?_ | refine i_aNil ?_ | refine i_aCons ?_ | refine i_eCall ?_ | refine i_eCallKw ?_ | refine i_eCut ?_ | refine i_oNone ?_ | refine i_oSome ?_ | refine i_eM ?_ | refine i_sSq ?_ | refine i_sRange1 ?_ | refine i_sRange2 ?_ | refine i_sEnum ?_ | refine i_eIsi ?_ | refine i_eIsi2 ?_ | refine i_eLc ?_ | refine i_eLcM ?_ | refine i_sFor ?_ | refine i_eDisp1 ?_ | refine i_bl ?_ | refine i_int ?_ | refine i_nm ?_ | refine i_one ?_ | refine i_two ?_ | refine i_rng ?_ | refine i_len0 ?_ | refine i_int1 ?_ | refine i_intb ?_ | refine i_abs ?_ | refine i_add ?_ | refine i_sub ?_ | refine i_lt ?_ | refine i_le ?_ | refine i_gt ?_ | refine i_ge ?_ | refine i_eqi ?_ | refine i_is ?_ | refine i_isn ?_ | refine i_nes ?_ | refine i_rbl ?_ | refine i_eCallX ?_ | refine i_eCallKwX ?_ | refine i_sRaiseF ?_ | refine i_eIsX ?_ | refine i_eFld ?_ | refine i_eDit1 ?_ | refine i_sTry ?_ | refine i_runX ?_) | ((with_reducible refine i_eVarX ?_); refine ⟨_, rfl, ?_⟩) | ((with_reducible refine i_len1 ?_ ?_); · exact Nat.le_of_ble_eq_true rfl))
    refine add_lst rfl rfl (by rw [List.length_singleton]; exact Nat.le_trans (Nat.add_le_add_right hta 1) (by decide)) ?_
    repeat (first | (with_reducible first | refine i_sIf ?_ | refine i_sNil ?_ | refine i_sRet ?_ | refine i_sAsg ?_ | refine i_sDrop ?_ | refine i_sPut ?_ | refine i_sPar ?_ | refine i_eC ?_ | refine i_eOp ?_ | refine i_eChain ?_ | refine i_eB ?_ | refine i_eUn ?_ | refine i_eTup ?_ | refine i_eLst ?_ | refine i_eLstM ?_ | refine i_eAnd ?_ | refine i_eOr ?_ | refine i_eNot ?_ | refine i_eIf ?_ | refine i_bOf ?_ | refine i_bAnd ?_ | refine i_bOr ?_ | refine i_bNot ?_ | refine i_bYes ?_ | refine i_aNil ?_ | refine i_aCons ?_ | refine i_eCall ?_ | refine i_eCallKw ?_ | refine i_eCut ?_ | refine i_oNone ?_ | refine i_oSome ?_ | refine i_eM ?_ | refine i_sSq ?_ | refine i_sRange1 ?_ | refine i_sRange2 ?_ | refine i_sEnum ?_ | refine i_eIsi ?_ | refine i_eIsi2 ?_ | refine i_eLc ?_ | refine i_eLcM ?_ | refine i_sFor ?_ | refine i_eDisp1 ?_ | refine i_bl ?_ | refine i_int ?_ | refine i_nm ?_ | refine i_one ?_ | refine i_two ?_ | refine i_rng ?_ | refine i_len0 ?_ | refine i_int1 ?_ | refine i_intb ?_ | refine i_abs ?_ | refine i_add ?_ | refine i_sub ?_ | refine i_lt ?_ | refine i_le ?_ | refine i_gt ?_ | refine i_ge ?_ | refine i_eqi ?_ | refine i_is ?_ | refine i_isn ?_ | refine i_nes ?_ | refine i_rbl ?_ | refine i_eCallX ?_ | refine i_eCallKwX ?_ | refine i_sRaiseF ?_ | refine i_eIsX ?_ | refine i_eFld ?_ | refine i_eDit1 ?_ | refine i_sTry ?_ | refine i_runX ?_) | ((with_reducible refine i_eVarX ?_); refine ⟨_, rfl, ?_⟩) | ((with_reducible refine i_len1 ?_ ?_); · exact Nat.le_of_ble_eq_true rfl))
    refine cutB fun d'' e'' => ?_
    repeat (first | (with_reducible first | refine i_sIf ?_ | refine i_sNil ?_ | refine i_sRet ?_ | refine i_sAsg ?_ | refine i_sDrop ?_ | refine i_sPut ?_ | refine i_sPar ?_ | refine i_eC ?_ | refine i_eOp ?_ | refine i_eChain ?_ | refine i_eB ?_ | refine i_eUn ?_ | refine i_eTup ?_ | refine i_eLst ?_ | refine i_eLstM ?_ | refine i_eAnd ?_ | refine i_eOr ?_ | refine i_eNot ?_ | refine i_eIf ?_ | refine i_bOf ?_ | refine i_bAnd ?_ | refine i_bOr ?_ | refine i_bNot ?_ | refine i_bYes ?_ | refine i_aNil ?_ | refine i_aCons ?_ | refine i_eCall ?_ | refine i_eCallKw ?_ | refine i_eCut ?_ | refine i_oNone ?_ | refine i_oSome ?_ | refine i_eM ?_ | refine i_sSq ?_ | refine i_sRange1 ?_ | refine i_sRange2 ?_ | refine i_sEnum ?_ | refine i_eIsi ?_ | refine i_eIsi2 ?_ | refine i_eLc ?_ | refine i_eLcM ?_ | refine i_sFor ?_ | refine i_eDisp1 ?_ | refine i_bl ?_ | refine i_int ?_ | refine i_nm ?_ | refine i_one ?_ | refine i_two ?_ | refine i_rng ?_ | refine i_len0 ?_ | refine i_int1 ?_ | refine i_intb ?_ | refine i_abs ?_ | refine i_add ?_ | refine i_sub ?_ | refine i_lt ?_ | refine i_le ?_ | refine i_gt ?_ | refine i_ge ?_ | refine i_eqi ?_ | refine i_is ?_ | refine i_isn ?_ | refine i_nes ?_ | refine i_rbl ?_ | refine i_eCallX ?_ | refine i_eCallKwX ?_ | refine i_sRaiseF ?_ | refine i_eIsX ?_ | refine i_eFld ?_ | refine i_eDit1 ?_ | refine i_sTry ?_ | refine i_runX ?_) | ((with_reducible refine i_eVarX ?_); refine ⟨_, rfl, ?_⟩) | ((with_reducible refine i_len1 ?_ ?_); · exact Nat.le_of_ble_eq_true rfl))
    refine list_both e'' ?_
    repeat (first | (with_reducible first | refine i_sIf ?_ | refine i_sNil ?_ | refine i_sRet ?_ | refine i_sAsg ?_ | refine i_sDrop ?_ | refine i_sPut ?_ | refine i_sPar ?_ | refine i_eC ?_ | refine i_eOp ?_ | refine i_eChain ?_ | refine i_eB ?_ | refine i_eUn ?_ | refine i_eTup ?_ | refine i_eLst ?_ | refine i_eLstM ?_ | refine i_eAnd ?_ | refine i_eOr ?_ | refine i_eNot ?_ | refine i_eIf ?_ | refine i_bOf ?_ | refine i_bAnd ?_ | refine i_bOr ?_ | refine i_bNot ?_ | refine i_bYes ?_ | refine i_aNil ?_ | refine i_aCons ?_ | refine i_eCall ?_ | refine i_eCallKw ?_ | refine i_eCut ?_ | refine i_oNone ?_ | refine i_oSome ?_ | refine i_eM ?_ | refine i_sSq ?_ | refine i_sRange1 ?_ | refine i_sRange2 ?_ | refine i_sEnum ?_ | refine i_eIsi ?_ | refine i_eIsi2 ?_ | refine i_eLc ?_ | refine i_eLcM ?_ | refine i_sFor ?_ | refine i_eDisp1 ?_ | refine i_bl ?_ | refine i_int ?_ | refine i_nm ?_ | refine i_one ?_ | refine i_two ?_ | refine i_rng ?_ | refine i_len0 ?_ | refine i_int1 ?_ | refine i_intb ?_ | refine i_abs ?_ | refine i_add ?_ | refine i_sub ?_ | refine i_lt ?_ | refine i_le ?_ | refine i_gt ?_ | refine i_ge ?_ | refine i_eqi ?_ | refine i_is ?_ | refine i_isn ?_ | refine i_nes ?_ | refine i_rbl ?_ | refine i_eCallX ?_ | refine i_eCallKwX ?_ | refine i_sRaiseF ?_ | refine i_eIsX ?_ | refine i_eFld ?_ | refine i_eDit1 ?_ | refine i_sTry ?_ | refine i_runX ?_) | ((with_reducible refine i_eVarX ?_); refine ⟨_, rfl, ?_⟩) | ((with_reducible refine i_len1 ?_ ?_); · exact Nat.le_of_ble_eq_true rfl))
    refine add_lst rfl rfl (by rw [List.length_append, List.length_singleton]; exact Nat.le_trans (Nat.add_le_add (Nat.add_le_add_right hta 1) htd) (by decide)) ?_
    repeat (first | (with_reducible first | refine i_sIf ?_ | refine i_sNil ?_ | refine i_sRet ?_ | refine i_sAsg ?_ | refine i_sDrop ?_ | refine i_sPut ?_ | refine i_sPar ?_ | refine i_eC ?_ | refine i_eOp ?_ | refine i_eChain ?_ | refine i_eB ?_ | refine i_eUn ?_ | refine i_eTup ?_ | refine i_eLst ?_ | refine i_eLstM ?_ | refine i_eAnd ?_ | refine i_eOr ?_ | refine i_eNot ?_ | refine i_eIf ?_ | refine i_bOf ?_ | refine i_bAnd ?_ | refine i_bOr ?_ | refine i_bNot ?_ | refine i_bYes ?_ | refine i_aNil ?_ | refine i_aCons ?_ | refine i_eCall ?_ | refine i_eCallKw ?_ | refine i_eCut ?_ | refine i_oNone ?_ | refine i_oSome ?_ | refine i_eM ?_ | refine i_sSq ?_ | refine i_sRange1 ?_ | refine i_sRange2 ?_ | refine i_sEnum ?_ | refine i_eIsi ?_ | refine i_eIsi2 ?_ | refine i_eLc ?_ | refine i_eLcM ?_ | refine i_sFor ?_ | refine i_eDisp1 ?_ | refine i_bl ?_ | refine i_int ?_ | refine i_nm ?_ | refine i_one ?_ | refine i_two ?_ | refine i_rng ?_ | refine i_len0 ?_ | refine i_int1 ?_ | refine i_intb ?_ | refine i_abs ?_ | refine i_add ?_ | refine i_sub ?_ | refine i_lt ?_ | refine i_le ?_ | refine i_gt ?_ | refine i_ge ?_ | refine i_eqi ?_ | refine i_is ?_ | refine i_isn ?_ | refine i_nes ?_ | refine i_rbl ?_ | refine i_eCallX ?_ | refine i_eCallKwX ?_ | refine i_sRaiseF ?_ | refine i_eIsX ?_ | refine i_eFld ?_ | refine i_eDit1 ?_ | refine i_sTry ?_ | refine i_runX ?_) | ((with_reducible refine i_eVarX ?_); refine ⟨_, rfl, ?_⟩) | ((with_reducible refine i_len1 ?_ ?_); · exact Nat.le_of_ble_eq_true rfl))
    exact hnx _ _ ⟨o1, w, u1, hw, rfl, rfl⟩
  clear u
  obtain ⟨o, w, u, hw, rfl, rfl⟩ := hP
  have bad1 : Bad (.lst (zs.take a ++ [w] ++ zs.drop a)) := by
    obtain ⟨h1, h2, h3⟩ := mid_ w (odd_flat hw).1
    exact ⟨fun S => lot_of (.inl rfl) h2 h1, are_no1 rfl h3 (odd_flat hw).2⟩
  have g4 : ∀ (o : SO) (bs : List D), (some o :: (T2 ++ [some (SO.lst bs)]))[T2.length + 1]? = some (some (.lst bs)) := fun o bs => at_end
  refine cut0 (fun S' => ∃ o bs, Urn (K + 51) o ∧ (∀ b ∈ bs, Bad b) ∧ bs.length ≤ 2 ∧ S' = some o :: (T2 ++ [some (.lst bs)])) (fun N' hrt hnx => ?_) (fun S' hP => ?_)
  · repeat (first | (with_reducible first | refine i_sIf ?_ | refine i_sNil ?_ | refine i_sRet ?_ | refine i_sAsg ?_ | refine i_sDrop ?_ | refine i_sPut ?_ | refine i_sPar ?_ | refine i_eC ?_ | refine i_eOp ?_ | refine i_eChain ?_ | refine i_eB ?_ | refine i_eUn ?_ | refine i_eTup ?_ | refine i_eLst ?_ | refine i_eLstM ?_ | refine i_eAnd ?_ | refine i_eOr ?_ | refine i_eNot ?_ | refine i_eIf ?_ | refine i_bOf ?_ | refine i_bAnd ?_ | refine i_bOr ?_ | refine i_bNot ?_ | refine i_bYes ?_ | refine i_aNil ?_ | refine i_aCons ?_ | refine i_eCall ?_ | refine i_eCallKw ?_ | refine i_eCut ?_ | refine i_oNone ?_ | refine i_oSome ?_ | refine i_eM ?_ | refine i_sSq ?_ | refine i_sRange1 ?_ | refine i_sRange2 ?_ | refine i_sEnum ?_ | refine i_eIsi ?_ | refine i_eIsi2 ?_ | refine i_eLc ?_ | refine i_eLcM ?_ | refine i_sFor ?_ | refine i_eDisp1 ?_ | refine i_bl ?_ | refine i_int ?_ | refine i_nm ?_ | refine i_one ?_ | refine i_two ?_ | refine i_rng ?_ | refine i_len0 ?_ | refine i_int1 ?_ | refine i_intb ?_ | refine i_abs ?_ | refine i_add ?_ | refine i_sub ?_ | refine i_lt ?_ | refine i_le ?_ | refine i_gt ?_ | refine i_ge ?_ | refine i_eqi ?_ | refine i_is ?_ | refine i_isn ?_ | refine i_nes ?_ | refine i_rbl ?_ | refine i_eCallX ?_ | refine i_eCallKwX ?_ | refine i_sRaiseF ?_ | refine i_eIsX ?_ | refine i_eFld ?_ | refine i_eDit1 ?_ | refine i_sTry ?_ | refine i_runX ?_) | ((with_reducible refine i_eVarX ?_); refine ⟨_, rfl, ?_⟩) | ((with_reducible refine i_len1 ?_ ?_); · exact Nat.le_of_ble_eq_true rfl))
    refine ne_dat (by rw [g3]; exact fls_sq 58 ps) rfl ?_
    rw [g3]
    repeat (first | (with_reducible first | refine i_sIf ?_ | refine i_sNil ?_ | refine i_sRet ?_ | refine i_sAsg ?_ | refine i_sDrop ?_ | refine i_sPut ?_ | refine i_sPar ?_ | refine i_eC ?_ | refine i_eOp ?_ | refine i_eChain ?_ | refine i_eB ?_ | refine i_eUn ?_ | refine i_eTup ?_ | refine i_eLst ?_ | refine i_eLstM ?_ | refine i_eAnd ?_ | refine i_eOr ?_ | refine i_eNot ?_ | refine i_eIf ?_ | refine i_bOf ?_ | refine i_bAnd ?_ | refine i_bOr ?_ | refine i_bNot ?_ | refine i_bYes ?_ | refine i_aNil ?_ | refine i_aCons ?_ | refine i_eCall ?_ | refine i_eCallKw ?_ | refine i_eCut ?_ | refine i_oNone ?_ | refine i_oSome ?_ | refine i_eM ?_ | refine i_sSq ?_ | refine i_sRange1 ?_ | refine i_sRange2 ?_ | refine i_sEnum ?_ | refine i_eIsi ?_ | refine i_eIsi2 ?_ | refine i_eLc ?_ | refine i_eLcM ?_ | refine i_sFor ?_ | refine i_eDisp1 ?_ | refine i_bl ?_ | refine i_int ?_ | refine i_nm ?_ | refine i_one ?_ | refine i_two ?_ | refine i_rng ?_ | refine i_len0 ?_ | refine i_int1 ?_ | refine i_intb ?_ | refine i_abs ?_ | refine i_add ?_ | refine i_sub ?_ | refine i_lt ?_ | refine i_le ?_ | refine i_gt ?_ | refine i_ge ?_ | refine i_eqi ?_ | refine i_is ?_ | refine i_isn ?_ | refine i_nes ?_ | refine i_rbl ?_ | refine i_eCallX ?_ | refine i_eCallKwX ?_ | refine i_sRaiseF ?_ | refine i_eIsX ?_ | refine i_eFld ?_ | refine i_eDit1 ?_ | refine i_sTry ?_ | refine i_runX ?_) | ((with_reducible refine i_eVarX ?_); refine ⟨_, rfl, ?_⟩) | ((with_reducible refine i_len1 ?_ ?_); · exact Nat.le_of_ble_eq_true rfl))
    by_cases hps : ps = []
    · have e : eqd (.lst (ps.map sqD)) (drf (some o :: (T2 ++ [some (.lst [.lst (zs.take a ++ [w] ++ zs.drop a)])])) (.lst [])) = true := by rw [hps]; rfl
      rw [e]
      refine iteF ?_
      repeat (first | (with_reducible first | refine i_sIf ?_ | refine i_sNil ?_ | refine i_sRet ?_ | refine i_sAsg ?_ | refine i_sDrop ?_ | refine i_sPut ?_ | refine i_sPar ?_ | refine i_eC ?_ | refine i_eOp ?_ | refine i_eChain ?_ | refine i_eB ?_ | refine i_eUn ?_ | refine i_eTup ?_ | refine i_eLst ?_ | refine i_eLstM ?_ | refine i_eAnd ?_ | refine i_eOr ?_ | refine i_eNot ?_ | refine i_eIf ?_ | refine i_bOf ?_ | refine i_bAnd ?_ | refine i_bOr ?_ | refine i_bNot ?_ | refine i_bYes ?_ | refine i_aNil ?_ | refine i_aCons ?_ | refine i_eCall ?_ | refine i_eCallKw ?_ | refine i_eCut ?_ | refine i_oNone ?_ | refine i_oSome ?_ | refine i_eM ?_ | refine i_sSq ?_ | refine i_sRange1 ?_ | refine i_sRange2 ?_ | refine i_sEnum ?_ | refine i_eIsi ?_ | refine i_eIsi2 ?_ | refine i_eLc ?_ | refine i_eLcM ?_ | refine i_sFor ?_ | refine i_eDisp1 ?_ | refine i_bl ?_ | refine i_int ?_ | refine i_nm ?_ | refine i_one ?_ | refine i_two ?_ | refine i_rng ?_ | refine i_len0 ?_ | refine i_int1 ?_ | refine i_intb ?_ | refine i_abs ?_ | refine i_add ?_ | refine i_sub ?_ | refine i_lt ?_ | refine i_le ?_ | refine i_gt ?_ | refine i_ge ?_ | refine i_eqi ?_ | refine i_is ?_ | refine i_isn ?_ | refine i_nes ?_ | refine i_rbl ?_ | refine i_eCallX ?_ | refine i_eCallKwX ?_ | refine i_sRaiseF ?_ | refine i_eIsX ?_ | refine i_eFld ?_ | refine i_eDit1 ?_ | refine i_sTry ?_ | refine i_runX ?_) | ((with_reducible refine i_eVarX ?_); refine ⟨_, rfl, ?_⟩) | ((with_reducible refine i_len1 ?_ ?_); · exact Nat.le_of_ble_eq_true rfl))
      exact hnx _ ⟨o, [.lst (zs.take a ++ [w] ++ zs.drop a)], u.mono (by omega), fun b hb => by rw [List.mem_singleton.mp hb]; exact bad1, (by decide : 1 ≤ 2), rfl⟩
    · have e : eqd (.lst (ps.map sqD)) (drf (some o :: (T2 ++ [some (.lst [.lst (zs.take a ++ [w] ++ zs.drop a)])])) (.lst [])) = false := by
        match ps, hps with
        | p :: l, _ => rfl
      rw [e]
      refine iteT ?_
      have p0 : 0 < ps.length := List.length_pos_iff.mpr hps
      repeat (first | (with_reducible first | refine i_sIf ?_ | refine i_sNil ?_ | refine i_sRet ?_ | refine i_sAsg ?_ | refine i_sDrop ?_ | refine i_sPut ?_ | refine i_sPar ?_ | refine i_eC ?_ | refine i_eOp ?_ | refine i_eChain ?_ | refine i_eB ?_ | refine i_eUn ?_ | refine i_eTup ?_ | refine i_eLst ?_ | refine i_eLstM ?_ | refine i_eAnd ?_ | refine i_eOr ?_ | refine i_eNot ?_ | refine i_eIf ?_ | refine i_bOf ?_ | refine i_bAnd ?_ | refine i_bOr ?_ | refine i_bNot ?_ | refine i_bYes ?_ | refine i_aNil ?_ | refine i_aCons ?_ | refine i_eCall ?_ | refine i_eCallKw ?_ | refine i_eCut ?_ | refine i_oNone ?_ | refine i_oSome ?_ | refine i_eM ?_ | refine i_sSq ?_ | refine i_sRange1 ?_ | refine i_sRange2 ?_ | refine i_sEnum ?_ | refine i_eIsi ?_ | refine i_eIsi2 ?_ | refine i_eLc ?_ | refine i_eLcM ?_ | refine i_sFor ?_ | refine i_eDisp1 ?_ | refine i_bl ?_ | refine i_int ?_ | refine i_nm ?_ | refine i_one ?_ | refine i_two ?_ | refine i_rng ?_ | refine i_len0 ?_ | refine i_int1 ?_ | refine i_intb ?_ | refine i_abs ?_ | refine i_add ?_ | refine i_sub ?_ | refine i_lt ?_ | refine i_le ?_ | refine i_gt ?_ | refine i_ge ?_ | refine i_eqi ?_ | refine i_is ?_ | refine i_isn ?_ | refine i_nes ?_ | refine i_rbl ?_ | refine i_eCallX ?_ | refine i_eCallKwX ?_ | refine i_sRaiseF ?_ | refine i_eIsX ?_ | refine i_eFld ?_ | refine i_eDit1 ?_ | refine i_sTry ?_ | refine i_runX ?_) | ((with_reducible refine i_eVarX ?_); refine ⟨_, rfl, ?_⟩) | ((with_reducible refine i_len1 ?_ ?_); · exact Nat.le_of_ble_eq_true rfl))
      refine ⟨by rw [drf_ref (g4 _ _)]; trivial, ?_⟩
      repeat (first | (with_reducible first | refine i_sIf ?_ | refine i_sNil ?_ | refine i_sRet ?_ | refine i_sAsg ?_ | refine i_sDrop ?_ | refine i_sPut ?_ | refine i_sPar ?_ | refine i_eC ?_ | refine i_eOp ?_ | refine i_eChain ?_ | refine i_eB ?_ | refine i_eUn ?_ | refine i_eTup ?_ | refine i_eLst ?_ | refine i_eLstM ?_ | refine i_eAnd ?_ | refine i_eOr ?_ | refine i_eNot ?_ | refine i_eIf ?_ | refine i_bOf ?_ | refine i_bAnd ?_ | refine i_bOr ?_ | refine i_bNot ?_ | refine i_bYes ?_ | refine i_aNil ?_ | refine i_aCons ?_ | refine i_eCall ?_ | refine i_eCallKw ?_ | refine i_eCut ?_ | refine i_oNone ?_ | refine i_oSome ?_ | refine i_eM ?_ | refine i_sSq ?_ | refine i_sRange1 ?_ | refine i_sRange2 ?_ | refine i_sEnum ?_ | refine i_eIsi ?_ | refine i_eIsi2 ?_ | refine i_eLc ?_ | refine i_eLcM ?_ | refine i_sFor ?_ | refine i_eDisp1 ?_ | refine i_bl ?_ | refine i_int ?_ | refine i_nm ?_ | refine i_one ?_ | refine i_two ?_ | refine i_rng ?_ | refine i_len0 ?_ | refine i_int1 ?_ | refine i_intb ?_ | refine i_abs ?_ | refine i_add ?_ | refine i_sub ?_ | refine i_lt ?_ | refine i_le ?_ | refine i_gt ?_ | refine i_ge ?_ | refine i_eqi ?_ | refine i_is ?_ | refine i_isn ?_ | refine i_nes ?_ | refine i_rbl ?_ | refine i_eCallX ?_ | refine i_eCallKwX ?_ | refine i_sRaiseF ?_ | refine i_eIsX ?_ | refine i_eFld ?_ | refine i_eDit1 ?_ | refine i_sTry ?_ | refine i_runX ?_) | ((with_reducible refine i_eVarX ?_); refine ⟨_, rfl, ?_⟩) | ((with_reducible refine i_len1 ?_ ?_); · exact Nat.le_of_ble_eq_true rfl))
      refine cutF fun d' e' => ?_
      repeat (first | (with_reducible first | refine i_sIf ?_ | refine i_sNil ?_ | refine i_sRet ?_ | refine i_sAsg ?_ | refine i_sDrop ?_ | refine i_sPut ?_ | refine i_sPar ?_ | refine i_eC ?_ | refine i_eOp ?_ | refine i_eChain ?_ | refine i_eB ?_ | refine i_eUn ?_ | refine i_eTup ?_ | refine i_eLst ?_ | refine i_eLstM ?_ | refine i_eAnd ?_ | refine i_eOr ?_ | refine i_eNot ?_ | refine i_eIf ?_ | refine i_bOf ?_ | refine i_bAnd ?_ | refine i_bOr ?_ | refine i_bNot ?_ | refine i_bYes ?_ | refine i_aNil ?_ | refine i_aCons ?_ | refine i_eCall ?_ | refine i_eCallKw ?_ | refine i_eCut ?_ | refine i_oNone ?_ | refine i_oSome ?_ | refine i_eM ?_ | refine i_sSq ?_ | refine i_sRange1 ?_ | refine i_sRange2 ?_ | refine i_sEnum ?_ | refine i_eIsi ?_ | refine i_eIsi2 ?_ | refine i_eLc ?_ | refine i_eLcM ?_ | refine i_sFor ?_ | refine i_eDisp1 ?_ | refine i_bl ?_ | refine i_int ?_ | refine i_nm ?_ | refine i_one ?_ | refine i_two ?_ | refine i_rng ?_ | refine i_len0 ?_ | refine i_int1 ?_ | refine i_intb ?_ | refine i_abs ?_ | refine i_add ?_ | refine i_sub ?_ | refine i_lt ?_ | refine i_le ?_ | refine i_gt ?_ | refine i_ge ?_ | refine i_eqi ?_ | refine i_is ?_ | refine i_isn ?_ | refine i_nes ?_ | refine i_rbl ?_ | refine i_eCallX ?_ | refine i_eCallKwX ?_ | refine i_sRaiseF ?_ | refine i_eIsX ?_ | refine i_eFld ?_ | refine i_eDit1 ?_ | refine i_sTry ?_ | refine i_runX ?_) | ((with_reducible refine i_eVarX ?_); refine ⟨_, rfl, ?_⟩) | ((with_reducible refine i_len1 ?_ ?_); · exact Nat.le_of_ble_eq_true rfl))
      refine list_both e' ?_
      repeat (first | (with_reducible first | refine i_sIf ?_ | refine i_sNil ?_ | refine i_sRet ?_ | refine i_sAsg ?_ | refine i_sDrop ?_ | refine i_sPut ?_ | refine i_sPar ?_ | refine i_eC ?_ | refine i_eOp ?_ | refine i_eChain ?_ | refine i_eB ?_ | refine i_eUn ?_ | refine i_eTup ?_ | refine i_eLst ?_ | refine i_eLstM ?_ | refine i_eAnd ?_ | refine i_eOr ?_ | refine i_eNot ?_ | refine i_eIf ?_ | refine i_bOf ?_ | refine i_bAnd ?_ | refine i_bOr ?_ | refine i_bNot ?_ | refine i_bYes ?_ | refine i_aNil ?_ | refine i_aCons ?_ | refine i_eCall ?_ | refine i_eCallKw ?_ | refine i_eCut ?_ | refine i_oNone ?_ | refine i_oSome ?_ | refine i_eM ?_ | refine i_sSq ?_ | refine i_sRange1 ?_ | refine i_sRange2 ?_ | refine i_sEnum ?_ | refine i_eIsi ?_ | refine i_eIsi2 ?_ | refine i_eLc ?_ | refine i_eLcM ?_ | refine i_sFor ?_ | refine i_eDisp1 ?_ | refine i_bl ?_ | refine i_int ?_ | refine i_nm ?_ | refine i_one ?_ | refine i_two ?_ | refine i_rng ?_ | refine i_len0 ?_ | refine i_int1 ?_ | refine i_intb ?_ | refine i_abs ?_ | refine i_add ?_ | refine i_sub ?_ | refine i_lt ?_ | refine i_le ?_ | refine i_gt ?_ | refine i_ge ?_ | refine i_eqi ?_ | refine i_is ?_ | refine i_isn ?_ | refine i_nes ?_ | refine i_rbl ?_ | refine i_eCallX ?_ | refine i_eCallKwX ?_ | refine i_sRaiseF ?_ | refine i_eIsX ?_ | refine i_eFld ?_ | refine i_eDit1 ?_ | refine i_sTry ?_ | refine i_runX ?_) | ((with_reducible refine i_eVarX ?_); refine ⟨_, rfl, ?_⟩) | ((with_reducible refine i_len1 ?_ ?_); · exact Nat.le_of_ble_eq_true rfl))
      refine len_seq (xs := ps.map sqD) (by rw [g3]; rfl) ?_
      repeat (first | (with_reducible first | refine i_sIf ?_ | refine i_sNil ?_ | refine i_sRet ?_ | refine i_sAsg ?_ | refine i_sDrop ?_ | refine i_sPut ?_ | refine i_sPar ?_ | refine i_eC ?_ | refine i_eOp ?_ | refine i_eChain ?_ | refine i_eB ?_ | refine i_eUn ?_ | refine i_eTup ?_ | refine i_eLst ?_ | refine i_eLstM ?_ | refine i_eAnd ?_ | refine i_eOr ?_ | refine i_eNot ?_ | refine i_eIf ?_ | refine i_bOf ?_ | refine i_bAnd ?_ | refine i_bOr ?_ | refine i_bNot ?_ | refine i_bYes ?_ | refine i_aNil ?_ | refine i_aCons ?_ | refine i_eCall ?_ | refine i_eCallKw ?_ | refine i_eCut ?_ | refine i_oNone ?_ | refine i_oSome ?_ | refine i_eM ?_ | refine i_sSq ?_ | refine i_sRange1 ?_ | refine i_sRange2 ?_ | refine i_sEnum ?_ | refine i_eIsi ?_ | refine i_eIsi2 ?_ | refine i_eLc ?_ | refine i_eLcM ?_ | refine i_sFor ?_ | refine i_eDisp1 ?_ | refine i_bl ?_ | refine i_int ?_ | refine i_nm ?_ | refine i_one ?_ | refine i_two ?_ | refine i_rng ?_ | refine i_len0 ?_ | refine i_int1 ?_ | refine i_intb ?_ | refine i_abs ?_ | refine i_add ?_ | refine i_sub ?_ | refine i_lt ?_ | refine i_le ?_ | refine i_gt ?_ | refine i_ge ?_ | refine i_eqi ?_ | refine i_is ?_ | refine i_isn ?_ | refine i_nes ?_ | refine i_rbl ?_ | refine i_eCallX ?_ | refine i_eCallKwX ?_ | refine i_sRaiseF ?_ | refine i_eIsX ?_ | refine i_eFld ?_ | refine i_eDit1 ?_ | refine i_sTry ?_ | refine i_runX ?_) | ((with_reducible refine i_eVarX ?_); refine ⟨_, rfl, ?_⟩) | ((with_reducible refine i_len1 ?_ ?_); · exact Nat.le_of_ble_eq_true rfl))
      rw [List.length_map]
      refine draw_of u (by omega) (by omega) (by omega) fun o1 n u1 n0 n1 => ?_
      repeat (first | (with_reducible first | refine i_sIf ?_ | refine i_sNil ?_ | refine i_sRet ?_ | refine i_sAsg ?_ | refine i_sDrop ?_ | refine i_sPut ?_ | refine i_sPar ?_ | refine i_eC ?_ | refine i_eOp ?_ | refine i_eChain ?_ | refine i_eB ?_ | refine i_eUn ?_ | refine i_eTup ?_ | refine i_eLst ?_ | refine i_eLstM ?_ | refine i_eAnd ?_ | refine i_eOr ?_ | refine i_eNot ?_ | refine i_eIf ?_ | refine i_bOf ?_ | refine i_bAnd ?_ | refine i_bOr ?_ | refine i_bNot ?_ | refine i_bYes ?_ | refine i_aNil ?_ | refine i_aCons ?_ | refine i_eCall ?_ | refine i_eCallKw ?_ | refine i_eCut ?_ | refine i_oNone ?_ | refine i_oSome ?_ | refine i_eM ?_ | refine i_sSq ?_ | refine i_sRange1 ?_ | refine i_sRange2 ?_ | refine i_sEnum ?_ | refine i_eIsi ?_ | refine i_eIsi2 ?_ | refine i_eLc ?_ | refine i_eLcM ?_ | refine i_sFor ?_ | refine i_eDisp1 ?_ | refine i_bl ?_ | refine i_int ?_ | refine i_nm ?_ | refine i_one ?_ | refine i_two ?_ | refine i_rng ?_ | refine i_len0 ?_ | refine i_int1 ?_ | refine i_intb ?_ | refine i_abs ?_ | refine i_add ?_ | refine i_sub ?_ | refine i_lt ?_ | refine i_le ?_ | refine i_gt ?_ | refine i_ge ?_ | refine i_eqi ?_ | refine i_is ?_ | refine i_isn ?_ | refine i_nes ?_ | refine i_rbl ?_ | refine i_eCallX ?_ | refine i_eCallKwX ?_ | refine i_sRaiseF ?_ | refine i_eIsX ?_ | refine i_eFld ?_ | refine i_eDit1 ?_ | refine i_sTry ?_ | refine i_runX ?_) | ((with_reducible refine i_eVarX ?_); refine ⟨_, rfl, ?_⟩) | ((with_reducible refine i_len1 ?_ ?_); · exact Nat.le_of_ble_eq_true rfl))
      have hn' : n.toNat < ps.length := by omega
      refine ix_at (xs := ps.map sqD) (d := sqD ps[n.toNat]) (by rw [g3]; rfl) n0 (by rw [List.getElem?_map, List.getElem?_eq_getElem hn']; rfl) ?_
      repeat (first | (with_reducible first | refine i_sIf ?_ | refine i_sNil ?_ | refine i_sRet ?_ | refine i_sAsg ?_ | refine i_sDrop ?_ | refine i_sPut ?_ | refine i_sPar ?_ | refine i_eC ?_ | refine i_eOp ?_ | refine i_eChain ?_ | refine i_eB ?_ | refine i_eUn ?_ | refine i_eTup ?_ | refine i_eLst ?_ | refine i_eLstM ?_ | refine i_eAnd ?_ | refine i_eOr ?_ | refine i_eNot ?_ | refine i_eIf ?_ | refine i_bOf ?_ | refine i_bAnd ?_ | refine i_bOr ?_ | refine i_bNot ?_ | refine i_bYes ?_ | refine i_aNil ?_ | refine i_aCons ?_ | refine i_eCall ?_ | refine i_eCallKw ?_ | refine i_eCut ?_ | refine i_oNone ?_ | refine i_oSome ?_ | refine i_eM ?_ | refine i_sSq ?_ | refine i_sRange1 ?_ | refine i_sRange2 ?_ | refine i_sEnum ?_ | refine i_eIsi ?_ | refine i_eIsi2 ?_ | refine i_eLc ?_ | refine i_eLcM ?_ | refine i_sFor ?_ | refine i_eDisp1 ?_ | refine i_bl ?_ | refine i_int ?_ | refine i_nm ?_ | refine i_one ?_ | refine i_two ?_ | refine i_rng ?_ | refine i_len0 ?_ | refine i_int1 ?_ | refine i_intb ?_ | refine i_abs ?_ | refine i_add ?_ | refine i_sub ?_ | refine i_lt ?_ | refine i_le ?_ | refine i_gt ?_ | refine i_ge ?_ | refine i_eqi ?_ | refine i_is ?_ | refine i_isn ?_ | refine i_nes ?_ | refine i_rbl ?_ | refine i_eCallX ?_ | refine i_eCallKwX ?_ | refine i_sRaiseF ?_ | refine i_eIsX ?_ | refine i_eFld ?_ | refine i_eDit1 ?_ | refine i_sTry ?_ | refine i_runX ?_) | ((with_reducible refine i_eVarX ?_); refine ⟨_, rfl, ?_⟩) | ((with_reducible refine i_len1 ?_ ?_); · exact Nat.le_of_ble_eq_true rfl))
      refine ⟨[.int ps[n.toNat].1, .int ps[n.toNat].2], rfl, ?_⟩
      repeat (first | (with_reducible first | refine i_sIf ?_ | refine i_sNil ?_ | refine i_sRet ?_ | refine i_sAsg ?_ | refine i_sDrop ?_ | refine i_sPut ?_ | refine i_sPar ?_ | refine i_eC ?_ | refine i_eOp ?_ | refine i_eChain ?_ | refine i_eB ?_ | refine i_eUn ?_ | refine i_eTup ?_ | refine i_eLst ?_ | refine i_eLstM ?_ | refine i_eAnd ?_ | refine i_eOr ?_ | refine i_eNot ?_ | refine i_eIf ?_ | refine i_bOf ?_ | refine i_bAnd ?_ | refine i_bOr ?_ | refine i_bNot ?_ | refine i_bYes ?_ | refine i_aNil ?_ | refine i_aCons ?_ | refine i_eCall ?_ | refine i_eCallKw ?_ | refine i_eCut ?_ | refine i_oNone ?_ | refine i_oSome ?_ | refine i_eM ?_ | refine i_sSq ?_ | refine i_sRange1 ?_ | refine i_sRange2 ?_ | refine i_sEnum ?_ | refine i_eIsi ?_ | refine i_eIsi2 ?_ | refine i_eLc ?_ | refine i_eLcM ?_ | refine i_sFor ?_ | refine i_eDisp1 ?_ | refine i_bl ?_ | refine i_int ?_ | refine i_nm ?_ | refine i_one ?_ | refine i_two ?_ | refine i_rng ?_ | refine i_len0 ?_ | refine i_int1 ?_ | refine i_intb ?_ | refine i_abs ?_ | refine i_add ?_ | refine i_sub ?_ | refine i_lt ?_ | refine i_le ?_ | refine i_gt ?_ | refine i_ge ?_ | refine i_eqi ?_ | refine i_is ?_ | refine i_isn ?_ | refine i_nes ?_ | refine i_rbl ?_ | refine i_eCallX ?_ | refine i_eCallKwX ?_ | refine i_sRaiseF ?_ | refine i_eIsX ?_ | refine i_eFld ?_ | refine i_eDit1 ?_ | refine i_sTry ?_ | refine i_runX ?_) | ((with_reducible refine i_eVarX ?_); refine ⟨_, rfl, ?_⟩) | ((with_reducible refine i_len1 ?_ ?_); · exact Nat.le_of_ble_eq_true rfl))
      refine add_lst rfl rfl (by rw [List.length_singleton]; exact Nat.le_trans (Nat.add_le_add_right hta 1) (by decide)) ?_
      repeat (first | (with_reducible first | refine i_sIf ?_ | refine i_sNil ?_ | refine i_sRet ?_ | refine i_sAsg ?_ | refine i_sDrop ?_ | refine i_sPut ?_ | refine i_sPar ?_ | refine i_eC ?_ | refine i_eOp ?_ | refine i_eChain ?_ | refine i_eB ?_ | refine i_eUn ?_ | refine i_eTup ?_ | refine i_eLst ?_ | refine i_eLstM ?_ | refine i_eAnd ?_ | refine i_eOr ?_ | refine i_eNot ?_ | refine i_eIf ?_ | refine i_bOf ?_ | refine i_bAnd ?_ | refine i_bOr ?_ | refine i_bNot ?_ | refine i_bYes ?_ | refine i_aNil ?_ | refine i_aCons ?_ | refine i_eCall ?_ | refine i_eCallKw ?_ | refine i_eCut ?_ | refine i_oNone ?_ | refine i_oSome ?_ | refine i_eM ?_ | refine i_sSq ?_ | refine i_sRange1 ?_ | refine i_sRange2 ?_ | refine i_sEnum ?_ | refine i_eIsi ?_ | refine i_eIsi2 ?_ | refine i_eLc ?_ | refine i_eLcM ?_ | refine i_sFor ?_ | refine i_eDisp1 ?_ | refine i_bl ?_ | refine i_int ?_ | refine i_nm ?_ | refine i_one ?_ | refine i_two ?_ | refine i_rng ?_ | refine i_len0 ?_ | refine i_int1 ?_ | refine i_intb ?_ | refine i_abs ?_ | refine i_add ?_ | refine i_sub ?_ | refine i_lt ?_ | refine i_le ?_ | refine i_gt ?_ | refine i_ge ?_ | refine i_eqi ?_ | refine i_is ?_ | refine i_isn ?_ | refine i_nes ?_ | refine i_rbl ?_ | refine i_eCallX ?_ | refine i_eCallKwX ?_ | refine i_sRaiseF ?_ | refine i_eIsX ?_ | refine i_eFld ?_ | refine i_eDit1 ?_ | refine i_sTry ?_ | refine i_runX ?_) | ((with_reducible refine i_eVarX ?_); refine ⟨_, rfl, ?_⟩) | ((with_reducible refine i_len1 ?_ ?_); · exact Nat.le_of_ble_eq_true rfl))
      refine cutB fun d'' e'' => ?_
      repeat (first | (with_reducible first | refine i_sIf ?_ | refine i_sNil ?_ | refine i_sRet ?_ | refine i_sAsg ?_ | refine i_sDrop ?_ | refine i_sPut ?_ | refine i_sPar ?_ | refine i_eC ?_ | refine i_eOp ?_ | refine i_eChain ?_ | refine i_eB ?_ | refine i_eUn ?_ | refine i_eTup ?_ | refine i_eLst ?_ | refine i_eLstM ?_ | refine i_eAnd ?_ | refine i_eOr ?_ | refine i_eNot ?_ | refine i_eIf ?_ | refine i_bOf ?_ | refine i_bAnd ?_ | refine i_bOr ?_ | refine i_bNot ?_ | refine i_bYes ?_ | refine i_aNil ?_ | refine i_aCons ?_ | refine i_eCall ?_ | refine i_eCallKw ?_ | refine i_eCut ?_ | refine i_oNone ?_ | refine i_oSome ?_ | refine i_eM ?_ | refine i_sSq ?_ | refine i_sRange1 ?_ | refine i_sRange2 ?_ | refine i_sEnum ?_ | refine i_eIsi ?_ | refine i_eIsi2 ?_ | refine i_eLc ?_ | refine i_eLcM ?_ | refine i_sFor ?_ | refine i_eDisp1 ?_ | refine i_bl ?_ | refine i_int ?_ | refine i_nm ?_ | refine i_one ?_ | refine i_two ?_ | refine i_rng ?_ | refine i_len0 ?_ | refine i_int1 ?_ | refine i_intb ?_ | refine i_abs ?_ | refine i_add ?_ | refine i_sub ?_ | refine i_lt ?_ | refine i_le ?_ | refine i_gt ?_ | refine i_ge ?_ | refine i_eqi ?_ | refine i_is ?_ | refine i_isn ?_ | refine i_nes ?_ | refine i_rbl ?_ | refine i_eCallX ?_ | refine i_eCallKwX ?_ | refine i_sRaiseF ?_ | refine i_eIsX ?_ | refine i_eFld ?_ | refine i_eDit1 ?_ | refine i_sTry ?_ | refine i_runX ?_) | ((with_reducible refine i_eVarX ?_); refine ⟨_, rfl, ?_⟩) | ((with_reducible refine i_len1 ?_ ?_); · exact Nat.le_of_ble_eq_true rfl))
      refine list_both e'' ?_
      repeat (first | (with_reducible first | refine i_sIf ?_ | refine i_sNil ?_ | refine i_sRet ?_ | refine i_sAsg ?_ | refine i_sDrop ?_ | refine i_sPut ?_ | refine i_sPar ?_ | refine i_eC ?_ | refine i_eOp ?_ | refine i_eChain ?_ | refine i_eB ?_ | refine i_eUn ?_ | refine i_eTup ?_ | refine i_eLst ?_ | refine i_eLstM ?_ | refine i_eAnd ?_ | refine i_eOr ?_ | refine i_eNot ?_ | refine i_eIf ?_ | refine i_bOf ?_ | refine i_bAnd ?_ | refine i_bOr ?_ | refine i_bNot ?_ | refine i_bYes ?_ | refine i_aNil ?_ | refine i_aCons ?_ | refine i_eCall ?_ | refine i_eCallKw ?_ | refine i_eCut ?_ | refine i_oNone ?_ | refine i_oSome ?_ | refine i_eM ?_ | refine i_sSq ?_ | refine i_sRange1 ?_ | refine i_sRange2 ?_ | refine i_sEnum ?_ | refine i_eIsi ?_ | refine i_eIsi2 ?_ | refine i_eLc ?_ | refine i_eLcM ?_ | refine i_sFor ?_ | refine i_eDisp1 ?_ | refine i_bl ?_ | refine i_int ?_ | refine i_nm ?_ | refine i_one ?_ | refine i_two ?_ | refine i_rng ?_ | refine i_len0 ?_ | refine i_int1 ?_ | refine i_intb ?_ | refine i_abs ?_ | refine i_add ?_ | refine i_sub ?_ | refine i_lt ?_ | refine i_le ?_ | refine i_gt ?_ | refine i_ge ?_ | refine i_eqi ?_ | refine i_is ?_ | refine i_isn ?_ | refine i_nes ?_ | refine i_rbl ?_ | refine i_eCallX ?_ | refine i_eCallKwX ?_ | refine i_sRaiseF ?_ | refine i_eIsX ?_ | refine i_eFld ?_ | refine i_eDit1 ?_ | refine i_sTry ?_ | refine i_runX ?_) | ((with_reducible refine i_eVarX ?_); refine ⟨_, rfl, ?_⟩) | ((with_reducible refine i_len1 ?_ ?_); · exact Nat.le_of_ble_eq_true rfl))
      refine add_lst rfl rfl (by rw [List.length_append, List.length_singleton]; exact Nat.le_trans (Nat.add_le_add (Nat.add_le_add_right hta 1) htd) (by decide)) ?_
      repeat (first | (with_reducible first | refine i_sIf ?_ | refine i_sNil ?_ | refine i_sRet ?_ | refine i_sAsg ?_ | refine i_sDrop ?_ | refine i_sPut ?_ | refine i_sPar ?_ | refine i_eC ?_ | refine i_eOp ?_ | refine i_eChain ?_ | refine i_eB ?_ | refine i_eUn ?_ | refine i_eTup ?_ | refine i_eLst ?_ | refine i_eLstM ?_ | refine i_eAnd ?_ | refine i_eOr ?_ | refine i_eNot ?_ | refine i_eIf ?_ | refine i_bOf ?_ | refine i_bAnd ?_ | refine i_bOr ?_ | refine i_bNot ?_ | refine i_bYes ?_ | refine i_aNil ?_ | refine i_aCons ?_ | refine i_eCall ?_ | refine i_eCallKw ?_ | refine i_eCut ?_ | refine i_oNone ?_ | refine i_oSome ?_ | refine i_eM ?_ | refine i_sSq ?_ | refine i_sRange1 ?_ | refine i_sRange2 ?_ | refine i_sEnum ?_ | refine i_eIsi ?_ | refine i_eIsi2 ?_ | refine i_eLc ?_ | refine i_eLcM ?_ | refine i_sFor ?_ | refine i_eDisp1 ?_ | refine i_bl ?_ | refine i_int ?_ | refine i_nm ?_ | refine i_one ?_ | refine i_two ?_ | refine i_rng ?_ | refine i_len0 ?_ | refine i_int1 ?_ | refine i_intb ?_ | refine i_abs ?_ | refine i_add ?_ | refine i_sub ?_ | refine i_lt ?_ | refine i_le ?_ | refine i_gt ?_ | refine i_ge ?_ | refine i_eqi ?_ | refine i_is ?_ | refine i_isn ?_ | refine i_nes ?_ | refine i_rbl ?_ | refine i_eCallX ?_ | refine i_eCallKwX ?_ | refine i_sRaiseF ?_ | refine i_eIsX ?_ | refine i_eFld ?_ | refine i_eDit1 ?_ | refine i_sTry ?_ | refine i_runX ?_) | ((with_reducible refine i_eVarX ?_); refine ⟨_, rfl, ?_⟩) | ((with_reducible refine i_len1 ?_ ?_); · exact Nat.le_of_ble_eq_true rfl))
      refine ⟨T2.length + 1, _, _, rfl, rfl, g4 _ _, (by decide : 1 < sizeLine), ?_⟩
      refine hnx _ ⟨o1, [.lst (zs.take a ++ [w] ++ zs.drop a), .lst (zs.take a ++ [sqL ps[n.toNat]] ++ zs.drop a)], u1, ?_, (by decide : 2 ≤ 2), ?_⟩
      · intro b hb
        rcases List.mem_cons.mp hb with rfl | hb
        · exact bad1
        · rw [List.mem_singleton.mp hb]
          obtain ⟨h1, h2, h3⟩ := mid_ (sqL ps[n.toNat]) (flat_L _)
          refine ⟨fun S => lot_of (.inl rfl) h2 h1, are_no2 rfl fun hnd => ?_⟩
          have hpm : ((zs.take a ++ [sqL ps[n.toNat]] ++ zs.drop a).map sqOf).Perm (ps ++ [ps[n.toNat]]) := by
            have := (put_perm zs (sqL ps[n.toNat]) a).map sqOf
            rw [List.map_append (l₁ := zs), hz] at this
            exact this
          have := hpm.nodup_iff.mp hnd
          rw [List.nodup_append] at this
          exact this.2.2 _ (List.getElem_mem hn') _ (List.mem_singleton.mpr rfl) rfl
      · rw [List.set_cons_succ, List.set_append_right _ _ (Nat.le_refl _), Nat.sub_self]
        rfl
  clear u
  obtain ⟨o, bs, u, hbs, hbl, rfl⟩ := hP
  have bad_ : ∀ d : D, flB d = true → drf [] d = d → seqOf d = none → Bad d := fun d h1 h2 h3 => by
    obtain ⟨t, _⟩ := flB_ok h1
    refine ⟨fun S => ⟨drf_ty t.choose_spec, t, fun ys e => by rw [h3] at e; cases e⟩, ?_⟩
    unfold areSq
    rw [h3]
  have hall : ∀ b ∈ bs ++ [.non, .int 5, .str "", .dic [], .dit [([.inl 0, .inl 0], .bl true)], .bl true], Bad b := by
    intro b hb
    rcases List.mem_append.mp hb with hb | hb
    · exact hbs b hb
    · simp only [List.mem_cons, List.not_mem_nil, or_false] at hb
      rcases hb with rfl | rfl | rfl | rfl | rfl | rfl
      · exact bad_ _ (by decide) rfl rfl
      · exact bad_ _ (by decide) rfl rfl
      · exact bad_ _ (by decide) rfl rfl
      · exact bad_ _ (by decide) rfl rfl
      · exact bad_ _ (by decide) rfl rfl
      · exact bad_ _ (by decide) rfl rfl
  refine cut (fun ρ' S' => ∃ T' x11, S' = some o :: T' ∧ ρ' = [x0, some (.ref 0), some d, some (.ref (T.length + 1)), x4, some d5, some (.str (shn d5)), some (.tup (qs.map sqD)), some (.tup (qs.map sqD)), some (.int a), some (.ref (T2.length + 1)), x11, x12, x13, x14, x15]) (fun N' hrt hnx => ?_) (fun ρ' S' hP => ?_)
  · repeat (first | (with_reducible first | refine i_sIf ?_ | refine i_sNil ?_ | refine i_sRet ?_ | refine i_sAsg ?_ | refine i_sDrop ?_ | refine i_sPut ?_ | refine i_sPar ?_ | refine i_eC ?_ | refine i_eOp ?_ | refine i_eChain ?_ | refine i_eB ?_ | refine i_eUn ?_ | refine i_eTup ?_ | refine i_eLst ?_ | refine i_eLstM ?_ | refine i_eAnd ?_ | refine i_eOr ?_ | refine i_eNot ?_ | refine i_eIf ?_ | refine i_bOf ?_ | refine i_bAnd ?_ | refine i_bOr ?_ | refine i_bNot ?_ | refine i_bYes ?_ | refine i_aNil ?_ | refine i_aCons ?_ | refine i_eCall ?_ | refine i_eCallKw ?_ | refine i_eCut ?_ | refine i_oNone ?_ | refine i_oSome ?_ | refine i_eM ?_ | refine i_sSq ?_ | refine i_sRange1 ?_ | refine i_sRange2 ?_ | refine i_sEnum ?_ | refine i_eIsi ?_ | refine i_eIsi2 ?_ | refine i_eLc ?_ | refine i_eLcM ?_ | refine i_sFor ?_ | refine i_eDisp1 ?_ | refine i_bl ?_ | refine i_int ?_ | refine i_nm ?_ | refine i_one ?_ | refine i_two ?_ | refine i_rng ?_ | refine i_len0 ?_ | refine i_int1 ?_ | refine i_intb ?_ | refine i_abs ?_ | refine i_add ?_ | refine i_sub ?_ | refine i_lt ?_ | refine i_le ?_ | refine i_gt ?_ | refine i_ge ?_ | refine i_eqi ?_ | refine i_is ?_ | refine i_isn ?_ | refine i_nes ?_ | refine i_rbl ?_ | refine i_eCallX ?_ | refine i_eCallKwX ?_ | refine i_sRaiseF ?_ | refine i_eIsX ?_ | refine i_eFld ?_ | refine i_eDit1 ?_ | refine i_sTry ?_ | refine i_runX ?_) | ((with_reducible refine i_eVarX ?_); refine ⟨_, rfl, ?_⟩) | ((with_reducible refine i_len1 ?_ ?_); · exact Nat.le_of_ble_eq_true rfl))
    refine ⟨[.inl 0, .inl 0], rfl, ?_⟩
    repeat (first | (with_reducible first | refine i_sIf ?_ | refine i_sNil ?_ | refine i_sRet ?_ | refine i_sAsg ?_ | refine i_sDrop ?_ | refine i_sPut ?_ | refine i_sPar ?_ | refine i_eC ?_ | refine i_eOp ?_ | refine i_eChain ?_ | refine i_eB ?_ | refine i_eUn ?_ | refine i_eTup ?_ | refine i_eLst ?_ | refine i_eLstM ?_ | refine i_eAnd ?_ | refine i_eOr ?_ | refine i_eNot ?_ | refine i_eIf ?_ | refine i_bOf ?_ | refine i_bAnd ?_ | refine i_bOr ?_ | refine i_bNot ?_ | refine i_bYes ?_ | refine i_aNil ?_ | refine i_aCons ?_ | refine i_eCall ?_ | refine i_eCallKw ?_ | refine i_eCut ?_ | refine i_oNone ?_ | refine i_oSome ?_ | refine i_eM ?_ | refine i_sSq ?_ | refine i_sRange1 ?_ | refine i_sRange2 ?_ | refine i_sEnum ?_ | refine i_eIsi ?_ | refine i_eIsi2 ?_ | refine i_eLc ?_ | refine i_eLcM ?_ | refine i_sFor ?_ | refine i_eDisp1 ?_ | refine i_bl ?_ | refine i_int ?_ | refine i_nm ?_ | refine i_one ?_ | refine i_two ?_ | refine i_rng ?_ | refine i_len0 ?_ | refine i_int1 ?_ | refine i_intb ?_ | refine i_abs ?_ | refine i_add ?_ | refine i_sub ?_ | refine i_lt ?_ | refine i_le ?_ | refine i_gt ?_ | refine i_ge ?_ | refine i_eqi ?_ | refine i_is ?_ | refine i_isn ?_ | refine i_nes ?_ | refine i_rbl ?_ | refine i_eCallX ?_ | refine i_eCallKwX ?_ | refine i_sRaiseF ?_ | refine i_eIsX ?_ | refine i_eFld ?_ | refine i_eDit1 ?_ | refine i_sTry ?_ | refine i_runX ?_) | ((with_reducible refine i_eVarX ?_); refine ⟨_, rfl, ?_⟩) | ((with_reducible refine i_len1 ?_ ?_); · exact Nat.le_of_ble_eq_true rfl))
    refine add_lst (drf_ref (g4 o bs)) (b := [.non, .int 5, .str "", .dic [], .dit [([.inl 0, .inl 0], .bl true)], .bl true]) (by rfl) (Nat.le_trans (Nat.add_le_add_right hbl _) (by decide)) ?_
    repeat (first | (with_reducible first | refine i_sIf ?_ | refine i_sNil ?_ | refine i_sRet ?_ | refine i_sAsg ?_ | refine i_sDrop ?_ | refine i_sPut ?_ | refine i_sPar ?_ | refine i_eC ?_ | refine i_eOp ?_ | refine i_eChain ?_ | refine i_eB ?_ | refine i_eUn ?_ | refine i_eTup ?_ | refine i_eLst ?_ | refine i_eLstM ?_ | refine i_eAnd ?_ | refine i_eOr ?_ | refine i_eNot ?_ | refine i_eIf ?_ | refine i_bOf ?_ | refine i_bAnd ?_ | refine i_bOr ?_ | refine i_bNot ?_ | refine i_bYes ?_ | refine i_aNil ?_ | refine i_aCons ?_ | refine i_eCall ?_ | refine i_eCallKw ?_ | refine i_eCut ?_ | refine i_oNone ?_ | refine i_oSome ?_ | refine i_eM ?_ | refine i_sSq ?_ | refine i_sRange1 ?_ | refine i_sRange2 ?_ | refine i_sEnum ?_ | refine i_eIsi ?_ | refine i_eIsi2 ?_ | refine i_eLc ?_ | refine i_eLcM ?_ | refine i_sFor ?_ | refine i_eDisp1 ?_ | refine i_bl ?_ | refine i_int ?_ | refine i_nm ?_ | refine i_one ?_ | refine i_two ?_ | refine i_rng ?_ | refine i_len0 ?_ | refine i_int1 ?_ | refine i_intb ?_ | refine i_abs ?_ | refine i_add ?_ | refine i_sub ?_ | refine i_lt ?_ | refine i_le ?_ | refine i_gt ?_ | refine i_ge ?_ | refine i_eqi ?_ | refine i_is ?_ | refine i_isn ?_ | refine i_nes ?_ | refine i_rbl ?_ | refine i_eCallX ?_ | refine i_eCallKwX ?_ | refine i_sRaiseF ?_ | refine i_eIsX ?_ | refine i_eFld ?_ | refine i_eDit1 ?_ | refine i_sTry ?_ | refine i_runX ?_) | ((with_reducible refine i_eVarX ?_); refine ⟨_, rfl, ?_⟩) | ((with_reducible refine i_len1 ?_ ?_); · exact Nat.le_of_ble_eq_true rfl))
    refine ⟨_, rfl, fun j ρ' S' => ∃ T' x11, S' = some o :: T' ∧ ρ' = [x0, some (.ref 0), some d, some (.ref (T.length + 1)), x4, some d5, some (.str (shn d5)), some (.tup (qs.map sqD)), some (.tup (qs.map sqD)), some (.int a), some (.ref (T2.length + 1)), x11, x12, x13, x14, x15],
      ⟨_, _, rfl, rfl⟩, fun j ρ' S' h => rfl, ?_, ?_⟩
    · rintro j b ρ' S' hb ⟨T', x11, rfl, rfl⟩
      obtain ⟨hl, hno⟩ := hall b (List.mem_of_getElem? hb)
      refine ⟨_, by unfold bindT; rfl, ?_⟩
      repeat (first | (with_reducible first | refine i_sIf ?_ | refine i_sNil ?_ | refine i_sRet ?_ | refine i_sAsg ?_ | refine i_sDrop ?_ | refine i_sPut ?_ | refine i_sPar ?_ | refine i_eC ?_ | refine i_eOp ?_ | refine i_eChain ?_ | refine i_eB ?_ | refine i_eUn ?_ | refine i_eTup ?_ | refine i_eLst ?_ | refine i_eLstM ?_ | refine i_eAnd ?_ | refine i_eOr ?_ | refine i_eNot ?_ | refine i_eIf ?_ | refine i_bOf ?_ | refine i_bAnd ?_ | refine i_bOr ?_ | refine i_bNot ?_ | refine i_bYes ?_ | refine i_aNil ?_ | refine i_aCons ?_ | refine i_eCall ?_ | refine i_eCallKw ?_ | refine i_eCut ?_ | refine i_oNone ?_ | refine i_oSome ?_ | refine i_eM ?_ | refine i_sSq ?_ | refine i_sRange1 ?_ | refine i_sRange2 ?_ | refine i_sEnum ?_ | refine i_eIsi ?_ | refine i_eIsi2 ?_ | refine i_eLc ?_ | refine i_eLcM ?_ | refine i_sFor ?_ | refine i_eDisp1 ?_ | refine i_bl ?_ | refine i_int ?_ | refine i_nm ?_ | refine i_one ?_ | refine i_two ?_ | refine i_rng ?_ | refine i_len0 ?_ | refine i_int1 ?_ | refine i_intb ?_ | refine i_abs ?_ | refine i_add ?_ | refine i_sub ?_ | refine i_lt ?_ | refine i_le ?_ | refine i_gt ?_ | refine i_ge ?_ | refine i_eqi ?_ | refine i_is ?_ | refine i_isn ?_ | refine i_nes ?_ | refine i_rbl ?_ | refine i_eCallX ?_ | refine i_eCallKwX ?_ | refine i_sRaiseF ?_ | refine i_eIsX ?_ | refine i_eFld ?_ | refine i_eDit1 ?_ | refine i_sTry ?_ | refine i_runX ?_) | ((with_reducible refine i_eVarX ?_); refine ⟨_, rfl, ?_⟩) | ((with_reducible refine i_len1 ?_ ?_); · exact Nat.le_of_ble_eq_true rfl))
      refine heard_of kf fun so E' Q' hE hQ => ?_
      repeat (first | (with_reducible first | refine i_sIf ?_ | refine i_sNil ?_ | refine i_sRet ?_ | refine i_sAsg ?_ | refine i_sDrop ?_ | refine i_sPut ?_ | refine i_sPar ?_ | refine i_eC ?_ | refine i_eOp ?_ | refine i_eChain ?_ | refine i_eB ?_ | refine i_eUn ?_ | refine i_eTup ?_ | refine i_eLst ?_ | refine i_eLstM ?_ | refine i_eAnd ?_ | refine i_eOr ?_ | refine i_eNot ?_ | refine i_eIf ?_ | refine i_bOf ?_ | refine i_bAnd ?_ | refine i_bOr ?_ | refine i_bNot ?_ | refine i_bYes ?_ | refine i_aNil ?_ | refine i_aCons ?_ | refine i_eCall ?_ | refine i_eCallKw ?_ | refine i_eCut ?_ | refine i_oNone ?_ | refine i_oSome ?_ | refine i_eM ?_ | refine i_sSq ?_ | refine i_sRange1 ?_ | refine i_sRange2 ?_ | refine i_sEnum ?_ | refine i_eIsi ?_ | refine i_eIsi2 ?_ | refine i_eLc ?_ | refine i_eLcM ?_ | refine i_sFor ?_ | refine i_eDisp1 ?_ | refine i_bl ?_ | refine i_int ?_ | refine i_nm ?_ | refine i_one ?_ | refine i_two ?_ | refine i_rng ?_ | refine i_len0 ?_ | refine i_int1 ?_ | refine i_intb ?_ | refine i_abs ?_ | refine i_add ?_ | refine i_sub ?_ | refine i_lt ?_ | refine i_le ?_ | refine i_gt ?_ | refine i_ge ?_ | refine i_eqi ?_ | refine i_is ?_ | refine i_isn ?_ | refine i_nes ?_ | refine i_rbl ?_ | refine i_eCallX ?_ | refine i_eCallKwX ?_ | refine i_sRaiseF ?_ | refine i_eIsX ?_ | refine i_eFld ?_ | refine i_eDit1 ?_ | refine i_sTry ?_ | refine i_runX ?_) | ((with_reducible refine i_eVarX ?_); refine ⟨_, rfl, ?_⟩) | ((with_reducible refine i_len1 ?_ ?_); · exact Nat.le_of_ble_eq_true rfl))
      refine ⟨b, rfl, b, b, "values", rfl, by decide, hl _, ⟨fun _ => hE "squares" _ "values" _ (.inr ⟨rfl, rfl⟩) fun so => ?_, fun h => by rw [hno] at h; cases h⟩⟩
      repeat (first | (with_reducible first | refine i_sIf ?_ | refine i_sNil ?_ | refine i_sRet ?_ | refine i_sAsg ?_ | refine i_sDrop ?_ | refine i_sPut ?_ | refine i_sPar ?_ | refine i_eC ?_ | refine i_eOp ?_ | refine i_eChain ?_ | refine i_eB ?_ | refine i_eUn ?_ | refine i_eTup ?_ | refine i_eLst ?_ | refine i_eLstM ?_ | refine i_eAnd ?_ | refine i_eOr ?_ | refine i_eNot ?_ | refine i_eIf ?_ | refine i_bOf ?_ | refine i_bAnd ?_ | refine i_bOr ?_ | refine i_bNot ?_ | refine i_bYes ?_ | refine i_aNil ?_ | refine i_aCons ?_ | refine i_eCall ?_ | refine i_eCallKw ?_ | refine i_eCut ?_ | refine i_oNone ?_ | refine i_oSome ?_ | refine i_eM ?_ | refine i_sSq ?_ | refine i_sRange1 ?_ | refine i_sRange2 ?_ | refine i_sEnum ?_ | refine i_eIsi ?_ | refine i_eIsi2 ?_ | refine i_eLc ?_ | refine i_eLcM ?_ | refine i_sFor ?_ | refine i_eDisp1 ?_ | refine i_bl ?_ | refine i_int ?_ | refine i_nm ?_ | refine i_one ?_ | refine i_two ?_ | refine i_rng ?_ | refine i_len0 ?_ | refine i_int1 ?_ | refine i_intb ?_ | refine i_abs ?_ | refine i_add ?_ | refine i_sub ?_ | refine i_lt ?_ | refine i_le ?_ | refine i_gt ?_ | refine i_ge ?_ | refine i_eqi ?_ | refine i_is ?_ | refine i_isn ?_ | refine i_nes ?_ | refine i_rbl ?_ | refine i_eCallX ?_ | refine i_eCallKwX ?_ | refine i_sRaiseF ?_ | refine i_eIsX ?_ | refine i_eFld ?_ | refine i_eDit1 ?_ | refine i_sTry ?_ | refine i_runX ?_) | ((with_reducible refine i_eVarX ?_); refine ⟨_, rfl, ?_⟩) | ((with_reducible refine i_len1 ?_ ?_); · exact Nat.le_of_ble_eq_true rfl))
      refine ne_ss (by decide +kernel) (by decide +kernel) ?_
      repeat (first | (with_reducible first | refine i_sIf ?_ | refine i_sNil ?_ | refine i_sRet ?_ | refine i_sAsg ?_ | refine i_sDrop ?_ | refine i_sPut ?_ | refine i_sPar ?_ | refine i_eC ?_ | refine i_eOp ?_ | refine i_eChain ?_ | refine i_eB ?_ | refine i_eUn ?_ | refine i_eTup ?_ | refine i_eLst ?_ | refine i_eLstM ?_ | refine i_eAnd ?_ | refine i_eOr ?_ | refine i_eNot ?_ | refine i_eIf ?_ | refine i_bOf ?_ | refine i_bAnd ?_ | refine i_bOr ?_ | refine i_bNot ?_ | refine i_bYes ?_ | refine i_aNil ?_ | refine i_aCons ?_ | refine i_eCall ?_ | refine i_eCallKw ?_ | refine i_eCut ?_ | refine i_oNone ?_ | refine i_oSome ?_ | refine i_eM ?_ | refine i_sSq ?_ | refine i_sRange1 ?_ | refine i_sRange2 ?_ | refine i_sEnum ?_ | refine i_eIsi ?_ | refine i_eIsi2 ?_ | refine i_eLc ?_ | refine i_eLcM ?_ | refine i_sFor ?_ | refine i_eDisp1 ?_ | refine i_bl ?_ | refine i_int ?_ | refine i_nm ?_ | refine i_one ?_ | refine i_two ?_ | refine i_rng ?_ | refine i_len0 ?_ | refine i_int1 ?_ | refine i_intb ?_ | refine i_abs ?_ | refine i_add ?_ | refine i_sub ?_ | refine i_lt ?_ | refine i_le ?_ | refine i_gt ?_ | refine i_ge ?_ | refine i_eqi ?_ | refine i_is ?_ | refine i_isn ?_ | refine i_nes ?_ | refine i_rbl ?_ | refine i_eCallX ?_ | refine i_eCallKwX ?_ | refine i_sRaiseF ?_ | refine i_eIsX ?_ | refine i_eFld ?_ | refine i_eDit1 ?_ | refine i_sTry ?_ | refine i_runX ?_) | ((with_reducible refine i_eVarX ?_); refine ⟨_, rfl, ?_⟩) | ((with_reducible refine i_len1 ?_ ?_); · exact Nat.le_of_ble_eq_true rfl))
      refine iteF ?_
      repeat (first | (with_reducible first | refine i_sIf ?_ | refine i_sNil ?_ | refine i_sRet ?_ | refine i_sAsg ?_ | refine i_sDrop ?_ | refine i_sPut ?_ | refine i_sPar ?_ | refine i_eC ?_ | refine i_eOp ?_ | refine i_eChain ?_ | refine i_eB ?_ | refine i_eUn ?_ | refine i_eTup ?_ | refine i_eLst ?_ | refine i_eLstM ?_ | refine i_eAnd ?_ | refine i_eOr ?_ | refine i_eNot ?_ | refine i_eIf ?_ | refine i_bOf ?_ | refine i_bAnd ?_ | refine i_bOr ?_ | refine i_bNot ?_ | refine i_bYes ?_ | refine i_aNil ?_ | refine i_aCons ?_ | refine i_eCall ?_ | refine i_eCallKw ?_ | refine i_eCut ?_ | refine i_oNone ?_ | refine i_oSome ?_ | refine i_eM ?_ | refine i_sSq ?_ | refine i_sRange1 ?_ | refine i_sRange2 ?_ | refine i_sEnum ?_ | refine i_eIsi ?_ | refine i_eIsi2 ?_ | refine i_eLc ?_ | refine i_eLcM ?_ | refine i_sFor ?_ | refine i_eDisp1 ?_ | refine i_bl ?_ | refine i_int ?_ | refine i_nm ?_ | refine i_one ?_ | refine i_two ?_ | refine i_rng ?_ | refine i_len0 ?_ | refine i_int1 ?_ | refine i_intb ?_ | refine i_abs ?_ | refine i_add ?_ | refine i_sub ?_ | refine i_lt ?_ | refine i_le ?_ | refine i_gt ?_ | refine i_ge ?_ | refine i_eqi ?_ | refine i_is ?_ | refine i_isn ?_ | refine i_nes ?_ | refine i_rbl ?_ | refine i_eCallX ?_ | refine i_eCallKwX ?_ | refine i_sRaiseF ?_ | refine i_eIsX ?_ | refine i_eFld ?_ | refine i_eDit1 ?_ | refine i_sTry ?_ | refine i_runX ?_) | ((with_reducible refine i_eVarX ?_); refine ⟨_, rfl, ?_⟩) | ((with_reducible refine i_len1 ?_ ?_); · exact Nat.le_of_ble_eq_true rfl))
      exact ⟨_, _, rfl, rfl⟩
    · rintro ρ' S' ⟨T', x11, rfl, rfl⟩
      exact hnx _ _ ⟨_, _, rfl, rfl⟩
  obtain ⟨T', x11, rfl, rfl⟩ := hP
  -- x, y
  refine cut2 12 13 (fun d12 d13 S' => ∃ o p, Urn (K + 54) o ∧ Drawn p ∧ d12 = .int p.1 ∧ d13 = .int p.2 ∧ S' = some o :: T') (fun N' hrt hnx => ?_) (fun d12 d13 S' hP => ?_)
  · repeat (first | (with_reducible first | refine i_sIf ?_ | refine i_sNil ?_ | refine i_sRet ?_ | refine i_sAsg ?_ | refine i_sDrop ?_ | refine i_sPut ?_ | refine i_sPar ?_ | refine i_eC ?_ | refine i_eOp ?_ | refine i_eChain ?_ | refine i_eB ?_ | refine i_eUn ?_ | refine i_eTup ?_ | refine i_eLst ?_ | refine i_eLstM ?_ | refine i_eAnd ?_ | refine i_eOr ?_ | refine i_eNot ?_ | refine i_eIf ?_ | refine i_bOf ?_ | refine i_bAnd ?_ | refine i_bOr ?_ | refine i_bNot ?_ | refine i_bYes ?_ | refine i_aNil ?_ | refine i_aCons ?_ | refine i_eCall ?_ | refine i_eCallKw ?_ | refine i_eCut ?_ | refine i_oNone ?_ | refine i_oSome ?_ | refine i_eM ?_ | refine i_sSq ?_ | refine i_sRange1 ?_ | refine i_sRange2 ?_ | refine i_sEnum ?_ | refine i_eIsi ?_ | refine i_eIsi2 ?_ | refine i_eLc ?_ | refine i_eLcM ?_ | refine i_sFor ?_ | refine i_eDisp1 ?_ | refine i_bl ?_ | refine i_int ?_ | refine i_nm ?_ | refine i_one ?_ | refine i_two ?_ | refine i_rng ?_ | refine i_len0 ?_ | refine i_int1 ?_ | refine i_intb ?_ | refine i_abs ?_ | refine i_add ?_ | refine i_sub ?_ | refine i_lt ?_ | refine i_le ?_ | refine i_gt ?_ | refine i_ge ?_ | refine i_eqi ?_ | refine i_is ?_ | refine i_isn ?_ | refine i_nes ?_ | refine i_rbl ?_ | refine i_eCallX ?_ | refine i_eCallKwX ?_ | refine i_sRaiseF ?_ | refine i_eIsX ?_ | refine i_eFld ?_ | refine i_eDit1 ?_ | refine i_sTry ?_ | refine i_runX ?_) | ((with_reducible refine i_eVarX ?_); refine ⟨_, rfl, ?_⟩) | ((with_reducible refine i_len1 ?_ ?_); · exact Nat.le_of_ble_eq_true rfl))
    refine ⟨_, o, _, rfl, rfl, u, by omega, fun o1 p u1 hp => ?_⟩
    repeat (first | (with_reducible first | refine i_sIf ?_ | refine i_sNil ?_ | refine i_sRet ?_ | refine i_sAsg ?_ | refine i_sDrop ?_ | refine i_sPut ?_ | refine i_sPar ?_ | refine i_eC ?_ | refine i_eOp ?_ | refine i_eChain ?_ | refine i_eB ?_ | refine i_eUn ?_ | refine i_eTup ?_ | refine i_eLst ?_ | refine i_eLstM ?_ | refine i_eAnd ?_ | refine i_eOr ?_ | refine i_eNot ?_ | refine i_eIf ?_ | refine i_bOf ?_ | refine i_bAnd ?_ | refine i_bOr ?_ | refine i_bNot ?_ | refine i_bYes ?_ | refine i_aNil ?_ | refine i_aCons ?_ | refine i_eCall ?_ | refine i_eCallKw ?_ | refine i_eCut ?_ | refine i_oNone ?_ | refine i_oSome ?_ | refine i_eM ?_ | refine i_sSq ?_ | refine i_sRange1 ?_ | refine i_sRange2 ?_ | refine i_sEnum ?_ | refine i_eIsi ?_ | refine i_eIsi2 ?_ | refine i_eLc ?_ | refine i_eLcM ?_ | refine i_sFor ?_ | refine i_eDisp1 ?_ | refine i_bl ?_ | refine i_int ?_ | refine i_nm ?_ | refine i_one ?_ | refine i_two ?_ | refine i_rng ?_ | refine i_len0 ?_ | refine i_int1 ?_ | refine i_intb ?_ | refine i_abs ?_ | refine i_add ?_ | refine i_sub ?_ | refine i_lt ?_ | refine i_le ?_ | refine i_gt ?_ | refine i_ge ?_ | refine i_eqi ?_ | refine i_is ?_ | refine i_isn ?_ | refine i_nes ?_ | refine i_rbl ?_ | refine i_eCallX ?_ | refine i_eCallKwX ?_ | refine i_sRaiseF ?_ | refine i_eIsX ?_ | refine i_eFld ?_ | refine i_eDit1 ?_ | refine i_sTry ?_ | refine i_runX ?_) | ((with_reducible refine i_eVarX ?_); refine ⟨_, rfl, ?_⟩) | ((with_reducible refine i_len1 ?_ ?_); · exact Nat.le_of_ble_eq_true rfl))
    exact ⟨_, rfl, hnx _ _ _ ⟨o1, p, u1, hp, rfl, rfl, rfl⟩⟩
  clear u
  obtain ⟨o, p, u, hpd, rfl, rfl, rfl⟩ := hP
  have hps := hpd.sml
  -- square
  refine cut1 14 (fun d14 S' => ∃ o, Urn (K + 55) o ∧ (d14 = sqD p ∨ d14 = sqL p) ∧ S' = some o :: T') (fun N' hrt hnx => ?_) (fun d14 S' hP => ?_)
  · repeat (first | (with_reducible first | refine i_sIf ?_ | refine i_sNil ?_ | refine i_sRet ?_ | refine i_sAsg ?_ | refine i_sDrop ?_ | refine i_sPut ?_ | refine i_sPar ?_ | refine i_eC ?_ | refine i_eOp ?_ | refine i_eChain ?_ | refine i_eB ?_ | refine i_eUn ?_ | refine i_eTup ?_ | refine i_eLst ?_ | refine i_eLstM ?_ | refine i_eAnd ?_ | refine i_eOr ?_ | refine i_eNot ?_ | refine i_eIf ?_ | refine i_bOf ?_ | refine i_bAnd ?_ | refine i_bOr ?_ | refine i_bNot ?_ | refine i_bYes ?_ | refine i_aNil ?_ | refine i_aCons ?_ | refine i_eCall ?_ | refine i_eCallKw ?_ | refine i_eCut ?_ | refine i_oNone ?_ | refine i_oSome ?_ | refine i_eM ?_ | refine i_sSq ?_ | refine i_sRange1 ?_ | refine i_sRange2 ?_ | refine i_sEnum ?_ | refine i_eIsi ?_ | refine i_eIsi2 ?_ | refine i_eLc ?_ | refine i_eLcM ?_ | refine i_sFor ?_ | refine i_eDisp1 ?_ | refine i_bl ?_ | refine i_int ?_ | refine i_nm ?_ | refine i_one ?_ | refine i_two ?_ | refine i_rng ?_ | refine i_len0 ?_ | refine i_int1 ?_ | refine i_intb ?_ | refine i_abs ?_ | refine i_add ?_ | refine i_sub ?_ | refine i_lt ?_ | refine i_le ?_ | refine i_gt ?_ | refine i_ge ?_ | refine i_eqi ?_ | refine i_is ?_ | refine i_isn ?_ | refine i_nes ?_ | refine i_rbl ?_ | refine i_eCallX ?_ | refine i_eCallKwX ?_ | refine i_sRaiseF ?_ | refine i_eIsX ?_ | refine i_eFld ?_ | refine i_eDit1 ?_ | refine i_sTry ?_ | refine i_runX ?_) | ((with_reducible refine i_eVarX ?_); refine ⟨_, rfl, ?_⟩) | ((with_reducible refine i_len1 ?_ ?_); · exact Nat.le_of_ble_eq_true rfl))
    refine draw_of u (by omega) (by decide) (by decide) fun o1 n u1 n0 n1 => ?_
    repeat (first | (with_reducible first | refine i_sIf ?_ | refine i_sNil ?_ | refine i_sRet ?_ | refine i_sAsg ?_ | refine i_sDrop ?_ | refine i_sPut ?_ | refine i_sPar ?_ | refine i_eC ?_ | refine i_eOp ?_ | refine i_eChain ?_ | refine i_eB ?_ | refine i_eUn ?_ | refine i_eTup ?_ | refine i_eLst ?_ | refine i_eLstM ?_ | refine i_eAnd ?_ | refine i_eOr ?_ | refine i_eNot ?_ | refine i_eIf ?_ | refine i_bOf ?_ | refine i_bAnd ?_ | refine i_bOr ?_ | refine i_bNot ?_ | refine i_bYes ?_ | refine i_aNil ?_ | refine i_aCons ?_ | refine i_eCall ?_ | refine i_eCallKw ?_ | refine i_eCut ?_ | refine i_oNone ?_ | refine i_oSome ?_ | refine i_eM ?_ | refine i_sSq ?_ | refine i_sRange1 ?_ | refine i_sRange2 ?_ | refine i_sEnum ?_ | refine i_eIsi ?_ | refine i_eIsi2 ?_ | refine i_eLc ?_ | refine i_eLcM ?_ | refine i_sFor ?_ | refine i_eDisp1 ?_ | refine i_bl ?_ | refine i_int ?_ | refine i_nm ?_ | refine i_one ?_ | refine i_two ?_ | refine i_rng ?_ | refine i_len0 ?_ | refine i_int1 ?_ | refine i_intb ?_ | refine i_abs ?_ | refine i_add ?_ | refine i_sub ?_ | refine i_lt ?_ | refine i_le ?_ | refine i_gt ?_ | refine i_ge ?_ | refine i_eqi ?_ | refine i_is ?_ | refine i_isn ?_ | refine i_nes ?_ | refine i_rbl ?_ | refine i_eCallX ?_ | refine i_eCallKwX ?_ | refine i_sRaiseF ?_ | refine i_eIsX ?_ | refine i_eFld ?_ | refine i_eDit1 ?_ | refine i_sTry ?_ | refine i_runX ?_) | ((with_reducible refine i_eVarX ?_); refine ⟨_, rfl, ?_⟩) | ((with_reducible refine i_len1 ?_ ?_); · exact Nat.le_of_ble_eq_true rfl))
    refine ite_by (fun h => ?_) (fun h => ?_)
    · repeat (first | (with_reducible first | refine i_sIf ?_ | refine i_sNil ?_ | refine i_sRet ?_ | refine i_sAsg ?_ | refine i_sDrop ?_ | refine i_sPut ?_ | refine i_sPar ?_ | refine i_eC ?_ | refine i_eOp ?_ | refine i_eChain ?_ | refine i_eB ?_ | refine i_eUn ?_ | refine i_eTup ?_ | refine i_eLst ?_ | refine i_eLstM ?_ | refine i_eAnd ?_ | refine i_eOr ?_ | refine i_eNot ?_ | refine i_eIf ?_ | refine i_bOf ?_ | refine i_bAnd ?_ | refine i_bOr ?_ | refine i_bNot ?_ | refine i_bYes ?_ | refine i_aNil ?_ | refine i_aCons ?_ | refine i_eCall ?_ | refine i_eCallKw ?_ | refine i_eCut ?_ | refine i_oNone ?_ | refine i_oSome ?_ | refine i_eM ?_ | refine i_sSq ?_ | refine i_sRange1 ?_ | refine i_sRange2 ?_ | refine i_sEnum ?_ | refine i_eIsi ?_ | refine i_eIsi2 ?_ | refine i_eLc ?_ | refine i_eLcM ?_ | refine i_sFor ?_ | refine i_eDisp1 ?_ | refine i_bl ?_ | refine i_int ?_ | refine i_nm ?_ | refine i_one ?_ | refine i_two ?_ | refine i_rng ?_ | refine i_len0 ?_ | refine i_int1 ?_ | refine i_intb ?_ | refine i_abs ?_ | refine i_add ?_ | refine i_sub ?_ | refine i_lt ?_ | refine i_le ?_ | refine i_gt ?_ | refine i_ge ?_ | refine i_eqi ?_ | refine i_is ?_ | refine i_isn ?_ | refine i_nes ?_ | refine i_rbl ?_ | refine i_eCallX ?_ | refine i_eCallKwX ?_ | refine i_sRaiseF ?_ | refine i_eIsX ?_ | refine i_eFld ?_ | refine i_eDit1 ?_ | refine i_sTry ?_ | refine i_runX ?_) | ((with_reducible refine i_eVarX ?_); refine ⟨_, rfl, ?_⟩) | ((with_reducible refine i_len1 ?_ ?_); · exact Nat.le_of_ble_eq_true rfl))
      exact hnx _ _ ⟨o1, u1, .inr rfl, rfl⟩
    · repeat (first | (with_reducible first | refine i_sIf ?_ | refine i_sNil ?_ | refine i_sRet ?_ | refine i_sAsg ?_ | refine i_sDrop ?_ | refine i_sPut ?_ | refine i_sPar ?_ | refine i_eC ?_ | refine i_eOp ?_ | refine i_eChain ?_ | refine i_eB ?_ | refine i_eUn ?_ | refine i_eTup ?_ | refine i_eLst ?_ | refine i_eLstM ?_ | refine i_eAnd ?_ | refine i_eOr ?_ | refine i_eNot ?_ | refine i_eIf ?_ | refine i_bOf ?_ | refine i_bAnd ?_ | refine i_bOr ?_ | refine i_bNot ?_ | refine i_bYes ?_ | refine i_aNil ?_ | refine i_aCons ?_ | refine i_eCall ?_ | refine i_eCallKw ?_ | refine i_eCut ?_ | refine i_oNone ?_ | refine i_oSome ?_ | refine i_eM ?_ | refine i_sSq ?_ | refine i_sRange1 ?_ | refine i_sRange2 ?_ | refine i_sEnum ?_ | refine i_eIsi ?_ | refine i_eIsi2 ?_ | refine i_eLc ?_ | refine i_eLcM ?_ | refine i_sFor ?_ | refine i_eDisp1 ?_ | refine i_bl ?_ | refine i_int ?_ | refine i_nm ?_ | refine i_one ?_ | refine i_two ?_ | refine i_rng ?_ | refine i_len0 ?_ | refine i_int1 ?_ | refine i_intb ?_ | refine i_abs ?_ | refine i_add ?_ | refine i_sub ?_ | refine i_lt ?_ | refine i_le ?_ | refine i_gt ?_ | refine i_ge ?_ | refine i_eqi ?_ | refine i_is ?_ | refine i_isn ?_ | refine i_nes ?_ | refine i_rbl ?_ | refine i_eCallX ?_ | refine i_eCallKwX ?_ | refine i_sRaiseF ?_ | refine i_eIsX ?_ | refine i_eFld ?_ | refine i_eDit1 ?_ | refine i_sTry ?_ | refine i_runX ?_) | ((with_reducible refine i_eVarX ?_); refine ⟨_, rfl, ?_⟩) | ((with_reducible refine i_len1 ?_ ?_); · exact Nat.le_of_ble_eq_true rfl))
      exact hnx _ _ ⟨o1, u1, .inl rfl, rfl⟩
  clear u
  obtain ⟨o, u, hd14, rfl⟩ := hP
  -- due
  refine cut1 7 (fun d7 S' => d7 = .tup ((near4 p).map sqD) ∧ S' = some o :: T') (fun N' hrt hnx => ?_) (fun d7 S' hP => ?_)
  · repeat (first | (with_reducible first | refine i_sIf ?_ | refine i_sNil ?_ | refine i_sRet ?_ | refine i_sAsg ?_ | refine i_sDrop ?_ | refine i_sPut ?_ | refine i_sPar ?_ | refine i_eC ?_ | refine i_eOp ?_ | refine i_eChain ?_ | refine i_eB ?_ | refine i_eUn ?_ | refine i_eTup ?_ | refine i_eLst ?_ | refine i_eLstM ?_ | refine i_eAnd ?_ | refine i_eOr ?_ | refine i_eNot ?_ | refine i_eIf ?_ | refine i_bOf ?_ | refine i_bAnd ?_ | refine i_bOr ?_ | refine i_bNot ?_ | refine i_bYes ?_ | refine i_aNil ?_ | refine i_aCons ?_ | refine i_eCall ?_ | refine i_eCallKw ?_ | refine i_eCut ?_ | refine i_oNone ?_ | refine i_oSome ?_ | refine i_eM ?_ | refine i_sSq ?_ | refine i_sRange1 ?_ | refine i_sRange2 ?_ | refine i_sEnum ?_ | refine i_eIsi ?_ | refine i_eIsi2 ?_ | refine i_eLc ?_ | refine i_eLcM ?_ | refine i_sFor ?_ | refine i_eDisp1 ?_ | refine i_bl ?_ | refine i_int ?_ | refine i_nm ?_ | refine i_one ?_ | refine i_two ?_ | refine i_rng ?_ | refine i_len0 ?_ | refine i_int1 ?_ | refine i_intb ?_ | refine i_abs ?_ | refine i_add ?_ | refine i_sub ?_ | refine i_lt ?_ | refine i_le ?_ | refine i_gt ?_ | refine i_ge ?_ | refine i_eqi ?_ | refine i_is ?_ | refine i_isn ?_ | refine i_nes ?_ | refine i_rbl ?_ | refine i_eCallX ?_ | refine i_eCallKwX ?_ | refine i_sRaiseF ?_ | refine i_eIsX ?_ | refine i_eFld ?_ | refine i_eDit1 ?_ | refine i_sTry ?_ | refine i_runX ?_) | ((with_reducible refine i_eVarX ?_); refine ⟨_, rfl, ?_⟩) | ((with_reducible refine i_len1 ?_ ?_); · exact Nat.le_of_ble_eq_true rfl))
    exact hnx _ _ ⟨rfl, rfl⟩
  obtain ⟨rfl, rfl⟩ := hP
  have nsm : ∀ z ∈ near4 p, SmlP z := by
    have ⟨h1, h2⟩ := hpd
    intro z hz
    simp only [near4, List.mem_cons, List.not_mem_nil, or_false] at hz
    rcases hz with rfl | rfl | rfl | rfl <;> (constructor <;> (show Int.natAbs _ < 10 ^ 70; simp only; omega))
  have n7h : NC.shw 60 (.tup ((near4 p).map sqD)) = true := shw_many (w := 150) (.inr rfl) fun z hz => by
    obtain ⟨p, hp', rfl⟩ := List.mem_map.mp hz
    exact shw_D (nsm p hp')
  have n7w : wid (.tup ((near4 p).map sqD)) ≤ 7 * (150 + 2) + 3 := wid_many (zs := (near4 p).map sqD) (.inr rfl) (fun z hz => by
    obtain ⟨p, hp', rfl⟩ := List.mem_map.mp hz
    exact wid_D (nsm p hp')) (by rw [List.length_map]; exact (by decide : 4 ≤ 7))
  have near_ : ∀ (S : Store) (Q' : QD) (E : XD), Q' (.tup ((near4 p).map sqD)) S → r_around cs [d14] S Q' E := fun S Q' E q' => by
    have hv' : SqV d14 := ⟨p, hps, hd14⟩
    have e : sqOf d14 = p := by rcases hd14 with rfl | rfl <;> rfl
    refine ⟨d14, rfl, hv'.flat, ⟨fun h => ?_, fun _ => ?_⟩⟩
    · rw [hv'.is] at h
      cases h
    · rw [e]
      exact q'
  refine cut0 (fun S' => S' = some o :: T') (fun N' hrt hnx => ?_) (fun S' hP => ?_)
  · repeat (first | (with_reducible first | refine i_sIf ?_ | refine i_sNil ?_ | refine i_sRet ?_ | refine i_sAsg ?_ | refine i_sDrop ?_ | refine i_sPut ?_ | refine i_sPar ?_ | refine i_eC ?_ | refine i_eOp ?_ | refine i_eChain ?_ | refine i_eB ?_ | refine i_eUn ?_ | refine i_eTup ?_ | refine i_eLst ?_ | refine i_eLstM ?_ | refine i_eAnd ?_ | refine i_eOr ?_ | refine i_eNot ?_ | refine i_eIf ?_ | refine i_bOf ?_ | refine i_bAnd ?_ | refine i_bOr ?_ | refine i_bNot ?_ | refine i_bYes ?_ | refine i_aNil ?_ | refine i_aCons ?_ | refine i_eCall ?_ | refine i_eCallKw ?_ | refine i_eCut ?_ | refine i_oNone ?_ | refine i_oSome ?_ | refine i_eM ?_ | refine i_sSq ?_ | refine i_sRange1 ?_ | refine i_sRange2 ?_ | refine i_sEnum ?_ | refine i_eIsi ?_ | refine i_eIsi2 ?_ | refine i_eLc ?_ | refine i_eLcM ?_ | refine i_sFor ?_ | refine i_eDisp1 ?_ | refine i_bl ?_ | refine i_int ?_ | refine i_nm ?_ | refine i_one ?_ | refine i_two ?_ | refine i_rng ?_ | refine i_len0 ?_ | refine i_int1 ?_ | refine i_intb ?_ | refine i_abs ?_ | refine i_add ?_ | refine i_sub ?_ | refine i_lt ?_ | refine i_le ?_ | refine i_gt ?_ | refine i_ge ?_ | refine i_eqi ?_ | refine i_is ?_ | refine i_isn ?_ | refine i_nes ?_ | refine i_rbl ?_ | refine i_eCallX ?_ | refine i_eCallKwX ?_ | refine i_sRaiseF ?_ | refine i_eIsX ?_ | refine i_eFld ?_ | refine i_eDit1 ?_ | refine i_sTry ?_ | refine i_runX ?_) | ((with_reducible refine i_eVarX ?_); refine ⟨_, rfl, ?_⟩) | ((with_reducible refine i_len1 ?_ ?_); · exact Nat.le_of_ble_eq_true rfl))
    refine near_ _ _ _ ?_
    repeat (first | (with_reducible first | refine i_sIf ?_ | refine i_sNil ?_ | refine i_sRet ?_ | refine i_sAsg ?_ | refine i_sDrop ?_ | refine i_sPut ?_ | refine i_sPar ?_ | refine i_eC ?_ | refine i_eOp ?_ | refine i_eChain ?_ | refine i_eB ?_ | refine i_eUn ?_ | refine i_eTup ?_ | refine i_eLst ?_ | refine i_eLstM ?_ | refine i_eAnd ?_ | refine i_eOr ?_ | refine i_eNot ?_ | refine i_eIf ?_ | refine i_bOf ?_ | refine i_bAnd ?_ | refine i_bOr ?_ | refine i_bNot ?_ | refine i_bYes ?_ | refine i_aNil ?_ | refine i_aCons ?_ | refine i_eCall ?_ | refine i_eCallKw ?_ | refine i_eCut ?_ | refine i_oNone ?_ | refine i_oSome ?_ | refine i_eM ?_ | refine i_sSq ?_ | refine i_sRange1 ?_ | refine i_sRange2 ?_ | refine i_sEnum ?_ | refine i_eIsi ?_ | refine i_eIsi2 ?_ | refine i_eLc ?_ | refine i_eLcM ?_ | refine i_sFor ?_ | refine i_eDisp1 ?_ | refine i_bl ?_ | refine i_int ?_ | refine i_nm ?_ | refine i_one ?_ | refine i_two ?_ | refine i_rng ?_ | refine i_len0 ?_ | refine i_int1 ?_ | refine i_intb ?_ | refine i_abs ?_ | refine i_add ?_ | refine i_sub ?_ | refine i_lt ?_ | refine i_le ?_ | refine i_gt ?_ | refine i_ge ?_ | refine i_eqi ?_ | refine i_is ?_ | refine i_isn ?_ | refine i_nes ?_ | refine i_rbl ?_ | refine i_eCallX ?_ | refine i_eCallKwX ?_ | refine i_sRaiseF ?_ | refine i_eIsX ?_ | refine i_eFld ?_ | refine i_eDit1 ?_ | refine i_sTry ?_ | refine i_runX ?_) | ((with_reducible refine i_eVarX ?_); refine ⟨_, rfl, ?_⟩) | ((with_reducible refine i_len1 ?_ ?_); · exact Nat.le_of_ble_eq_true rfl))
    refine repr_of rfl n7h n7w (by decide) ?_
    repeat (first | (with_reducible first | refine i_sIf ?_ | refine i_sNil ?_ | refine i_sRet ?_ | refine i_sAsg ?_ | refine i_sDrop ?_ | refine i_sPut ?_ | refine i_sPar ?_ | refine i_eC ?_ | refine i_eOp ?_ | refine i_eChain ?_ | refine i_eB ?_ | refine i_eUn ?_ | refine i_eTup ?_ | refine i_eLst ?_ | refine i_eLstM ?_ | refine i_eAnd ?_ | refine i_eOr ?_ | refine i_eNot ?_ | refine i_eIf ?_ | refine i_bOf ?_ | refine i_bAnd ?_ | refine i_bOr ?_ | refine i_bNot ?_ | refine i_bYes ?_ | refine i_aNil ?_ | refine i_aCons ?_ | refine i_eCall ?_ | refine i_eCallKw ?_ | refine i_eCut ?_ | refine i_oNone ?_ | refine i_oSome ?_ | refine i_eM ?_ | refine i_sSq ?_ | refine i_sRange1 ?_ | refine i_sRange2 ?_ | refine i_sEnum ?_ | refine i_eIsi ?_ | refine i_eIsi2 ?_ | refine i_eLc ?_ | refine i_eLcM ?_ | refine i_sFor ?_ | refine i_eDisp1 ?_ | refine i_bl ?_ | refine i_int ?_ | refine i_nm ?_ | refine i_one ?_ | refine i_two ?_ | refine i_rng ?_ | refine i_len0 ?_ | refine i_int1 ?_ | refine i_intb ?_ | refine i_abs ?_ | refine i_add ?_ | refine i_sub ?_ | refine i_lt ?_ | refine i_le ?_ | refine i_gt ?_ | refine i_ge ?_ | refine i_eqi ?_ | refine i_is ?_ | refine i_isn ?_ | refine i_nes ?_ | refine i_rbl ?_ | refine i_eCallX ?_ | refine i_eCallKwX ?_ | refine i_sRaiseF ?_ | refine i_eIsX ?_ | refine i_eFld ?_ | refine i_eDit1 ?_ | refine i_sTry ?_ | refine i_runX ?_) | ((with_reducible refine i_eVarX ?_); refine ⟨_, rfl, ?_⟩) | ((with_reducible refine i_len1 ?_ ?_); · exact Nat.le_of_ble_eq_true rfl))
    refine repr_of rfl n7h n7w (by decide) ?_
    repeat (first | (with_reducible first | refine i_sIf ?_ | refine i_sNil ?_ | refine i_sRet ?_ | refine i_sAsg ?_ | refine i_sDrop ?_ | refine i_sPut ?_ | refine i_sPar ?_ | refine i_eC ?_ | refine i_eOp ?_ | refine i_eChain ?_ | refine i_eB ?_ | refine i_eUn ?_ | refine i_eTup ?_ | refine i_eLst ?_ | refine i_eLstM ?_ | refine i_eAnd ?_ | refine i_eOr ?_ | refine i_eNot ?_ | refine i_eIf ?_ | refine i_bOf ?_ | refine i_bAnd ?_ | refine i_bOr ?_ | refine i_bNot ?_ | refine i_bYes ?_ | refine i_aNil ?_ | refine i_aCons ?_ | refine i_eCall ?_ | refine i_eCallKw ?_ | refine i_eCut ?_ | refine i_oNone ?_ | refine i_oSome ?_ | refine i_eM ?_ | refine i_sSq ?_ | refine i_sRange1 ?_ | refine i_sRange2 ?_ | refine i_sEnum ?_ | refine i_eIsi ?_ | refine i_eIsi2 ?_ | refine i_eLc ?_ | refine i_eLcM ?_ | refine i_sFor ?_ | refine i_eDisp1 ?_ | refine i_bl ?_ | refine i_int ?_ | refine i_nm ?_ | refine i_one ?_ | refine i_two ?_ | refine i_rng ?_ | refine i_len0 ?_ | refine i_int1 ?_ | refine i_intb ?_ | refine i_abs ?_ | refine i_add ?_ | refine i_sub ?_ | refine i_lt ?_ | refine i_le ?_ | refine i_gt ?_ | refine i_ge ?_ | refine i_eqi ?_ | refine i_is ?_ | refine i_isn ?_ | refine i_nes ?_ | refine i_rbl ?_ | refine i_eCallX ?_ | refine i_eCallKwX ?_ | refine i_sRaiseF ?_ | refine i_eIsX ?_ | refine i_eFld ?_ | refine i_eDit1 ?_ | refine i_sTry ?_ | refine i_runX ?_) | ((with_reducible refine i_eVarX ?_); refine ⟨_, rfl, ?_⟩) | ((with_reducible refine i_len1 ?_ ?_); · exact Nat.le_of_ble_eq_true rfl))
    rw [decide_eq_true rfl]
    refine iteF ?_
    repeat (first | (with_reducible first | refine i_sIf ?_ | refine i_sNil ?_ | refine i_sRet ?_ | refine i_sAsg ?_ | refine i_sDrop ?_ | refine i_sPut ?_ | refine i_sPar ?_ | refine i_eC ?_ | refine i_eOp ?_ | refine i_eChain ?_ | refine i_eB ?_ | refine i_eUn ?_ | refine i_eTup ?_ | refine i_eLst ?_ | refine i_eLstM ?_ | refine i_eAnd ?_ | refine i_eOr ?_ | refine i_eNot ?_ | refine i_eIf ?_ | refine i_bOf ?_ | refine i_bAnd ?_ | refine i_bOr ?_ | refine i_bNot ?_ | refine i_bYes ?_ | refine i_aNil ?_ | refine i_aCons ?_ | refine i_eCall ?_ | refine i_eCallKw ?_ | refine i_eCut ?_ | refine i_oNone ?_ | refine i_oSome ?_ | refine i_eM ?_ | refine i_sSq ?_ | refine i_sRange1 ?_ | refine i_sRange2 ?_ | refine i_sEnum ?_ | refine i_eIsi ?_ | refine i_eIsi2 ?_ | refine i_eLc ?_ | refine i_eLcM ?_ | refine i_sFor ?_ | refine i_eDisp1 ?_ | refine i_bl ?_ | refine i_int ?_ | refine i_nm ?_ | refine i_one ?_ | refine i_two ?_ | refine i_rng ?_ | refine i_len0 ?_ | refine i_int1 ?_ | refine i_intb ?_ | refine i_abs ?_ | refine i_add ?_ | refine i_sub ?_ | refine i_lt ?_ | refine i_le ?_ | refine i_gt ?_ | refine i_ge ?_ | refine i_eqi ?_ | refine i_is ?_ | refine i_isn ?_ | refine i_nes ?_ | refine i_rbl ?_ | refine i_eCallX ?_ | refine i_eCallKwX ?_ | refine i_sRaiseF ?_ | refine i_eIsX ?_ | refine i_eFld ?_ | refine i_eDit1 ?_ | refine i_sTry ?_ | refine i_runX ?_) | ((with_reducible refine i_eVarX ?_); refine ⟨_, rfl, ?_⟩) | ((with_reducible refine i_len1 ?_ ?_); · exact Nat.le_of_ble_eq_true rfl))
    refine ⟨rfl, rfl, near_ _ _ _ ?_⟩
    repeat (first | (with_reducible first | refine i_sIf ?_ | refine i_sNil ?_ | refine i_sRet ?_ | refine i_sAsg ?_ | refine i_sDrop ?_ | refine i_sPut ?_ | refine i_sPar ?_ | refine i_eC ?_ | refine i_eOp ?_ | refine i_eChain ?_ | refine i_eB ?_ | refine i_eUn ?_ | refine i_eTup ?_ | refine i_eLst ?_ | refine i_eLstM ?_ | refine i_eAnd ?_ | refine i_eOr ?_ | refine i_eNot ?_ | refine i_eIf ?_ | refine i_bOf ?_ | refine i_bAnd ?_ | refine i_bOr ?_ | refine i_bNot ?_ | refine i_bYes ?_ | refine i_aNil ?_ | refine i_aCons ?_ | refine i_eCall ?_ | refine i_eCallKw ?_ | refine i_eCut ?_ | refine i_oNone ?_ | refine i_oSome ?_ | refine i_eM ?_ | refine i_sSq ?_ | refine i_sRange1 ?_ | refine i_sRange2 ?_ | refine i_sEnum ?_ | refine i_eIsi ?_ | refine i_eIsi2 ?_ | refine i_eLc ?_ | refine i_eLcM ?_ | refine i_sFor ?_ | refine i_eDisp1 ?_ | refine i_bl ?_ | refine i_int ?_ | refine i_nm ?_ | refine i_one ?_ | refine i_two ?_ | refine i_rng ?_ | refine i_len0 ?_ | refine i_int1 ?_ | refine i_intb ?_ | refine i_abs ?_ | refine i_add ?_ | refine i_sub ?_ | refine i_lt ?_ | refine i_le ?_ | refine i_gt ?_ | refine i_ge ?_ | refine i_eqi ?_ | refine i_is ?_ | refine i_isn ?_ | refine i_nes ?_ | refine i_rbl ?_ | refine i_eCallX ?_ | refine i_eCallKwX ?_ | refine i_sRaiseF ?_ | refine i_eIsX ?_ | refine i_eFld ?_ | refine i_eDit1 ?_ | refine i_sTry ?_ | refine i_runX ?_) | ((with_reducible refine i_eVarX ?_); refine ⟨_, rfl, ?_⟩) | ((with_reducible refine i_len1 ?_ ?_); · exact Nat.le_of_ble_eq_true rfl))
    refine repr_of rfl n7h n7w (by decide) ?_
    repeat (first | (with_reducible first | refine i_sIf ?_ | refine i_sNil ?_ | refine i_sRet ?_ | refine i_sAsg ?_ | refine i_sDrop ?_ | refine i_sPut ?_ | refine i_sPar ?_ | refine i_eC ?_ | refine i_eOp ?_ | refine i_eChain ?_ | refine i_eB ?_ | refine i_eUn ?_ | refine i_eTup ?_ | refine i_eLst ?_ | refine i_eLstM ?_ | refine i_eAnd ?_ | refine i_eOr ?_ | refine i_eNot ?_ | refine i_eIf ?_ | refine i_bOf ?_ | refine i_bAnd ?_ | refine i_bOr ?_ | refine i_bNot ?_ | refine i_bYes ?_ | refine i_aNil ?_ | refine i_aCons ?_ | refine i_eCall ?_ | refine i_eCallKw ?_ | refine i_eCut ?_ | refine i_oNone ?_ | refine i_oSome ?_ | refine i_eM ?_ | refine i_sSq ?_ | refine i_sRange1 ?_ | refine i_sRange2 ?_ | refine i_sEnum ?_ | refine i_eIsi ?_ | refine i_eIsi2 ?_ | refine i_eLc ?_ | refine i_eLcM ?_ | refine i_sFor ?_ | refine i_eDisp1 ?_ | refine i_bl ?_ | refine i_int ?_ | refine i_nm ?_ | refine i_one ?_ | refine i_two ?_ | refine i_rng ?_ | refine i_len0 ?_ | refine i_int1 ?_ | refine i_intb ?_ | refine i_abs ?_ | refine i_add ?_ | refine i_sub ?_ | refine i_lt ?_ | refine i_le ?_ | refine i_gt ?_ | refine i_ge ?_ | refine i_eqi ?_ | refine i_is ?_ | refine i_isn ?_ | refine i_nes ?_ | refine i_rbl ?_ | refine i_eCallX ?_ | refine i_eCallKwX ?_ | refine i_sRaiseF ?_ | refine i_eIsX ?_ | refine i_eFld ?_ | refine i_eDit1 ?_ | refine i_sTry ?_ | refine i_runX ?_) | ((with_reducible refine i_eVarX ?_); refine ⟨_, rfl, ?_⟩) | ((with_reducible refine i_len1 ?_ ?_); · exact Nat.le_of_ble_eq_true rfl))
    refine repr_of rfl n7h n7w (by decide) ?_
    repeat (first | (with_reducible first | refine i_sIf ?_ | refine i_sNil ?_ | refine i_sRet ?_ | refine i_sAsg ?_ | refine i_sDrop ?_ | refine i_sPut ?_ | refine i_sPar ?_ | refine i_eC ?_ | refine i_eOp ?_ | refine i_eChain ?_ | refine i_eB ?_ | refine i_eUn ?_ | refine i_eTup ?_ | refine i_eLst ?_ | refine i_eLstM ?_ | refine i_eAnd ?_ | refine i_eOr ?_ | refine i_eNot ?_ | refine i_eIf ?_ | refine i_bOf ?_ | refine i_bAnd ?_ | refine i_bOr ?_ | refine i_bNot ?_ | refine i_bYes ?_ | refine i_aNil ?_ | refine i_aCons ?_ | refine i_eCall ?_ | refine i_eCallKw ?_ | refine i_eCut ?_ | refine i_oNone ?_ | refine i_oSome ?_ | refine i_eM ?_ | refine i_sSq ?_ | refine i_sRange1 ?_ | refine i_sRange2 ?_ | refine i_sEnum ?_ | refine i_eIsi ?_ | refine i_eIsi2 ?_ | refine i_eLc ?_ | refine i_eLcM ?_ | refine i_sFor ?_ | refine i_eDisp1 ?_ | refine i_bl ?_ | refine i_int ?_ | refine i_nm ?_ | refine i_one ?_ | refine i_two ?_ | refine i_rng ?_ | refine i_len0 ?_ | refine i_int1 ?_ | refine i_intb ?_ | refine i_abs ?_ | refine i_add ?_ | refine i_sub ?_ | refine i_lt ?_ | refine i_le ?_ | refine i_gt ?_ | refine i_ge ?_ | refine i_eqi ?_ | refine i_is ?_ | refine i_isn ?_ | refine i_nes ?_ | refine i_rbl ?_ | refine i_eCallX ?_ | refine i_eCallKwX ?_ | refine i_sRaiseF ?_ | refine i_eIsX ?_ | refine i_eFld ?_ | refine i_eDit1 ?_ | refine i_sTry ?_ | refine i_runX ?_) | ((with_reducible refine i_eVarX ?_); refine ⟨_, rfl, ?_⟩) | ((with_reducible refine i_len1 ?_ ?_); · exact Nat.le_of_ble_eq_true rfl))
    rw [decide_eq_true rfl]
    refine iteF ?_
    repeat (first | (with_reducible first | refine i_sIf ?_ | refine i_sNil ?_ | refine i_sRet ?_ | refine i_sAsg ?_ | refine i_sDrop ?_ | refine i_sPut ?_ | refine i_sPar ?_ | refine i_eC ?_ | refine i_eOp ?_ | refine i_eChain ?_ | refine i_eB ?_ | refine i_eUn ?_ | refine i_eTup ?_ | refine i_eLst ?_ | refine i_eLstM ?_ | refine i_eAnd ?_ | refine i_eOr ?_ | refine i_eNot ?_ | refine i_eIf ?_ | refine i_bOf ?_ | refine i_bAnd ?_ | refine i_bOr ?_ | refine i_bNot ?_ | refine i_bYes ?_ | refine i_aNil ?_ | refine i_aCons ?_ | refine i_eCall ?_ | refine i_eCallKw ?_ | refine i_eCut ?_ | refine i_oNone ?_ | refine i_oSome ?_ | refine i_eM ?_ | refine i_sSq ?_ | refine i_sRange1 ?_ | refine i_sRange2 ?_ | refine i_sEnum ?_ | refine i_eIsi ?_ | refine i_eIsi2 ?_ | refine i_eLc ?_ | refine i_eLcM ?_ | refine i_sFor ?_ | refine i_eDisp1 ?_ | refine i_bl ?_ | refine i_int ?_ | refine i_nm ?_ | refine i_one ?_ | refine i_two ?_ | refine i_rng ?_ | refine i_len0 ?_ | refine i_int1 ?_ | refine i_intb ?_ | refine i_abs ?_ | refine i_add ?_ | refine i_sub ?_ | refine i_lt ?_ | refine i_le ?_ | refine i_gt ?_ | refine i_ge ?_ | refine i_eqi ?_ | refine i_is ?_ | refine i_isn ?_ | refine i_nes ?_ | refine i_rbl ?_ | refine i_eCallX ?_ | refine i_eCallKwX ?_ | refine i_sRaiseF ?_ | refine i_eIsX ?_ | refine i_eFld ?_ | refine i_eDit1 ?_ | refine i_sTry ?_ | refine i_runX ?_) | ((with_reducible refine i_eVarX ?_); refine ⟨_, rfl, ?_⟩) | ((with_reducible refine i_len1 ?_ ?_); · exact Nat.le_of_ble_eq_true rfl))
    exact hnx _ rfl
  subst hP
  repeat (first | (with_reducible first | refine i_sIf ?_ | refine i_sNil ?_ | refine i_sRet ?_ | refine i_sAsg ?_ | refine i_sDrop ?_ | refine i_sPut ?_ | refine i_sPar ?_ | refine i_eC ?_ | refine i_eOp ?_ | refine i_eChain ?_ | refine i_eB ?_ | refine i_eUn ?_ | refine i_eTup ?_ | refine i_eLst ?_ | refine i_eLstM ?_ | refine i_eAnd ?_ | refine i_eOr ?_ | refine i_eNot ?_ | refine i_eIf ?_ | refine i_bOf ?_ | refine i_bAnd ?_ | refine i_bOr ?_ | refine i_bNot ?_ | refine i_bYes ?_ | refine i_aNil ?_ | refine i_aCons ?_ | refine i_eCall ?_ | refine i_eCallKw ?_ | refine i_eCut ?_ | refine i_oNone ?_ | refine i_oSome ?_ | refine i_eM ?_ | refine i_sSq ?_ | refine i_sRange1 ?_ | refine i_sRange2 ?_ | refine i_sEnum ?_ | refine i_eIsi ?_ | refine i_eIsi2 ?_ | refine i_eLc ?_ | refine i_eLcM ?_ | refine i_sFor ?_ | refine i_eDisp1 ?_ | refine i_bl ?_ | refine i_int ?_ | refine i_nm ?_ | refine i_one ?_ | refine i_two ?_ | refine i_rng ?_ | refine i_len0 ?_ | refine i_int1 ?_ | refine i_intb ?_ | refine i_abs ?_ | refine i_add ?_ | refine i_sub ?_ | refine i_lt ?_ | refine i_le ?_ | refine i_gt ?_ | refine i_ge ?_ | refine i_eqi ?_ | refine i_is ?_ | refine i_isn ?_ | refine i_nes ?_ | refine i_rbl ?_ | refine i_eCallX ?_ | refine i_eCallKwX ?_ | refine i_sRaiseF ?_ | refine i_eIsX ?_ | refine i_eFld ?_ | refine i_eDit1 ?_ | refine i_sTry ?_ | refine i_runX ?_) | ((with_reducible refine i_eVarX ?_); refine ⟨_, rfl, ?_⟩) | ((with_reducible refine i_len1 ?_ ?_); · exact Nat.le_of_ble_eq_true rfl))
  refine ⟨(near4 p).map sqD, rfl, lc_ty (enc := sqD) (l := near4 p) (p := fun a => !decide (p ∈ near4 a)) (g := sqD) rfl (by decide : 4 ≤ sizeLine) (fun a ha => ⟨_, by unfold bindT; rfl, fun Q' q' => ?_, fun _ Q' q' => ?_⟩) ?_⟩
  · repeat (first | (with_reducible first | refine i_sIf ?_ | refine i_sNil ?_ | refine i_sRet ?_ | refine i_sAsg ?_ | refine i_sDrop ?_ | refine i_sPut ?_ | refine i_sPar ?_ | refine i_eC ?_ | refine i_eOp ?_ | refine i_eChain ?_ | refine i_eB ?_ | refine i_eUn ?_ | refine i_eTup ?_ | refine i_eLst ?_ | refine i_eLstM ?_ | refine i_eAnd ?_ | refine i_eOr ?_ | refine i_eNot ?_ | refine i_eIf ?_ | refine i_bOf ?_ | refine i_bAnd ?_ | refine i_bOr ?_ | refine i_bNot ?_ | refine i_bYes ?_ | refine i_aNil ?_ | refine i_aCons ?_ | refine i_eCall ?_ | refine i_eCallKw ?_ | refine i_eCut ?_ | refine i_oNone ?_ | refine i_oSome ?_ | refine i_eM ?_ | refine i_sSq ?_ | refine i_sRange1 ?_ | refine i_sRange2 ?_ | refine i_sEnum ?_ | refine i_eIsi ?_ | refine i_eIsi2 ?_ | refine i_eLc ?_ | refine i_eLcM ?_ | refine i_sFor ?_ | refine i_eDisp1 ?_ | refine i_bl ?_ | refine i_int ?_ | refine i_nm ?_ | refine i_one ?_ | refine i_two ?_ | refine i_rng ?_ | refine i_len0 ?_ | refine i_int1 ?_ | refine i_intb ?_ | refine i_abs ?_ | refine i_add ?_ | refine i_sub ?_ | refine i_lt ?_ | refine i_le ?_ | refine i_gt ?_ | refine i_ge ?_ | refine i_eqi ?_ | refine i_is ?_ | refine i_isn ?_ | refine i_nes ?_ | refine i_rbl ?_ | refine i_eCallX ?_ | refine i_eCallKwX ?_ | refine i_sRaiseF ?_ | refine i_eIsX ?_ | refine i_eFld ?_ | refine i_eDit1 ?_ | refine i_sTry ?_ | refine i_runX ?_) | ((with_reducible refine i_eVarX ?_); refine ⟨_, rfl, ?_⟩) | ((with_reducible refine i_len1 ?_ ?_); · exact Nat.le_of_ble_eq_true rfl))
    refine ⟨sqD a, rfl, flat_D a, ⟨fun h => (nomatch h), fun _ => ?_⟩⟩
    repeat (first | (with_reducible first | refine i_sIf ?_ | refine i_sNil ?_ | refine i_sRet ?_ | refine i_sAsg ?_ | refine i_sDrop ?_ | refine i_sPut ?_ | refine i_sPar ?_ | refine i_eC ?_ | refine i_eOp ?_ | refine i_eChain ?_ | refine i_eB ?_ | refine i_eUn ?_ | refine i_eTup ?_ | refine i_eLst ?_ | refine i_eLstM ?_ | refine i_eAnd ?_ | refine i_eOr ?_ | refine i_eNot ?_ | refine i_eIf ?_ | refine i_bOf ?_ | refine i_bAnd ?_ | refine i_bOr ?_ | refine i_bNot ?_ | refine i_bYes ?_ | refine i_aNil ?_ | refine i_aCons ?_ | refine i_eCall ?_ | refine i_eCallKw ?_ | refine i_eCut ?_ | refine i_oNone ?_ | refine i_oSome ?_ | refine i_eM ?_ | refine i_sSq ?_ | refine i_sRange1 ?_ | refine i_sRange2 ?_ | refine i_sEnum ?_ | refine i_eIsi ?_ | refine i_eIsi2 ?_ | refine i_eLc ?_ | refine i_eLcM ?_ | refine i_sFor ?_ | refine i_eDisp1 ?_ | refine i_bl ?_ | refine i_int ?_ | refine i_nm ?_ | refine i_one ?_ | refine i_two ?_ | refine i_rng ?_ | refine i_len0 ?_ | refine i_int1 ?_ | refine i_intb ?_ | refine i_abs ?_ | refine i_add ?_ | refine i_sub ?_ | refine i_lt ?_ | refine i_le ?_ | refine i_gt ?_ | refine i_ge ?_ | refine i_eqi ?_ | refine i_is ?_ | refine i_isn ?_ | refine i_nes ?_ | refine i_rbl ?_ | refine i_eCallX ?_ | refine i_eCallKwX ?_ | refine i_sRaiseF ?_ | refine i_eIsX ?_ | refine i_eFld ?_ | refine i_eDit1 ?_ | refine i_sTry ?_ | refine i_runX ?_) | ((with_reducible refine i_eVarX ?_); refine ⟨_, rfl, ?_⟩) | ((with_reducible refine i_len1 ?_ ?_); · exact Nat.le_of_ble_eq_true rfl))
    exact ni_sq (p := p) (ps := near4 a) rfl ⟨_, rfl, q'⟩
  · repeat (first | (with_reducible first | refine i_sIf ?_ | refine i_sNil ?_ | refine i_sRet ?_ | refine i_sAsg ?_ | refine i_sDrop ?_ | refine i_sPut ?_ | refine i_sPar ?_ | refine i_eC ?_ | refine i_eOp ?_ | refine i_eChain ?_ | refine i_eB ?_ | refine i_eUn ?_ | refine i_eTup ?_ | refine i_eLst ?_ | refine i_eLstM ?_ | refine i_eAnd ?_ | refine i_eOr ?_ | refine i_eNot ?_ | refine i_eIf ?_ | refine i_bOf ?_ | refine i_bAnd ?_ | refine i_bOr ?_ | refine i_bNot ?_ | refine i_bYes ?_ | refine i_aNil ?_ | refine i_aCons ?_ | refine i_eCall ?_ | refine i_eCallKw ?_ | refine i_eCut ?_ | refine i_oNone ?_ | refine i_oSome ?_ | refine i_eM ?_ | refine i_sSq ?_ | refine i_sRange1 ?_ | refine i_sRange2 ?_ | refine i_sEnum ?_ | refine i_eIsi ?_ | refine i_eIsi2 ?_ | refine i_eLc ?_ | refine i_eLcM ?_ | refine i_sFor ?_ | refine i_eDisp1 ?_ | refine i_bl ?_ | refine i_int ?_ | refine i_nm ?_ | refine i_one ?_ | refine i_two ?_ | refine i_rng ?_ | refine i_len0 ?_ | refine i_int1 ?_ | refine i_intb ?_ | refine i_abs ?_ | refine i_add ?_ | refine i_sub ?_ | refine i_lt ?_ | refine i_le ?_ | refine i_gt ?_ | refine i_ge ?_ | refine i_eqi ?_ | refine i_is ?_ | refine i_isn ?_ | refine i_nes ?_ | refine i_rbl ?_ | refine i_eCallX ?_ | refine i_eCallKwX ?_ | refine i_sRaiseF ?_ | refine i_eIsX ?_ | refine i_eFld ?_ | refine i_eDit1 ?_ | refine i_sTry ?_ | refine i_runX ?_) | ((with_reducible refine i_eVarX ?_); refine ⟨_, rfl, ?_⟩) | ((with_reducible refine i_len1 ?_ ?_); · exact Nat.le_of_ble_eq_true rfl))
    exact q'
  have e0 : (near4 p).filter (fun a => !decide (p ∈ near4 a)) = [] := List.filter_eq_nil_iff.mpr fun a ha => by
    have : p ∈ near4 a := by
      simp only [near4, List.mem_cons, List.not_mem_nil, or_false, Prod.ext_iff] at ha ⊢
      omega
    rw [decide_eq_true this]
    decide
  rw [e0]
  repeat (first | (with_reducible first | refine i_sIf ?_ | refine i_sNil ?_ | refine i_sRet ?_ | refine i_sAsg ?_ | refine i_sDrop ?_ | refine i_sPut ?_ | refine i_sPar ?_ | refine i_eC ?_ | refine i_eOp ?_ | refine i_eChain ?_ | refine i_eB ?_ | refine i_eUn ?_ | refine i_eTup ?_ | refine i_eLst ?_ | refine i_eLstM ?_ | refine i_eAnd ?_ | refine i_eOr ?_ | refine i_eNot ?_ | refine i_eIf ?_ | refine i_bOf ?_ | refine i_bAnd ?_ | refine i_bOr ?_ | refine i_bNot ?_ | refine i_bYes ?_ | refine i_aNil ?_ | refine i_aCons ?_ | refine i_eCall ?_ | refine i_eCallKw ?_ | refine i_eCut ?_ | refine i_oNone ?_ | refine i_oSome ?_ | refine i_eM ?_ | refine i_sSq ?_ | refine i_sRange1 ?_ | refine i_sRange2 ?_ | refine i_sEnum ?_ | refine i_eIsi ?_ | refine i_eIsi2 ?_ | refine i_eLc ?_ | refine i_eLcM ?_ | refine i_sFor ?_ | refine i_eDisp1 ?_ | refine i_bl ?_ | refine i_int ?_ | refine i_nm ?_ | refine i_one ?_ | refine i_two ?_ | refine i_rng ?_ | refine i_len0 ?_ | refine i_int1 ?_ | refine i_intb ?_ | refine i_abs ?_ | refine i_add ?_ | refine i_sub ?_ | refine i_lt ?_ | refine i_le ?_ | refine i_gt ?_ | refine i_ge ?_ | refine i_eqi ?_ | refine i_is ?_ | refine i_isn ?_ | refine i_nes ?_ | refine i_rbl ?_ | refine i_eCallX ?_ | refine i_eCallKwX ?_ | refine i_sRaiseF ?_ | refine i_eIsX ?_ | refine i_eFld ?_ | refine i_eDit1 ?_ | refine i_sTry ?_ | refine i_runX ?_) | ((with_reducible refine i_eVarX ?_); refine ⟨_, rfl, ?_⟩) | ((with_reducible refine i_len1 ?_ ?_); · exact Nat.le_of_ble_eq_true rfl))
  refine ne_dat rfl rfl ?_
  repeat (first | (with_reducible first | refine i_sIf ?_ | refine i_sNil ?_ | refine i_sRet ?_ | refine i_sAsg ?_ | refine i_sDrop ?_ | refine i_sPut ?_ | refine i_sPar ?_ | refine i_eC ?_ | refine i_eOp ?_ | refine i_eChain ?_ | refine i_eB ?_ | refine i_eUn ?_ | refine i_eTup ?_ | refine i_eLst ?_ | refine i_eLstM ?_ | refine i_eAnd ?_ | refine i_eOr ?_ | refine i_eNot ?_ | refine i_eIf ?_ | refine i_bOf ?_ | refine i_bAnd ?_ | refine i_bOr ?_ | refine i_bNot ?_ | refine i_bYes ?_ | refine i_aNil ?_ | refine i_aCons ?_ | refine i_eCall ?_ | refine i_eCallKw ?_ | refine i_eCut ?_ | refine i_oNone ?_ | refine i_oSome ?_ | refine i_eM ?_ | refine i_sSq ?_ | refine i_sRange1 ?_ | refine i_sRange2 ?_ | refine i_sEnum ?_ | refine i_eIsi ?_ | refine i_eIsi2 ?_ | refine i_eLc ?_ | refine i_eLcM ?_ | refine i_sFor ?_ | refine i_eDisp1 ?_ | refine i_bl ?_ | refine i_int ?_ | refine i_nm ?_ | refine i_one ?_ | refine i_two ?_ | refine i_rng ?_ | refine i_len0 ?_ | refine i_int1 ?_ | refine i_intb ?_ | refine i_abs ?_ | refine i_add ?_ | refine i_sub ?_ | refine i_lt ?_ | refine i_le ?_ | refine i_gt ?_ | refine i_ge ?_ | refine i_eqi ?_ | refine i_is ?_ | refine i_isn ?_ | refine i_nes ?_ | refine i_rbl ?_ | refine i_eCallX ?_ | refine i_eCallKwX ?_ | refine i_sRaiseF ?_ | refine i_eIsX ?_ | refine i_eFld ?_ | refine i_eDit1 ?_ | refine i_sTry ?_ | refine i_runX ?_) | ((with_reducible refine i_eVarX ?_); refine ⟨_, rfl, ?_⟩) | ((with_reducible refine i_len1 ?_ ?_); · exact Nat.le_of_ble_eq_true rfl))
  refine iteF ?_
  repeat (first | (with_reducible first | refine i_sIf ?_ | refine i_sNil ?_ | refine i_sRet ?_ | refine i_sAsg ?_ | refine i_sDrop ?_ | refine i_sPut ?_ | refine i_sPar ?_ | refine i_eC ?_ | refine i_eOp ?_ | refine i_eChain ?_ | refine i_eB ?_ | refine i_eUn ?_ | refine i_eTup ?_ | refine i_eLst ?_ | refine i_eLstM ?_ | refine i_eAnd ?_ | refine i_eOr ?_ | refine i_eNot ?_ | refine i_eIf ?_ | refine i_bOf ?_ | refine i_bAnd ?_ | refine i_bOr ?_ | refine i_bNot ?_ | refine i_bYes ?_ | refine i_aNil ?_ | refine i_aCons ?_ | refine i_eCall ?_ | refine i_eCallKw ?_ | refine i_eCut ?_ | refine i_oNone ?_ | refine i_oSome ?_ | refine i_eM ?_ | refine i_sSq ?_ | refine i_sRange1 ?_ | refine i_sRange2 ?_ | refine i_sEnum ?_ | refine i_eIsi ?_ | refine i_eIsi2 ?_ | refine i_eLc ?_ | refine i_eLcM ?_ | refine i_sFor ?_ | refine i_eDisp1 ?_ | refine i_bl ?_ | refine i_int ?_ | refine i_nm ?_ | refine i_one ?_ | refine i_two ?_ | refine i_rng ?_ | refine i_len0 ?_ | refine i_int1 ?_ | refine i_intb ?_ | refine i_abs ?_ | refine i_add ?_ | refine i_sub ?_ | refine i_lt ?_ | refine i_le ?_ | refine i_gt ?_ | refine i_ge ?_ | refine i_eqi ?_ | refine i_is ?_ | refine i_isn ?_ | refine i_nes ?_ | refine i_rbl ?_ | refine i_eCallX ?_ | refine i_eCallKwX ?_ | refine i_sRaiseF ?_ | refine i_eIsX ?_ | refine i_eFld ?_ | refine i_eDit1 ?_ | refine i_sTry ?_ | refine i_runX ?_) | ((with_reducible refine i_eVarX ?_); refine ⟨_, rfl, ?_⟩) | ((with_reducible refine i_len1 ?_ ?_); · exact Nat.le_of_ble_eq_true rfl))
  refine heard_of kf fun so E' Q' hE hQ => ?_
  repeat (first | (with_reducible first | refine i_sIf ?_ | refine i_sNil ?_ | refine i_sRet ?_ | refine i_sAsg ?_ | refine i_sDrop ?_ | refine i_sPut ?_ | refine i_sPar ?_ | refine i_eC ?_ | refine i_eOp ?_ | refine i_eChain ?_ | refine i_eB ?_ | refine i_eUn ?_ | refine i_eTup ?_ | refine i_eLst ?_ | refine i_eLstM ?_ | refine i_eAnd ?_ | refine i_eOr ?_ | refine i_eNot ?_ | refine i_eIf ?_ | refine i_bOf ?_ | refine i_bAnd ?_ | refine i_bOr ?_ | refine i_bNot ?_ | refine i_bYes ?_ | refine i_aNil ?_ | refine i_aCons ?_ | refine i_eCall ?_ | refine i_eCallKw ?_ | refine i_eCut ?_ | refine i_oNone ?_ | refine i_oSome ?_ | refine i_eM ?_ | refine i_sSq ?_ | refine i_sRange1 ?_ | refine i_sRange2 ?_ | refine i_sEnum ?_ | refine i_eIsi ?_ | refine i_eIsi2 ?_ | refine i_eLc ?_ | refine i_eLcM ?_ | refine i_sFor ?_ | refine i_eDisp1 ?_ | refine i_bl ?_ | refine i_int ?_ | refine i_nm ?_ | refine i_one ?_ | refine i_two ?_ | refine i_rng ?_ | refine i_len0 ?_ | refine i_int1 ?_ | refine i_intb ?_ | refine i_abs ?_ | refine i_add ?_ | refine i_sub ?_ | refine i_lt ?_ | refine i_le ?_ | refine i_gt ?_ | refine i_ge ?_ | refine i_eqi ?_ | refine i_is ?_ | refine i_isn ?_ | refine i_nes ?_ | refine i_rbl ?_ | refine i_eCallX ?_ | refine i_eCallKwX ?_ | refine i_sRaiseF ?_ | refine i_eIsX ?_ | refine i_eFld ?_ | refine i_eDit1 ?_ | refine i_sTry ?_ | refine i_runX ?_) | ((with_reducible refine i_eVarX ?_); refine ⟨_, rfl, ?_⟩) | ((with_reducible refine i_len1 ?_ ?_); · exact Nat.le_of_ble_eq_true rfl))
  refine ⟨_, o, T' ++ [some so], rfl, rfl, u, by omega, fun o1 w' u1 hw' => ?_⟩
  repeat (first | (with_reducible first | refine i_sIf ?_ | refine i_sNil ?_ | refine i_sRet ?_ | refine i_sAsg ?_ | refine i_sDrop ?_ | refine i_sPut ?_ | refine i_sPar ?_ | refine i_eC ?_ | refine i_eOp ?_ | refine i_eChain ?_ | refine i_eB ?_ | refine i_eUn ?_ | refine i_eTup ?_ | refine i_eLst ?_ | refine i_eLstM ?_ | refine i_eAnd ?_ | refine i_eOr ?_ | refine i_eNot ?_ | refine i_eIf ?_ | refine i_bOf ?_ | refine i_bAnd ?_ | refine i_bOr ?_ | refine i_bNot ?_ | refine i_bYes ?_ | refine i_aNil ?_ | refine i_aCons ?_ | refine i_eCall ?_ | refine i_eCallKw ?_ | refine i_eCut ?_ | refine i_oNone ?_ | refine i_oSome ?_ | refine i_eM ?_ | refine i_sSq ?_ | refine i_sRange1 ?_ | refine i_sRange2 ?_ | refine i_sEnum ?_ | refine i_eIsi ?_ | refine i_eIsi2 ?_ | refine i_eLc ?_ | refine i_eLcM ?_ | refine i_sFor ?_ | refine i_eDisp1 ?_ | refine i_bl ?_ | refine i_int ?_ | refine i_nm ?_ | refine i_one ?_ | refine i_two ?_ | refine i_rng ?_ | refine i_len0 ?_ | refine i_int1 ?_ | refine i_intb ?_ | refine i_abs ?_ | refine i_add ?_ | refine i_sub ?_ | refine i_lt ?_ | refine i_le ?_ | refine i_gt ?_ | refine i_ge ?_ | refine i_eqi ?_ | refine i_is ?_ | refine i_isn ?_ | refine i_nes ?_ | refine i_rbl ?_ | refine i_eCallX ?_ | refine i_eCallKwX ?_ | refine i_sRaiseF ?_ | refine i_eIsX ?_ | refine i_eFld ?_ | refine i_eDit1 ?_ | refine i_sTry ?_ | refine i_runX ?_) | ((with_reducible refine i_eVarX ?_); refine ⟨_, rfl, ?_⟩) | ((with_reducible refine i_len1 ?_ ?_); · exact Nat.le_of_ble_eq_true rfl))
  obtain ⟨wf, wn⟩ := odd_flat hw'
  refine ⟨w', rfl, wf, ⟨fun _ => hE "square" _ "square" _ (.inl ⟨rfl, rfl⟩) fun so => ?_, fun h => by rw [wn] at h; cases h⟩⟩
  repeat (first | (with_reducible first | refine i_sIf ?_ | refine i_sNil ?_ | refine i_sRet ?_ | refine i_sAsg ?_ | refine i_sDrop ?_ | refine i_sPut ?_ | refine i_sPar ?_ | refine i_eC ?_ | refine i_eOp ?_ | refine i_eChain ?_ | refine i_eB ?_ | refine i_eUn ?_ | refine i_eTup ?_ | refine i_eLst ?_ | refine i_eLstM ?_ | refine i_eAnd ?_ | refine i_eOr ?_ | refine i_eNot ?_ | refine i_eIf ?_ | refine i_bOf ?_ | refine i_bAnd ?_ | refine i_bOr ?_ | refine i_bNot ?_ | refine i_bYes ?_ | refine i_aNil ?_ | refine i_aCons ?_ | refine i_eCall ?_ | refine i_eCallKw ?_ | refine i_eCut ?_ | refine i_oNone ?_ | refine i_oSome ?_ | refine i_eM ?_ | refine i_sSq ?_ | refine i_sRange1 ?_ | refine i_sRange2 ?_ | refine i_sEnum ?_ | refine i_eIsi ?_ | refine i_eIsi2 ?_ | refine i_eLc ?_ | refine i_eLcM ?_ | refine i_sFor ?_ | refine i_eDisp1 ?_ | refine i_bl ?_ | refine i_int ?_ | refine i_nm ?_ | refine i_one ?_ | refine i_two ?_ | refine i_rng ?_ | refine i_len0 ?_ | refine i_int1 ?_ | refine i_intb ?_ | refine i_abs ?_ | refine i_add ?_ | refine i_sub ?_ | refine i_lt ?_ | refine i_le ?_ | refine i_gt ?_ | refine i_ge ?_ | refine i_eqi ?_ | refine i_is ?_ | refine i_isn ?_ | refine i_nes ?_ | refine i_rbl ?_ | refine i_eCallX ?_ | refine i_eCallKwX ?_ | refine i_sRaiseF ?_ | refine i_eIsX ?_ | refine i_eFld ?_ | refine i_eDit1 ?_ | refine i_sTry ?_ | refine i_runX ?_) | ((with_reducible refine i_eVarX ?_); refine ⟨_, rfl, ?_⟩) | ((with_reducible refine i_len1 ?_ ?_); · exact Nat.le_of_ble_eq_true rfl))
  refine ne_ss (by decide +kernel) (by decide +kernel) ?_
  repeat (first | (with_reducible first | refine i_sIf ?_ | refine i_sNil ?_ | refine i_sRet ?_ | refine i_sAsg ?_ | refine i_sDrop ?_ | refine i_sPut ?_ | refine i_sPar ?_ | refine i_eC ?_ | refine i_eOp ?_ | refine i_eChain ?_ | refine i_eB ?_ | refine i_eUn ?_ | refine i_eTup ?_ | refine i_eLst ?_ | refine i_eLstM ?_ | refine i_eAnd ?_ | refine i_eOr ?_ | refine i_eNot ?_ | refine i_eIf ?_ | refine i_bOf ?_ | refine i_bAnd ?_ | refine i_bOr ?_ | refine i_bNot ?_ | refine i_bYes ?_ | refine i_aNil ?_ | refine i_aCons ?_ | refine i_eCall ?_ | refine i_eCallKw ?_ | refine i_eCut ?_ | refine i_oNone ?_ | refine i_oSome ?_ | refine i_eM ?_ | refine i_sSq ?_ | refine i_sRange1 ?_ | refine i_sRange2 ?_ | refine i_sEnum ?_ | refine i_eIsi ?_ | refine i_eIsi2 ?_ | refine i_eLc ?_ | refine i_eLcM ?_ | refine i_sFor ?_ | refine i_eDisp1 ?_ | refine i_bl ?_ | refine i_int ?_ | refine i_nm ?_ | refine i_one ?_ | refine i_two ?_ | refine i_rng ?_ | refine i_len0 ?_ | refine i_int1 ?_ | refine i_intb ?_ | refine i_abs ?_ | refine i_add ?_ | refine i_sub ?_ | refine i_lt ?_ | refine i_le ?_ | refine i_gt ?_ | refine i_ge ?_ | refine i_eqi ?_ | refine i_is ?_ | refine i_isn ?_ | refine i_nes ?_ | refine i_rbl ?_ | refine i_eCallX ?_ | refine i_eCallKwX ?_ | refine i_sRaiseF ?_ | refine i_eIsX ?_ | refine i_eFld ?_ | refine i_eDit1 ?_ | refine i_sTry ?_ | refine i_runX ?_) | ((with_reducible refine i_eVarX ?_); refine ⟨_, rfl, ?_⟩) | ((with_reducible refine i_len1 ?_ ?_); · exact Nat.le_of_ble_eq_true rfl))
  refine iteF ?_
  repeat (first | (with_reducible first | refine i_sIf ?_ | refine i_sNil ?_ | refine i_sRet ?_ | refine i_sAsg ?_ | refine i_sDrop ?_ | refine i_sPut ?_ | refine i_sPar ?_ | refine i_eC ?_ | refine i_eOp ?_ | refine i_eChain ?_ | refine i_eB ?_ | refine i_eUn ?_ | refine i_eTup ?_ | refine i_eLst ?_ | refine i_eLstM ?_ | refine i_eAnd ?_ | refine i_eOr ?_ | refine i_eNot ?_ | refine i_eIf ?_ | refine i_bOf ?_ | refine i_bAnd ?_ | refine i_bOr ?_ | refine i_bNot ?_ | refine i_bYes ?_ | refine i_aNil ?_ | refine i_aCons ?_ | refine i_eCall ?_ | refine i_eCallKw ?_ | refine i_eCut ?_ | refine i_oNone ?_ | refine i_oSome ?_ | refine i_eM ?_ | refine i_sSq ?_ | refine i_sRange1 ?_ | refine i_sRange2 ?_ | refine i_sEnum ?_ | refine i_eIsi ?_ | refine i_eIsi2 ?_ | refine i_eLc ?_ | refine i_eLcM ?_ | refine i_sFor ?_ | refine i_eDisp1 ?_ | refine i_bl ?_ | refine i_int ?_ | refine i_nm ?_ | refine i_one ?_ | refine i_two ?_ | refine i_rng ?_ | refine i_len0 ?_ | refine i_int1 ?_ | refine i_intb ?_ | refine i_abs ?_ | refine i_add ?_ | refine i_sub ?_ | refine i_lt ?_ | refine i_le ?_ | refine i_gt ?_ | refine i_ge ?_ | refine i_eqi ?_ | refine i_is ?_ | refine i_isn ?_ | refine i_nes ?_ | refine i_rbl ?_ | refine i_eCallX ?_ | refine i_eCallKwX ?_ | refine i_sRaiseF ?_ | refine i_eIsX ?_ | refine i_eFld ?_ | refine i_eDit1 ?_ | refine i_sTry ?_ | refine i_runX ?_) | ((with_reducible refine i_eVarX ?_); refine ⟨_, rfl, ?_⟩) | ((with_reducible refine i_len1 ?_ ?_); · exact Nat.le_of_ble_eq_true rfl))
  exact ⟨o1, _, _, _, _, _, _, _, _, _, _, _, _, _, _, _, _, u1.mono (by omega), rfl, rfl⟩
theorem law_true : TrueAt r_law 63 := fun ns h => ⟨ns, rfl, rfl, h, fun _ => rfl⟩

section
variable {P : Program} {w : World} {K : PySem.W.Frag} {mg : Str → Option Value} {base : Heap} {T : List (Addr × Str)}
def top (i : Nat) : Stmt := PySem.Challenge.pw_nevercaught_k03_squares_and_neighbours.main.body.getD i (.Pass ⟨0, 0, 0, 0⟩)
abbrev s_law_tub : Stmt := top 14
abbrev n_law_tub : List Str := ["script", "cell"]
theorem sc_law_tub : FnScope n_law_tub ["script"] (defScope s_law_tub) := ⟨rfl, rfl, rfl, by decide +kernel, rfl, by decide +kernel, by decide +kernel⟩
theorem ok_law_tub {f : Addr} {fd : FuncData} (F : Fun K "_law_tub" "_law_tub" s_law_tub f fd) (z_int : mg "int" = none) : FnG P w K mg base CX0 1 f fd ["script"] (lsp K T r_law_tub) := by
  refine def_ok (tb := b_law_tub) F sc_law_tub len_law_tub (fun cdv A outer s H E room hgd => ?_) run_law_tub
  have nd := sc_law_tub.nd
  have hu := Room.units room
  have hu5 := Room.u65 room
  exact (ds_one (ds_ret (de_lstM (da_cons (de_lcOf (pe_lc (own := [("cell", 1)]) (wi := tI _ (Gh.mk [] T) (sSq (eCut (eVar 0) oNone (oSome (eC (.int 63)))))) (g := toG _ (.nm 1)) (tt := tT _ (Gh.mk [] T) bYes) (te := tE _ (Gh.mk [] T) (eB rInt1 (aCons (eVar 1) aNil))) rfl nd (di_seq (de_cut (de_var 0 (pv 0)) do_none (do_some de_int))) (blkOk_by (N := n_law_tub) (sc := defScope s_law_tub) (by decide +kernel)) (fun _ _ _ _ _ => (dg_nm (i := 1) nd rfl (by first | exact .inl rfl | exact .inr rfl) (by first | exact .inl rfl | exact .inr rfl))) (fun _ _ _ _ _ => dts_nil) (fun _ _ _ _ _ => (de_Ty c_int z_int bt_int (da_cons (de_var 1 (pv 1)) da_nil)))) (by decide)) (da_cons de_int (da_cons de_int da_nil))))))

abbrev s_is_integer : Stmt := top 5
abbrev n_is_integer : List Str := ["value"]
theorem sc_is_integer : FnScope n_is_integer ["value"] (defScope s_is_integer) := ⟨rfl, rfl, rfl, by decide +kernel, rfl, by decide +kernel, by decide +kernel⟩
theorem ok_is_integer {f : Addr} {fd : FuncData} (F : Fun K "is_integer" "is_integer" s_is_integer f fd) (z_isinstance : mg "isinstance" = none) (z_bool : mg "bool" = none) (z_int : mg "int" = none) : FnG P w K mg base CX0 1 f fd ["value"] (lsp K T r_is_integer) := by
  refine def_ok (tb := b_is_integer) F sc_is_integer len_is_integer (fun cdv A outer s H E room hgd => ?_) run_is_integer
  have nd := sc_is_integer.nd
  have hu := Room.units room
  have hu5 := Room.u65 room
  exact (ds_one (ds_ret (de_and (de_isi (T := "int") (pe_callB call_isi (by rfl) z_isinstance bt_isinstance (pa_cons (de_var 0 (pv 0)) (pa_cons (pe_T z_int bt_int) pa_nil)))) (de_one (de_not (de_isi (T := "bool") (pe_callB call_isi (by rfl) z_isinstance bt_isinstance (pa_cons (de_var 0 (pv 0)) (pa_cons (pe_T z_bool bt_bool) pa_nil)))))))))

abbrev s_is_square : Stmt := top 6
abbrev n_is_square : List Str := ["value", "number"]
theorem sc_is_square : FnScope n_is_square ["value"] (defScope s_is_square) := ⟨rfl, rfl, rfl, by decide +kernel, rfl, by decide +kernel, by decide +kernel⟩
theorem ok_is_square {f : Addr} {fd : FuncData} (F : Fun K "is_square" "is_square" s_is_square f fd)
    {f_is_integer : Addr} {d_is_integer : FuncData} (F_is_integer : FnG P w K mg base CX0 1 f_is_integer d_is_integer ["value"] (lsp K T r_is_integer)) (m_is_integer : mg "is_integer" = some (.ref f_is_integer)) (k_is_integer : PySem.W.keepIn K (.ref f_is_integer) = true) (q_is_integer : Binds K d_is_integer ["value"] []) (z_all : mg "all" = none) (z_len : mg "len" = none) (z_isinstance : mg "isinstance" = none) (z_list : mg "list" = none) (z_tuple : mg "tuple" = none) : FnG P w K mg base CX0 2 f fd ["value"] (lsp K T r_is_square) := by
  refine def_ok (tb := b_is_square) F sc_is_square len_is_square (fun cdv A outer s H E room hgd => ?_) run_is_square
  have nd := sc_is_square.nd
  have hu := Room.units room
  have hu5 := Room.u65 room
  exact (ds_one (ds_ret (de_and (de_isi2 (T1 := "list") (T2 := "tuple") (pe_callB call_isiT (by rfl) z_isinstance bt_isinstance (pa_cons (de_var 0 (pv 0)) (pa_cons (pe_tup (pa_cons (pe_T z_list bt_list) (pa_cons (pe_T z_tuple bt_tuple) pa_nil))) pa_nil)))) (de_and (de_cmp (op_eq3 hu) (de_B c_len z_len PySem.boot_len (da_cons (de_var 0 (pv 0)) da_nil)) de_int (nomark _)) (de_one (de_B (c_all rfl) z_all bt_all (da_cons (de_lcOf (pe_lc (own := [("number", 1)]) (wi := tI _ (Gh.mk [] T) (sSq (eVar 0))) (g := toG _ (.nm 1)) (tt := tT _ (Gh.mk [] T) bYes) (te := tE _ (Gh.mk [] T) (eCall r_is_integer (aCons (eVar 1) aNil))) rfl nd (di_seq (de_var 0 (pv 0))) (blkOk_by (N := n_is_square) (sc := defScope s_is_square) (by decide +kernel)) (fun _ _ _ _ _ => (dg_nm (i := 1) nd rfl (by first | exact .inl rfl | exact .inr rfl) (by first | exact .inl rfl | exact .inr rfl))) (fun _ _ _ _ _ => dts_nil) (fun _ _ _ _ _ => (de_call F_is_integer (room.mono (by decide)) hgd (by rfl) m_is_integer k_is_integer q_is_integer (da_cons (de_var 1 (pv 1)) da_nil)))) (by decide)) da_nil)))))))

abbrev s_are_squares : Stmt := top 7
abbrev n_are_squares : List Str := ["value", "each"]
theorem sc_are_squares : FnScope n_are_squares ["value"] (defScope s_are_squares) := ⟨rfl, rfl, rfl, by decide +kernel, rfl, by decide +kernel, by decide +kernel⟩
theorem ok_are_squares {f : Addr} {fd : FuncData} (F : Fun K "are_squares" "are_squares" s_are_squares f fd)
    {f_is_square : Addr} {d_is_square : FuncData} (F_is_square : FnG P w K mg base CX0 2 f_is_square d_is_square ["value"] (lsp K T r_is_square)) (m_is_square : mg "is_square" = some (.ref f_is_square)) (k_is_square : PySem.W.keepIn K (.ref f_is_square) = true) (q_is_square : Binds K d_is_square ["value"] []) (z_all : mg "all" = none) (z_isinstance : mg "isinstance" = none) (z_list : mg "list" = none) (z_tuple : mg "tuple" = none) (z_len : mg "len" = none) (z_set : mg "set" = none) : FnG P w K mg base CX0 3 f fd ["value"] (lsp K T r_are_squares) := by
  refine def_ok (tb := b_are_squares) F sc_are_squares len_are_squares (fun cdv A outer s H E room hgd => ?_) run_are_squares
  have nd := sc_are_squares.nd
  have hu := Room.units room
  have hu5 := Room.u65 room
  exact (ds_cons (ds_if (dt_w (dw_or (dt_not (dt_val (de_isi2 (T1 := "list") (T2 := "tuple") (pe_callB call_isiT (by rfl) z_isinstance bt_isinstance (pa_cons (de_var 0 (pv 0)) (pa_cons (pe_tup (pa_cons (pe_T z_list bt_list) (pa_cons (pe_T z_tuple bt_tuple) pa_nil))) pa_nil)))))) (dw_or1 (dt_not (dt_val (de_B (c_all rfl) z_all bt_all (da_cons (de_lcOf (pe_lc (own := [("each", 1)]) (wi := tI _ (Gh.mk [] T) (sSq (eVar 0))) (g := toG _ (.nm 1)) (tt := tT _ (Gh.mk [] T) bYes) (te := tE _ (Gh.mk [] T) (eCall r_is_square (aCons (eVar 1) aNil))) rfl nd (di_seq (de_var 0 (pv 0))) (blkOk_by (N := n_are_squares) (sc := defScope s_are_squares) (by decide +kernel)) (fun _ _ _ _ _ => (dg_nm (i := 1) nd rfl (by first | exact .inl rfl | exact .inr rfl) (by first | exact .inl rfl | exact .inr rfl))) (fun _ _ _ _ _ => dts_nil) (fun _ _ _ _ _ => (de_call F_is_square (room.mono (by decide)) hgd (by rfl) m_is_square k_is_square q_is_square (da_cons (de_var 1 (pv 1)) da_nil)))) (by decide)) da_nil)))))))
    (ds_one (ds_ret de_bl))
    ds_nil)
    (ds_one (ds_ret (de_cmp (op_eq3 hu) (de_lenSet (pe_callB c_lenSet (by rfl) z_len PySem.boot_len (pa_cons (pe_callTy (cr_setOfT rfl hu) (by rfl) z_set bt_set (pa_cons (de_lcOf (pe_lc (own := [("each", 1)]) (wi := tI _ (Gh.mk [] T) (sSq (eVar 0))) (g := toG _ (.nm 1)) (tt := tT _ (Gh.mk [] T) bYes) (te := tE _ (Gh.mk [] T) (eB rTuple (aCons (eVar 1) aNil))) rfl nd (di_seq (de_var 0 (pv 0))) (blkOk_by (N := n_are_squares) (sc := defScope s_are_squares) (by decide +kernel)) (fun _ _ _ _ _ => (dg_nm (i := 1) nd rfl (by first | exact .inl rfl | exact .inr rfl) (by first | exact .inl rfl | exact .inr rfl))) (fun _ _ _ _ _ => dts_nil) (fun _ _ _ _ _ => (de_Ty c_tuple z_tuple bt_tuple (da_cons (de_var 1 (pv 1)) da_nil)))) (by decide)) pa_nil)) pa_nil))) (de_B c_len z_len PySem.boot_len (da_cons (de_var 0 (pv 0)) da_nil)) (nomark _)))))

abbrev s_need_squares : Stmt := top 9
abbrev n_need_squares : List Str := ["value", "part", "each"]
theorem sc_need_squares : FnScope n_need_squares ["value", "part"] (defScope s_need_squares) := ⟨rfl, rfl, rfl, by decide +kernel, rfl, by decide +kernel, by decide +kernel⟩
theorem ok_need_squares {f : Addr} {fd : FuncData} (F : Fun K "need_squares" "need_squares" s_need_squares f fd) {cs : Cs} (kf : KF K cs) (E_BadSquares : ErrOk P w K mg base "BadSquares" cs.BadSquares true ["part"])
    {f_are_squares : Addr} {d_are_squares : FuncData} (F_are_squares : FnG P w K mg base CX0 3 f_are_squares d_are_squares ["value"] (lsp K T r_are_squares)) (m_are_squares : mg "are_squares" = some (.ref f_are_squares)) (k_are_squares : PySem.W.keepIn K (.ref f_are_squares) = true) (q_are_squares : Binds K d_are_squares ["value"] []) (z_tuple : mg "tuple" = none) (z_sorted : mg "sorted" = none) : FnG P w K mg base (L2.CX P w) 4 f fd ["value", "part"] (lspx K T (r_need_squares cs)) := by
  refine def_okx (tb := b_need_squares K cs) F sc_need_squares (len_need_squares cs) (fun cdv A outer s H E w0 ED room hgd tk => ?_) run_need_squares
  have nd := sc_need_squares.nd
  have hu := Room.units room
  have hu5 := Room.u65 room
  exact (ds_cons (ds_if (dt_not (dt_val (de_call F_are_squares (room.mono (by decide)) hgd (by rfl) m_are_squares k_are_squares q_are_squares (da_cons (de_var 0 (pv 0)) da_nil))))
    (ds_one (ds_raiseF rfl tk E_BadSquares (by decide) (room.mono (by decide)) (by rfl) (da_cons (de_var 1 (pv 1)) da_nil)))
    ds_nil)
    (ds_one (ds_ret (de_Ty c_tuple z_tuple bt_tuple (da_cons (de_B c_sortP z_sorted bt_sorted (da_cons (de_lcOf (pe_lc (own := [("each", 2)]) (wi := tI _ (Gh.mk [w0] T) (sSq (eVar 0))) (g := toG _ (.nm 2)) (tt := tT _ (Gh.mk [w0] T) bYes) (te := tE _ (Gh.mk [w0] T) (eB rTuple (aCons (eVar 2) aNil))) rfl nd (di_seq (de_var 0 (pv 0))) (blkOk_by (N := n_need_squares) (sc := defScope s_need_squares) (by decide +kernel)) (fun _ _ _ _ _ => (dg_nm (i := 2) nd rfl (by first | exact .inl rfl | exact .inr rfl) (by first | exact .inl rfl | exact .inr rfl))) (fun _ _ _ _ _ => dts_nil) (fun _ _ _ _ _ => (de_Ty c_tuple z_tuple bt_tuple (da_cons (de_var 2 (pv 2)) da_nil)))) (by decide)) da_nil)) da_nil)))))

abbrev s_squares_of : Stmt := top 11
abbrev n_squares_of : List Str := ["values"]
theorem sc_squares_of : FnScope n_squares_of ["values"] (defScope s_squares_of) := ⟨rfl, rfl, rfl, by decide +kernel, rfl, by decide +kernel, by decide +kernel⟩
theorem ok_squares_of {f : Addr} {fd : FuncData} (F : Fun K "squares_of" "squares_of" s_squares_of f fd) {cs : Cs} (kf : KF K cs)
    {f_need_squares : Addr} {d_need_squares : FuncData} (F_need_squares : FnG P w K mg base (L2.CX P w) 4 f_need_squares d_need_squares ["value", "part"] (lspx K T (r_need_squares cs))) (m_need_squares : mg "need_squares" = some (.ref f_need_squares)) (k_need_squares : PySem.W.keepIn K (.ref f_need_squares) = true) (q_need_squares : Binds K d_need_squares ["value", "part"] []) : FnG P w K mg base (L2.CX P w) 5 f fd ["values"] (lspx K T (r_squares_of cs)) := by
  refine def_okx (tb := b_squares_of K cs) F sc_squares_of (len_squares_of cs) (fun cdv A outer s H E w0 ED room hgd tk => ?_) (run_squares_of kf)
  have nd := sc_squares_of.nd
  have hu := Room.units room
  have hu5 := Room.u65 room
  exact (ds_one (ds_ret (de_callX tk F_need_squares (room.mono (by decide)) hgd m_need_squares k_need_squares q_need_squares (da_cons (de_var 0 (pv 0)) (da_cons de_str da_nil)))))

abbrev s_law_dip : Stmt := top 15
abbrev n_law_dip : List Str := ["jar", "many", "at", "cell", "mixed", "rest"]
theorem sc_law_dip : FnScope n_law_dip ["jar", "many"] (defScope s_law_dip) := ⟨rfl, rfl, rfl, by decide +kernel, rfl, by decide +kernel, by decide +kernel⟩
theorem ok_law_dip {f : Addr} {fd : FuncData} (F : Fun K "_law_dip" "_law_dip" s_law_dip f fd) (z_int : mg "int" = none) (z_len : mg "len" = none) (z_abs : mg "abs" = none) : FnG P w K mg base CX0 1 f fd ["jar", "many"] (lsp K T r_law_dip) := by
  refine def_ok (tb := b_law_dip) F sc_law_dip len_law_dip (fun cdv A outer s H E room hgd => ?_) run_law_dip
  have nd := sc_law_dip.nd
  have hu := Room.units room
  have hu5 := Room.u65 room
  exact (ds_cons (ds_if (dt_cmp o_gt (de_ix o_ix (de_var 0 (pv 0)) de_int (fun _ _ => rfl)) de_int (nomark _))
    (ds_cons (ds_set (i := 5) nd rfl (by first | exact .inl rfl | exact .inr rfl) (de_Ty c_int z_int bt_int (da_cons (de_ix o_ix (de_var 0 (pv 0)) de_int (fun _ _ => rfl)) da_nil)))
    (ds_cons (ds_put (ps_asg (de_op o_div (de_var 5 (pv 5)) (de_var 1 (pv 1))) (pg_sub (de_var 0 (pv 0)) de_int set_list)))
    (ds_one (ds_ret (de_op o_mod (de_Ty c_int z_int bt_int (da_cons (de_var 5 (pv 5)) da_nil)) (de_var 1 (pv 1)))))))
    ds_nil)
    (ds_cons (ds_set (i := 2) nd rfl (by first | exact .inl rfl | exact .inr rfl) (de_ix o_ix (de_var 0 (pv 0)) de_int (fun _ _ => rfl)))
    (ds_cons (ds_put (ps_asg (de_op o_add (de_var 2 (pv 2)) de_int) (pg_sub (de_var 0 (pv 0)) de_int set_list)))
    (ds_cons (ds_set (i := 3) nd rfl (by first | exact .inl rfl | exact .inr rfl) (de_op o_add (de_op o_mul de_int (de_var 2 (pv 2))) de_int))
    (ds_cons (ds_if (dt_cmp (op_ne3 hu) (de_ix o_ix (de_var 0 (pv 0)) de_int (fun _ _ => rfl)) (de_lst da_nil) (nomark _))
    (ds_one (ds_set (i := 3) nd rfl (by first | exact .inl rfl | exact .inr rfl) (de_ix o_ix (de_ix o_ix (de_var 0 (pv 0)) de_int (fun _ _ => rfl)) (de_op o_mod (de_Ty c_int z_int bt_int (da_cons (de_var 2 (pv 2)) da_nil)) (de_B c_len z_len PySem.boot_len (da_cons (de_ix o_ix (de_var 0 (pv 0)) de_int (fun _ _ => rfl)) da_nil))) (fun _ _ => rfl))))
    ds_nil)
    (ds_cons (ds_if (dt_w (dw_and (dt_cmp o_lt (de_var 2 (pv 2)) (de_B c_len z_len PySem.boot_len (da_cons (de_ix o_ix (de_var 0 (pv 0)) de_int (fun _ _ => rfl)) da_nil)) (nomark _)) (dw_and1 (dt_cmp o_ge (de_B c_abs z_abs bt_abs (da_cons (de_var 3 (pv 3)) da_nil)) (de_op o_pow de_int de_int) (nomark _)))))
    (ds_cons (ds_set (i := 5) nd rfl (by first | exact .inl rfl | exact .inr rfl) (de_op o_add (de_op o_mul de_int (de_op o_sub (de_B c_abs z_abs bt_abs (da_cons (de_var 3 (pv 3)) da_nil)) (de_op o_pow de_int de_int))) (de_Ty c_int z_int bt_int (da_cons (de_cmp o_lt (de_var 3 (pv 3)) de_int (nomark _)) da_nil))))
    (ds_cons (ds_put (ps_asg (de_op o_div (de_Ty c_int z_int bt_int (da_cons (de_var 5 (pv 5)) da_nil)) (de_var 1 (pv 1))) (pg_sub (de_var 0 (pv 0)) de_int set_list)))
    (ds_one (ds_ret (de_op o_mod (de_Ty c_int z_int bt_int (da_cons (de_var 5 (pv 5)) da_nil)) (de_var 1 (pv 1)))))))
    ds_nil)
    (ds_cons (ds_set (i := 4) nd rfl (by first | exact .inl rfl | exact .inr rfl) (de_op o_mod (de_Ty c_int z_int bt_int (da_cons (de_op o_pow (de_op o_add (de_op o_add (de_op o_mod (de_Ty c_int z_int bt_int (da_cons (de_var 3 (pv 3)) da_nil)) de_int) (de_op o_mul de_int (de_var 2 (pv 2)))) de_int) de_int) da_nil)) de_int))
    (ds_cons (ds_set (i := 4) nd rfl (by first | exact .inl rfl | exact .inr rfl) (de_op o_mod (de_Ty c_int z_int bt_int (da_cons (de_op o_pow (de_op o_add (de_op o_add (de_op o_mul (de_var 4 (pv 4)) (de_op o_add (de_op o_mul de_int (de_var 2 (pv 2))) de_int)) (de_op o_mul (de_op o_mul de_int (de_var 2 (pv 2))) (de_var 2 (pv 2)))) de_int) de_int) da_nil)) de_int))
    (ds_one (ds_ret (de_op o_mod (de_Ty c_int z_int bt_int (da_cons (de_op o_div (de_var 4 (pv 4)) de_int) da_nil)) (de_var 1 (pv 1)))))))))))))

abbrev s_law_square : Stmt := top 16
abbrev n_law_square : List Str := ["tub", "size"]
theorem sc_law_square : FnScope n_law_square ["tub"] (defScope s_law_square) := ⟨rfl, rfl, rfl, by decide +kernel, rfl, by decide +kernel, by decide +kernel⟩
theorem ok_law_square {f : Addr} {fd : FuncData} (F : Fun K "_law_square" "_law_square" s_law_square f fd)
    {f_law_dip : Addr} {d_law_dip : FuncData} (F_law_dip : FnG P w K mg base CX0 1 f_law_dip d_law_dip ["jar", "many"] (lsp K T r_law_dip)) (m_law_dip : mg "_law_dip" = some (.ref f_law_dip)) (k_law_dip : PySem.W.keepIn K (.ref f_law_dip) = true) (q_law_dip : Binds K d_law_dip ["jar", "many"] []) : FnG P w K mg base CX0 2 f fd ["tub"] (lsp K T r_law_square) := by
  refine def_ok (tb := b_law_square) F sc_law_square len_law_square (fun cdv A outer s H E room hgd => ?_) run_law_square
  have nd := sc_law_square.nd
  have hu := Room.units room
  have hu5 := Room.u65 room
  exact (ds_cons (ds_set (i := 1) nd rfl (by first | exact .inl rfl | exact .inr rfl) (de_ix o_ix (de_lst (da_cons de_int (da_cons de_int (da_cons (de_op o_pow de_int de_int) da_nil)))) (de_call F_law_dip (room.mono (by decide)) hgd (by rfl) m_law_dip k_law_dip q_law_dip (da_cons (de_var 0 (pv 0)) (da_cons de_int da_nil))) (fun _ _ => rfl)))
    (ds_one (ds_ret (de_tup (da_cons (de_op o_sub (de_call F_law_dip (room.mono (by decide)) hgd (by rfl) m_law_dip k_law_dip q_law_dip (da_cons (de_var 0 (pv 0)) (da_cons (de_op o_add (de_op o_mul de_int (de_var 1 (pv 1))) de_int) da_nil))) (de_var 1 (pv 1))) (da_cons (de_op o_sub (de_call F_law_dip (room.mono (by decide)) hgd (by rfl) m_law_dip k_law_dip q_law_dip (da_cons (de_var 0 (pv 0)) (da_cons (de_op o_add (de_op o_mul de_int (de_var 1 (pv 1))) de_int) da_nil))) (de_var 1 (pv 1))) da_nil))))))

abbrev s_law_ordered : Stmt := top 18
abbrev n_law_ordered : List Str := ["some", "found", "square", "at", "other"]
theorem sc_law_ordered : FnScope n_law_ordered ["some"] (defScope s_law_ordered) := ⟨rfl, rfl, rfl, by decide +kernel, rfl, by decide +kernel, by decide +kernel⟩
theorem ok_law_ordered {f : Addr} {fd : FuncData} (F : Fun K "_law_ordered" "_law_ordered" s_law_ordered f fd) (z_len : mg "len" = none) : FnG P w K mg base CX0 1 f fd ["some"] (lsp K T r_law_ordered) := by
  refine def_ok (tb := b_law_ordered) F sc_law_ordered len_law_ordered (fun cdv A outer s H E room hgd => ?_) run_law_ordered
  have nd := sc_law_ordered.nd
  have hu := Room.units room
  have hu5 := Room.u65 room
  exact (ds_cons (ds_set (i := 1) nd rfl (by first | exact .inl rfl | exact .inr rfl) (de_lstM da_nil))
    (ds_cons (ds_for PassesOwn.never rfl (di_seq (de_var 0 (pv 0))) (dg_nm (i := 2) nd rfl (by first | exact .inl rfl | exact .inr rfl) (by first | exact .inl rfl | exact .inr rfl))
    (ds_cons (ds_set (i := 3) nd rfl (by first | exact .inl rfl | exact .inr rfl) (de_B c_len z_len PySem.boot_len (da_cons (de_lcOf (pe_lc (own := [("other", 4)]) (wi := tI _ (Gh.mk [] T) (sSq (eVar 1))) (g := toG _ (.nm 4)) (tt := tT _ (Gh.mk [] T) (bOr (bOf (eOp rLt (eOp rIx2 (eVar 4) (eC (.int 0))) (eOp rIx2 (eVar 2) (eC (.int 0))))) (bAnd (bOf (eOp rEq3 (eOp rIx2 (eVar 4) (eC (.int 0))) (eOp rIx2 (eVar 2) (eC (.int 0))))) (bOf (eOp rLt (eOp rIx2 (eVar 4) (eC (.int 1))) (eOp rIx2 (eVar 2) (eC (.int 1)))))))) (te := tE _ (Gh.mk [] T) (eVar 4)) rfl nd (di_seq (de_var 1 (pv 1))) (blkOk_by (N := n_law_ordered) (sc := defScope s_law_ordered) (by decide +kernel)) (fun _ _ _ _ _ => (dg_nm (i := 4) nd rfl (by first | exact .inl rfl | exact .inr rfl) (by first | exact .inl rfl | exact .inr rfl))) (fun _ _ _ _ _ => (dts_one (dt_w (dw_or (dt_cmp o_lt (de_ix o_ix (de_var 4 (pv 4)) de_int (fun _ _ => rfl)) (de_ix o_ix (de_var 2 (pv 2)) de_int (fun _ _ => rfl)) (nomark _)) (dw_or1 (dt_w (dw_and (dt_cmp (op_eq3 hu) (de_ix o_ix (de_var 4 (pv 4)) de_int (fun _ _ => rfl)) (de_ix o_ix (de_var 2 (pv 2)) de_int (fun _ _ => rfl)) (nomark _)) (dw_and1 (dt_cmp o_lt (de_ix o_ix (de_var 4 (pv 4)) de_int (fun _ _ => rfl)) (de_ix o_ix (de_var 2 (pv 2)) de_int (fun _ _ => rfl)) (nomark _)))))))))) (fun _ _ _ _ _ => (de_var 4 (pv 4)))) (by decide)) da_nil)))
    (ds_one (ds_expr (de_mOf (pe_bm PySem.F.plainAttrs_list PySem.F.slot_list_insert PySem.F.type_list_insert m_ins (de_var 1 (pv 1)) (da_cons (de_var 3 (pv 3)) (da_cons (de_var 2 (pv 2)) da_nil))))))))
    (ds_one (ds_ret (de_var 1 (pv 1))))))

abbrev s_law_heard : Stmt := top 19
abbrev n_law_heard : List Str := ["ask", "caught", "error"]
theorem sc_law_heard : FnScope n_law_heard ["ask"] (defScope s_law_heard) := ⟨rfl, rfl, rfl, by decide +kernel, rfl, by decide +kernel, by decide +kernel⟩
theorem ok_law_heard {f : Addr} {cs : Cs} (kf : KF K cs) (m_FlightError : mg "FlightError" = some (.ref cs.FlightError)) (m_BadSquare : mg "BadSquare" = some (.ref cs.BadSquare)) (m_BadSquares : mg "BadSquares" = some (.ref cs.BadSquares)) (z_isinstance : mg "isinstance" = none) (k : Nat) : HearOk P w K mg base T k f "_law_heard" n_law_heard s_law_heard "ask" (b_law_heard K cs) := by
  intro cdv A outer s H L κ tl room hgd ask
  have nd := sc_law_heard.nd
  have hu := Room.units room
  have hu5 := Room.u65 room
  exact (ds_cons (ds_set (i := 1) nd rfl (by first | exact .inl rfl | exact .inr rfl) de_non)
    (ds_cons (ds_try (G := (Gh.mk L T)) (EDo := NoX) rfl rfl rfl nd (takes_of rfl rfl rfl rfl) out_no (fun w0 ED pn xe tk po => (ds_one (ds_expr (ask w0 ED pn xe _ _ tk))))
    (.consAs (names_C m_FlightError) (i := 2) rfl rfl (fun a pn => (ds_one (ds_set (i := 1) nd rfl (by first | exact .inl rfl | exact .inr rfl) (de_var 2 (pv 2))))) .nil))
    (ds_cons (ds_if (dt_val (de_isx (pe_callB call_isx (by rfl) z_isinstance bt_isinstance (pa_cons (de_var 1 (pv 1)) (pa_cons (pe_C m_BadSquare) pa_nil)))))
    (ds_one (ds_ret (de_tup (da_cons de_str (da_cons (de_fld (de_var 1 (pv 1))) da_nil)))))
    ds_nil)
    (ds_cons (ds_if (dt_val (de_isx (pe_callB call_isx (by rfl) z_isinstance bt_isinstance (pa_cons (de_var 1 (pv 1)) (pa_cons (pe_C m_BadSquares) pa_nil)))))
    (ds_one (ds_ret (de_tup (da_cons de_str (da_cons (de_fld (de_var 1 (pv 1))) da_nil)))))
    ds_nil)
    (ds_one (ds_ret (de_if (dt_cmp o_is (de_var 1 (pv 1)) de_non (nomark _)) de_non (de_tup (da_cons de_str (da_cons de_non da_nil))))))))))

abbrev s_next_to : Stmt := top 10
abbrev n_next_to : List Str := ["square", "x", "y"]
theorem sc_next_to : FnScope n_next_to ["square"] (defScope s_next_to) := ⟨rfl, rfl, rfl, by decide +kernel, rfl, by decide +kernel, by decide +kernel⟩
theorem ok_next_to {f : Addr} {fd : FuncData} (F : Fun K "next_to" "next_to" s_next_to f fd) : FnG P w K mg base CX0 1 f fd ["square"] (lsp K T r_next_to) := by
  refine def_ok (tb := b_next_to) F sc_next_to len_next_to (fun cdv A outer s H E room hgd => ?_) run_next_to
  have nd := sc_next_to.nd
  have hu := Room.units room
  have hu5 := Room.u65 room
  exact (ds_cons (ds_asg (ps_asg (de_var 0 (pv 0)) (dg_tp rfl (dgs_cons (dg_nm (i := 1) nd rfl (by first | exact .inl rfl | exact .inr rfl) (by first | exact .inl rfl | exact .inr rfl)) (dgs_cons (dg_nm (i := 2) nd rfl (by first | exact .inl rfl | exact .inr rfl) (by first | exact .inl rfl | exact .inr rfl)) dgs_nil)))))
    (ds_one (ds_ret (de_tup (da_cons (de_tup (da_cons (de_op o_add (de_var 1 (pv 1)) de_int) (da_cons (de_var 2 (pv 2)) da_nil))) (da_cons (de_tup (da_cons (de_op o_sub (de_var 1 (pv 1)) de_int) (da_cons (de_var 2 (pv 2)) da_nil))) (da_cons (de_tup (da_cons (de_var 1 (pv 1)) (da_cons (de_op o_add (de_var 2 (pv 2)) de_int) da_nil))) (da_cons (de_tup (da_cons (de_var 1 (pv 1)) (da_cons (de_op o_sub (de_var 2 (pv 2)) de_int) da_nil))) da_nil))))))))

abbrev s_need_square : Stmt := top 8
abbrev n_need_square : List Str := ["value", "part"]
theorem sc_need_square : FnScope n_need_square ["value", "part"] (defScope s_need_square) := ⟨rfl, rfl, rfl, by decide +kernel, rfl, by decide +kernel, by decide +kernel⟩
theorem ok_need_square {f : Addr} {fd : FuncData} (F : Fun K "need_square" "need_square" s_need_square f fd) {cs : Cs} (kf : KF K cs) (E_BadSquare : ErrOk P w K mg base "BadSquare" cs.BadSquare true ["part"])
    {f_is_square : Addr} {d_is_square : FuncData} (F_is_square : FnG P w K mg base CX0 2 f_is_square d_is_square ["value"] (lsp K T r_is_square)) (m_is_square : mg "is_square" = some (.ref f_is_square)) (k_is_square : PySem.W.keepIn K (.ref f_is_square) = true) (q_is_square : Binds K d_is_square ["value"] []) (z_tuple : mg "tuple" = none) : FnG P w K mg base (L2.CX P w) 3 f fd ["value", "part"] (lspx K T (r_need_square cs)) := by
  refine def_okx (tb := b_need_square K cs) F sc_need_square (len_need_square cs) (fun cdv A outer s H E w0 ED room hgd tk => ?_) run_need_square
  have nd := sc_need_square.nd
  have hu := Room.units room
  have hu5 := Room.u65 room
  exact (ds_cons (ds_if (dt_not (dt_val (de_call F_is_square (room.mono (by decide)) hgd (by rfl) m_is_square k_is_square q_is_square (da_cons (de_var 0 (pv 0)) da_nil))))
    (ds_one (ds_raiseF rfl tk E_BadSquare (by decide) (room.mono (by decide)) (by rfl) (da_cons (de_var 1 (pv 1)) da_nil)))
    ds_nil)
    (ds_one (ds_ret (de_Ty c_tuple z_tuple bt_tuple (da_cons (de_var 0 (pv 0)) da_nil)))))

abbrev s_around : Stmt := top 12
abbrev n_around : List Str := ["square"]
theorem sc_around : FnScope n_around ["square"] (defScope s_around) := ⟨rfl, rfl, rfl, by decide +kernel, rfl, by decide +kernel, by decide +kernel⟩
theorem ok_around {f : Addr} {fd : FuncData} (F : Fun K "around" "around" s_around f fd) {cs : Cs} (kf : KF K cs)
    {f_next_to : Addr} {d_next_to : FuncData} (F_next_to : FnG P w K mg base CX0 1 f_next_to d_next_to ["square"] (lsp K T r_next_to)) (m_next_to : mg "next_to" = some (.ref f_next_to)) (k_next_to : PySem.W.keepIn K (.ref f_next_to) = true) (q_next_to : Binds K d_next_to ["square"] [])
    {f_need_square : Addr} {d_need_square : FuncData} (F_need_square : FnG P w K mg base (L2.CX P w) 3 f_need_square d_need_square ["value", "part"] (lspx K T (r_need_square cs))) (m_need_square : mg "need_square" = some (.ref f_need_square)) (k_need_square : PySem.W.keepIn K (.ref f_need_square) = true) (q_need_square : Binds K d_need_square ["value", "part"] []) : FnG P w K mg base (L2.CX P w) 4 f fd ["square"] (lspx K T (r_around cs)) := by
  refine def_okx (tb := b_around K cs) F sc_around (len_around cs) (fun cdv A outer s H E w0 ED room hgd tk => ?_) (run_around kf)
  have nd := sc_around.nd
  have hu := Room.units room
  have hu5 := Room.u65 room
  exact (ds_one (ds_ret (de_call F_next_to (room.mono (by decide)) hgd (by rfl) m_next_to k_next_to q_next_to (da_cons (de_callX tk F_need_square (room.mono (by decide)) hgd m_need_square k_need_square q_need_square (da_cons (de_var 0 (pv 0)) (da_cons de_str da_nil))) da_nil))))

abbrev s_law_odd : Stmt := top 17
abbrev n_law_odd : List Str := ["tub"]
theorem sc_law_odd : FnScope n_law_odd ["tub"] (defScope s_law_odd) := ⟨rfl, rfl, rfl, by decide +kernel, rfl, by decide +kernel, by decide +kernel⟩
theorem ok_law_odd {f : Addr} {fd : FuncData} (F : Fun K "_law_odd" "_law_odd" s_law_odd f fd)
    {f_law_dip : Addr} {d_law_dip : FuncData} (F_law_dip : FnG P w K mg base CX0 1 f_law_dip d_law_dip ["jar", "many"] (lsp K T r_law_dip)) (m_law_dip : mg "_law_dip" = some (.ref f_law_dip)) (k_law_dip : PySem.W.keepIn K (.ref f_law_dip) = true) (q_law_dip : Binds K d_law_dip ["jar", "many"] []) : FnG P w K mg base CX0 2 f fd ["tub"] (lsp K T r_law_odd) := by
  refine def_ok (tb := b_law_odd) F sc_law_odd len_law_odd (fun cdv A outer s H E room hgd => ?_) run_law_odd
  have nd := sc_law_odd.nd
  have hu := Room.units room
  have hu5 := Room.u65 room
  exact (ds_one (ds_ret (de_ix o_ix (de_lst (da_cons de_non (da_cons de_bl (da_cons de_int (da_cons de_str (da_cons (de_lst da_nil) (da_cons (de_tup (da_cons de_int da_nil)) (da_cons (de_tup (da_cons de_int (da_cons de_int (da_cons de_int da_nil)))) (da_cons (de_lst (da_cons de_int (da_cons de_non da_nil))) (da_cons (de_tup (da_cons de_int (da_cons de_bl da_nil))) (da_cons de_dnew (da_cons (de_lst (da_cons (de_lst (da_cons de_int (da_cons de_int da_nil))) da_nil)) da_nil)))))))))))) (de_call F_law_dip (room.mono (by decide)) hgd (by rfl) m_law_dip k_law_dip q_law_dip (da_cons (de_var 0 (pv 0)) (da_cons de_int da_nil))) (fun _ _ => rfl))))

abbrev s_law : Stmt := top 20
abbrev n_law : List Str := ["script", "tub", "turn", "some", "spot", "passed", "kept", "due", "told", "at", "bent", "value", "x", "y", "square", "each"]
theorem sc_law : FnScope n_law ["script"] (defScope s_law) := ⟨rfl, rfl, rfl, by decide +kernel, rfl, by decide +kernel, by decide +kernel⟩
theorem ok_law {f : Addr} {fd : FuncData} (F : Fun K "law" "law" s_law f fd) {cs : Cs} (kf : KF K cs)
    {f_law_tub : Addr} {d_law_tub : FuncData} (F_law_tub : FnG P w K mg base CX0 1 f_law_tub d_law_tub ["script"] (lsp K T r_law_tub)) (m_law_tub : mg "_law_tub" = some (.ref f_law_tub)) (k_law_tub : PySem.W.keepIn K (.ref f_law_tub) = true) (q_law_tub : Binds K d_law_tub ["script"] [])
    {f_law_dip : Addr} {d_law_dip : FuncData} (F_law_dip : FnG P w K mg base CX0 1 f_law_dip d_law_dip ["jar", "many"] (lsp K T r_law_dip)) (m_law_dip : mg "_law_dip" = some (.ref f_law_dip)) (k_law_dip : PySem.W.keepIn K (.ref f_law_dip) = true) (q_law_dip : Binds K d_law_dip ["jar", "many"] [])
    {f_law_square : Addr} {d_law_square : FuncData} (F_law_square : FnG P w K mg base CX0 2 f_law_square d_law_square ["tub"] (lsp K T r_law_square)) (m_law_square : mg "_law_square" = some (.ref f_law_square)) (k_law_square : PySem.W.keepIn K (.ref f_law_square) = true) (q_law_square : Binds K d_law_square ["tub"] [])
    {f_law_ordered : Addr} {d_law_ordered : FuncData} (F_law_ordered : FnG P w K mg base CX0 1 f_law_ordered d_law_ordered ["some"] (lsp K T r_law_ordered)) (m_law_ordered : mg "_law_ordered" = some (.ref f_law_ordered)) (k_law_ordered : PySem.W.keepIn K (.ref f_law_ordered) = true) (q_law_ordered : Binds K d_law_ordered ["some"] [])
    {f_squares_of : Addr} {d_squares_of : FuncData} (F_squares_of : FnG P w K mg base (L2.CX P w) 5 f_squares_of d_squares_of ["values"] (lspx K T (r_squares_of cs))) (m_squares_of : mg "squares_of" = some (.ref f_squares_of)) (k_squares_of : PySem.W.keepIn K (.ref f_squares_of) = true) (q_squares_of : Binds K d_squares_of ["values"] [])
    {f_law_odd : Addr} {d_law_odd : FuncData} (F_law_odd : FnG P w K mg base CX0 2 f_law_odd d_law_odd ["tub"] (lsp K T r_law_odd)) (m_law_odd : mg "_law_odd" = some (.ref f_law_odd)) (k_law_odd : PySem.W.keepIn K (.ref f_law_odd) = true) (q_law_odd : Binds K d_law_odd ["tub"] [])
    {f_around : Addr} {d_around : FuncData} (F_around : FnG P w K mg base (L2.CX P w) 4 f_around d_around ["square"] (lspx K T (r_around cs))) (m_around : mg "around" = some (.ref f_around)) (k_around : PySem.W.keepIn K (.ref f_around) = true) (q_around : Binds K d_around ["square"] [])
    {f_law_heard : Addr} {d_law_heard : FuncData} (T_law_heard : Fun K "_law_heard" "_law_heard" s_law_heard f_law_heard d_law_heard) (h_law_heard : ∀ k, HearOk P w K mg base T k f_law_heard "_law_heard" n_law_heard s_law_heard "ask" (b_law_heard K cs)) (m_law_heard : mg "_law_heard" = some (.ref f_law_heard)) (k_law_heard : PySem.W.keepIn K (.ref f_law_heard) = true) (q_law_heard : Binds K d_law_heard ["ask"] [])
    {c_law P_law : Addr} (B_law : LamX.TabB base mg c_law P_law) (inT_law : (P_law, ((("law" : Str) ++ ".<locals>.") ++ "<lambda>")) ∈ T) (one_law : ∀ p ∈ T, p.1 = P_law → p.2 = ((("law" : Str) ++ ".<locals>.") ++ "<lambda>")) (hc_law : fd.code = .ref c_law)
    (kw_squares_of_0_values : KwB K d_squares_of ["values"] 0 ["values"] [0])
    (kw_around_0_square : KwB K d_around ["square"] 0 ["square"] [0]) (z_range : mg "range" = none) (z_list : mg "list" = none) (z_tuple : mg "tuple" = none) (z_repr : mg "repr" = none) (z_len : mg "len" = none) : FnG P w K mg base CX0 8 f fd ["script"] (lsp K T r_law) := by
  refine def_okm (tb := b_law K cs) F hc_law sc_law len_law (fun A outer s H E room hgd => ?_) (run_law kf)
  have nd := sc_law.nd
  have hu := Room.units room
  have hu5 := Room.u65 room
  exact (ds_cons (ds_set (i := 1) nd rfl (by first | exact .inl rfl | exact .inr rfl) (de_call F_law_tub (room.mono (by decide)) hgd (by rfl) m_law_tub k_law_tub q_law_tub (da_cons (de_var 0 (pv 0)) da_nil)))
    (ds_cons (ds_for PassesOwn.never rfl (di_range1 (by rfl) z_range (da_cons de_int da_nil)) (dg_nm (i := 2) nd rfl (by first | exact .inl rfl | exact .inr rfl) (by first | exact .inl rfl | exact .inr rfl))
    (ds_cons (ds_set (i := 3) nd rfl (by first | exact .inl rfl | exact .inr rfl) (de_lstM da_nil))
    (ds_cons (ds_for PassesOwn.never rfl (di_range1 (by rfl) z_range (da_cons (de_call F_law_dip (room.mono (by decide)) hgd (by rfl) m_law_dip k_law_dip q_law_dip (da_cons (de_var 1 (pv 1)) (da_cons de_int da_nil))) da_nil)) (dg_nm (i := 4) nd rfl (by first | exact .inl rfl | exact .inr rfl) (by first | exact .inl rfl | exact .inr rfl))
    (ds_cons (ds_set (i := 14) nd rfl (by first | exact .inl rfl | exact .inr rfl) (de_call F_law_square (room.mono (by decide)) hgd (by rfl) m_law_square k_law_square q_law_square (da_cons (de_var 1 (pv 1)) da_nil)))
    (ds_one (ds_if (dt_cmp (op_ni' hu5) (de_var 14 (pv 14)) (de_var 3 (pv 3)) (by with_unfolding_all rfl))
    (ds_one (ds_expr (de_mOf (pe_bm PySem.F.plainAttrs_list PySem.F.slot_list_append PySem.F.type_list_append m_app (de_var 3 (pv 3)) (da_cons (de_var 14 (pv 14)) da_nil)))))
    ds_nil))))
    (ds_cons (lcS (ps_setLc (i := 5) (own := [("square", 14)]) (wi := tI _ (Gh.mk [] T) (sSq (eVar 3))) (g := toG _ (.nm 14)) (tt := tT _ (Gh.mk [] T) bYes) (te := tE _ (Gh.mk [] T) (eIf (bOf (eOp rEq3 (eCall r_law_dip (aCons (eVar 1) (aCons (eC (.int 2)) aNil))) (eC (.int 0)))) (eB rList (aCons (eVar 14) aNil)) (eVar 14))) rfl nd rfl rfl (sw_true rfl rfl rfl (by decide +kernel)) (di_seq (de_var 3 (pv 3))) (blkOk_by (N := n_law) (sc := defScope s_law) (by decide +kernel)) (fun _ _ _ _ _ => (dg_nm (i := 14) nd rfl (by first | exact .inl rfl | exact .inr rfl) (by first | exact .inl rfl | exact .inr rfl))) (fun _ _ _ _ _ => dts_nil) (fun _ _ _ _ _ => (de_if (dt_cmp (op_eq3 hu) (de_call F_law_dip (room.mono (by decide)) hgd (by rfl) m_law_dip k_law_dip q_law_dip (da_cons (de_var 1 (pv 1)) (da_cons de_int da_nil))) de_int (nomark _)) (de_Ty c_list z_list bt_list (da_cons (de_var 14 (pv 14)) da_nil)) (de_var 14 (pv 14))))) (fun _ _ _ => lc_lift (by decide)))
    (ds_cons (ds_set (i := 5) nd rfl (by first | exact .inl rfl | exact .inr rfl) (de_if (dt_cmp (op_eq3 hu) (de_call F_law_dip (room.mono (by decide)) hgd (by rfl) m_law_dip k_law_dip q_law_dip (da_cons (de_var 1 (pv 1)) (da_cons de_int da_nil))) de_int (nomark _)) (de_Ty c_tuple z_tuple bt_tuple (da_cons (de_var 5 (pv 5)) da_nil)) (de_var 5 (pv 5))))
    (ds_cons (ds_set (i := 6) nd rfl (by first | exact .inl rfl | exact .inr rfl) (de_B (c_repr hgd hu) z_repr bt_repr (da_cons (de_var 5 (pv 5)) da_nil)))
    (ds_cons (ds_set (i := 7) nd rfl (by first | exact .inl rfl | exact .inr rfl) (de_Ty c_tuple z_tuple bt_tuple (da_cons (de_call F_law_ordered (room.mono (by decide)) hgd (by rfl) m_law_ordered k_law_ordered q_law_ordered (da_cons (de_var 3 (pv 3)) da_nil)) da_nil)))
    (ds_cons (ds_set (i := 8) nd rfl (by first | exact .inl rfl | exact .inr rfl) (de_callN F_squares_of (room.mono (by decide)) hgd m_squares_of k_squares_of q_squares_of (da_cons (de_var 5 (pv 5)) da_nil)))
    (ds_cons (ds_if (dt_w (dw_or (dt_cmp (op_ne3 hu) (de_B (c_repr hgd hu) z_repr bt_repr (da_cons (de_var 8 (pv 8)) da_nil)) (de_B (c_repr hgd hu) z_repr bt_repr (da_cons (de_var 7 (pv 7)) da_nil)) (nomark _)) (dw_or (dt_cmp (op_ne3 hu) (de_B (c_repr hgd hu) z_repr bt_repr (da_cons (de_kw0N F_squares_of (room.mono (by decide)) hgd m_squares_of k_squares_of kw_squares_of_0_values (dk_cons (de_rev (de_var 5 (pv 5))) dk_nil) rfl) da_nil)) (de_B (c_repr hgd hu) z_repr bt_repr (da_cons (de_var 7 (pv 7)) da_nil)) (nomark _)) (dw_or1 (dt_cmp (op_ne3 hu) (de_B (c_repr hgd hu) z_repr bt_repr (da_cons (de_var 5 (pv 5)) da_nil)) (de_var 6 (pv 6)) (nomark _))))))
    (ds_one (ds_ret de_bl))
    ds_nil)
    (ds_cons (ds_set (i := 9) nd rfl (by first | exact .inl rfl | exact .inr rfl) (de_call F_law_dip (room.mono (by decide)) hgd (by rfl) m_law_dip k_law_dip q_law_dip (da_cons (de_var 1 (pv 1)) (da_cons (de_op o_add (de_B c_len z_len PySem.boot_len (da_cons (de_var 3 (pv 3)) da_nil)) de_int) da_nil))))
    (ds_cons (ds_set (i := 10) nd rfl (by first | exact .inl rfl | exact .inr rfl) (de_lstM (da_cons (de_op o_add (de_op o_add (de_Ty c_list z_list bt_list (da_cons (de_cut (de_var 5 (pv 5)) do_none (do_some (de_var 9 (pv 9)))) da_nil)) (de_lst (da_cons (de_call F_law_odd (room.mono (by decide)) hgd (by rfl) m_law_odd k_law_odd q_law_odd (da_cons (de_var 1 (pv 1)) da_nil)) da_nil))) (de_Ty c_list z_list bt_list (da_cons (de_cut (de_var 5 (pv 5)) (do_some (de_var 9 (pv 9))) do_none) da_nil))) da_nil)))
    (ds_cons (ds_if (dt_cmp (op_ne3 hu) (de_var 3 (pv 3)) (de_lst da_nil) (nomark _))
    (ds_one (ds_expr (de_mOf (pe_bm PySem.F.plainAttrs_list PySem.F.slot_list_append PySem.F.type_list_append m_app (de_var 10 (pv 10)) (da_cons (de_op o_add (de_op o_add (de_Ty c_list z_list bt_list (da_cons (de_cut (de_var 5 (pv 5)) do_none (do_some (de_var 9 (pv 9)))) da_nil)) (de_lst (da_cons (de_Ty c_list z_list bt_list (da_cons (de_ix o_ix (de_var 3 (pv 3)) (de_call F_law_dip (room.mono (by decide)) hgd (by rfl) m_law_dip k_law_dip q_law_dip (da_cons (de_var 1 (pv 1)) (da_cons (de_B c_len z_len PySem.boot_len (da_cons (de_var 3 (pv 3)) da_nil)) da_nil))) (fun _ _ => rfl)) da_nil)) da_nil))) (de_Ty c_list z_list bt_list (da_cons (de_cut (de_var 5 (pv 5)) (do_some (de_var 9 (pv 9))) do_none) da_nil))) da_nil)))))
    ds_nil)
    (ds_cons (ds_for PassesOwn.never rfl (di_seq (de_op o_add (de_var 10 (pv 10)) (de_lst (da_cons de_non (da_cons de_int (da_cons de_str (da_cons de_dnew (da_cons (de_dit1 hu5 (de_tup (da_cons de_int (da_cons de_int da_nil))) de_bl) (da_cons de_bl da_nil))))))))) (dg_nm (i := 11) nd rfl (by first | exact .inl rfl | exact .inr rfl) (by first | exact .inl rfl | exact .inr rfl))
    (ds_one (ds_if (dt_cmp (op_ne3 hu) (de_hear (k := 5) T_law_heard sc_law_heard q_law_heard m_law_heard k_law_heard (h_law_heard _) B_law rfl inT_law one_law (room.mono (by decide)) hgd (LamX.lamS_by (by kernel_rfl)) rfl (fun _ _ _ _ _ => rfl) rfl (.inl rfl) (fun A outer s H E f c' w0 L ED room hgd tk => by
      have hu := Room.units room
      have hu5 := Room.u65 room
      exact (de_callX tk F_squares_of (room.mono (by decide)) hgd m_squares_of k_squares_of q_squares_of (da_cons (de_var 11 (pv 11)) da_nil)))) (de_tup (da_cons de_str (da_cons de_str da_nil))) (nomark _))
    (ds_one (ds_ret de_bl))
    ds_nil)))
    (ds_cons (ds_asg (ps_asg (de_call F_law_square (room.mono (by decide)) hgd (by rfl) m_law_square k_law_square q_law_square (da_cons (de_var 1 (pv 1)) da_nil)) (dg_tp rfl (dgs_cons (dg_nm (i := 12) nd rfl (by first | exact .inl rfl | exact .inr rfl) (by first | exact .inl rfl | exact .inr rfl)) (dgs_cons (dg_nm (i := 13) nd rfl (by first | exact .inl rfl | exact .inr rfl) (by first | exact .inl rfl | exact .inr rfl)) dgs_nil)))))
    (ds_cons (ds_set (i := 14) nd rfl (by first | exact .inl rfl | exact .inr rfl) (de_if (dt_cmp (op_eq3 hu) (de_call F_law_dip (room.mono (by decide)) hgd (by rfl) m_law_dip k_law_dip q_law_dip (da_cons (de_var 1 (pv 1)) (da_cons de_int da_nil))) de_int (nomark _)) (de_lst (da_cons (de_var 12 (pv 12)) (da_cons (de_var 13 (pv 13)) da_nil))) (de_tup (da_cons (de_var 12 (pv 12)) (da_cons (de_var 13 (pv 13)) da_nil)))))
    (ds_cons (ds_set (i := 7) nd rfl (by first | exact .inl rfl | exact .inr rfl) (de_tup (da_cons (de_tup (da_cons (de_op o_add (de_var 12 (pv 12)) de_int) (da_cons (de_var 13 (pv 13)) da_nil))) (da_cons (de_tup (da_cons (de_op o_sub (de_var 12 (pv 12)) de_int) (da_cons (de_var 13 (pv 13)) da_nil))) (da_cons (de_tup (da_cons (de_var 12 (pv 12)) (da_cons (de_op o_add (de_var 13 (pv 13)) de_int) da_nil))) (da_cons (de_tup (da_cons (de_var 12 (pv 12)) (da_cons (de_op o_sub (de_var 13 (pv 13)) de_int) da_nil))) da_nil))))))
    (ds_cons (ds_if (dt_w (dw_or (dt_cmp (op_ne3 hu) (de_B (c_repr hgd hu) z_repr bt_repr (da_cons (de_callN F_around (room.mono (by decide)) hgd m_around k_around q_around (da_cons (de_var 14 (pv 14)) da_nil)) da_nil)) (de_B (c_repr hgd hu) z_repr bt_repr (da_cons (de_var 7 (pv 7)) da_nil)) (nomark _)) (dw_or1 (dt_cmp (op_ne3 hu) (de_B (c_repr hgd hu) z_repr bt_repr (da_cons (de_kw0N F_around (room.mono (by decide)) hgd m_around k_around kw_around_0_square (dk_cons (de_var 14 (pv 14)) dk_nil) rfl) da_nil)) (de_B (c_repr hgd hu) z_repr bt_repr (da_cons (de_var 7 (pv 7)) da_nil)) (nomark _)))))
    (ds_one (ds_ret de_bl))
    ds_nil)
    (ds_one (ds_if (dt_w (dw_or (dt_cmp (op_ne3 hu) (de_lcOf (pe_lc (own := [("each", 15)]) (wi := tI _ (Gh.mk [] T) (sSq (eVar 7))) (g := toG _ (.nm 15)) (tt := tT _ (Gh.mk [] T) (bOf (eOp rNiD2 (eTup (aCons (eVar 12) (aCons (eVar 13) aNil))) (eCallX (r_around cs) NoX (aCons (eVar 15) aNil))))) (te := tE _ (Gh.mk [] T) (eVar 15)) rfl nd (di_seq (de_var 7 (pv 7))) (blkOk_by (N := n_law) (sc := defScope s_law) (by decide +kernel)) (fun _ _ _ _ _ => (dg_nm (i := 15) nd rfl (by first | exact .inl rfl | exact .inr rfl) (by first | exact .inl rfl | exact .inr rfl))) (fun _ _ _ _ _ => (dts_one (dt_cmp (op_ni' hu5) (de_tup (da_cons (de_var 12 (pv 12)) (da_cons (de_var 13 (pv 13)) da_nil))) (de_callN F_around (room.mono (by decide)) hgd m_around k_around q_around (da_cons (de_var 15 (pv 15)) da_nil)) (by with_unfolding_all rfl)))) (fun _ _ _ _ _ => (de_var 15 (pv 15)))) (by decide)) (de_lst da_nil) (nomark _)) (dw_or1 (dt_cmp (op_ne3 hu) (de_hear (k := 4) T_law_heard sc_law_heard q_law_heard m_law_heard k_law_heard (h_law_heard _) B_law rfl inT_law one_law (room.mono (by decide)) hgd (LamX.lamS_by (by kernel_rfl)) rfl (fun _ _ _ _ _ => rfl) rfl (.inl rfl) (fun A outer s H E f c' w0 L ED room hgd tk => by
      have hu := Room.units room
      have hu5 := Room.u65 room
      exact (de_callX tk F_around (room.mono (by decide)) hgd m_around k_around q_around (da_cons (de_call F_law_odd (room.mono (by decide)) hgd (by rfl) m_law_odd k_law_odd q_law_odd (da_cons (de_var 1 (pv 1)) da_nil)) da_nil)))) (de_tup (da_cons de_str (da_cons de_str da_nil))) (nomark _)))))
    (ds_one (ds_ret de_bl))
    ds_nil)))))))))))))))))))
    (ds_one (ds_ret (de_and (de_cmp (op_eq3 hu) (de_callN F_squares_of (room.mono (by decide)) hgd m_squares_of k_squares_of q_squares_of (da_cons (de_lst da_nil) da_nil)) (de_tup da_nil) (nomark _)) (de_one (de_cmp (op_eq3 hu) (de_callN F_squares_of (room.mono (by decide)) hgd m_squares_of k_squares_of q_squares_of (da_cons (de_tup da_nil) da_nil)) (de_tup da_nil) (nomark _))))))))


end
abbrev s_BadSquares : Stmt := clsItem (top 3) 0
abbrev s_BadSquare : Stmt := clsItem (top 2) 0
theorem all_mk {l : PySem.W.OpenLaw} {w : World} {K : PySem.W.Frag} {h : Heap} {mg : Str → Option Value} {fa : Addr} {Pq Pr : Program} (hPr : l.prog = Pr) (X : K.In h) (G : h.Ns mainGlobals mg) (hfa : mg "law" = some (.ref fa)) {C_BadSquares : Addr} {C_FlightError : Addr} {C_BadSquare : Addr} {fI_BadSquares cda_BadSquares cc_BadSquares : Addr} {od_BadSquares an_BadSquares : Option Addr} {sl_BadSquares : Array (Option Value)} {v1_BadSquares v3_BadSquares v4_BadSquares v5_BadSquares v6_BadSquares : Value} {fI_BadSquare cda_BadSquare cc_BadSquare : Addr} {od_BadSquare an_BadSquare : Option Addr} {sl_BadSquare : Array (Option Value)} {v1_BadSquare v3_BadSquare v4_BadSquare v5_BadSquare v6_BadSquare : Value} {f_law_tub : Addr} {od_law_tub an_law_tub : Option Addr} {sl_law_tub : Array (Option Value)} {v1_law_tub v2_law_tub v3_law_tub v4_law_tub v5_law_tub v6_law_tub : Value} {f_is_integer : Addr} {od_is_integer an_is_integer : Option Addr} {sl_is_integer : Array (Option Value)} {v1_is_integer v2_is_integer v3_is_integer v4_is_integer v5_is_integer v6_is_integer : Value} {f_is_square : Addr} {od_is_square an_is_square : Option Addr} {sl_is_square : Array (Option Value)} {v1_is_square v2_is_square v3_is_square v4_is_square v5_is_square v6_is_square : Value} {f_are_squares : Addr} {od_are_squares an_are_squares : Option Addr} {sl_are_squares : Array (Option Value)} {v1_are_squares v2_are_squares v3_are_squares v4_are_squares v5_are_squares v6_are_squares : Value} {f_need_squares : Addr} {od_need_squares an_need_squares : Option Addr} {sl_need_squares : Array (Option Value)} {v1_need_squares v2_need_squares v3_need_squares v4_need_squares v5_need_squares v6_need_squares : Value} {f_squares_of : Addr} {od_squares_of an_squares_of : Option Addr} {sl_squares_of : Array (Option Value)} {v1_squares_of v2_squares_of v3_squares_of v4_squares_of v5_squares_of v6_squares_of : Value} {f_law_dip : Addr} {od_law_dip an_law_dip : Option Addr} {sl_law_dip : Array (Option Value)} {v1_law_dip v2_law_dip v3_law_dip v4_law_dip v5_law_dip v6_law_dip : Value} {f_law_square : Addr} {od_law_square an_law_square : Option Addr} {sl_law_square : Array (Option Value)} {v1_law_square v2_law_square v3_law_square v4_law_square v5_law_square v6_law_square : Value} {f_law_ordered : Addr} {od_law_ordered an_law_ordered : Option Addr} {sl_law_ordered : Array (Option Value)} {v1_law_ordered v2_law_ordered v3_law_ordered v4_law_ordered v5_law_ordered v6_law_ordered : Value} {f_law_heard : Addr} {od_law_heard an_law_heard : Option Addr} {sl_law_heard : Array (Option Value)} {v1_law_heard v2_law_heard v3_law_heard v4_law_heard v5_law_heard v6_law_heard : Value} {f_next_to : Addr} {od_next_to an_next_to : Option Addr} {sl_next_to : Array (Option Value)} {v1_next_to v2_next_to v3_next_to v4_next_to v5_next_to v6_next_to : Value} {f_need_square : Addr} {od_need_square an_need_square : Option Addr} {sl_need_square : Array (Option Value)} {v1_need_square v2_need_square v3_need_square v4_need_square v5_need_square v6_need_square : Value} {f_around : Addr} {od_around an_around : Option Addr} {sl_around : Array (Option Value)} {v1_around v2_around v3_around v4_around v5_around v6_around : Value} {f_law_odd : Addr} {od_law_odd an_law_odd : Option Addr} {sl_law_odd : Array (Option Value)} {v1_law_odd v2_law_odd v3_law_odd v4_law_odd v5_law_odd v6_law_odd : Value} {f_law : Addr} {od_law an_law : Option Addr} {sl_law : Array (Option Value)} {v1_law v2_law v3_law v4_law v6_law : Value} {c_law P_law : Addr} {w1_law : Value} {w2_law : Option Addr} {w3_law : Array Value} {w4_law : Array (Option Value)}
    (a_BadSquares : PySem.W.nsIn K mainGlobals "BadSquares" = some (some (.ref C_BadSquares)))
    (a_FlightError : PySem.W.nsIn K mainGlobals "FlightError" = some (some (.ref C_FlightError)))
    (a_BadSquare : PySem.W.nsIn K mainGlobals "BadSquare" = some (some (.ref C_BadSquare)))
    (i_BadSquares : PySem.W.findIn K (.ref C_BadSquares) "__init__" = some (some (.ref fI_BadSquares)))
    (l_BadSquares : K.lookup fI_BadSquares = some ⟨v1_BadSquares, od_BadSquares, .func (ini "BadSquares.__init__" s_BadSquares .none v3_BadSquares v4_BadSquares v5_BadSquares an_BadSquares cda_BadSquares v6_BadSquares cc_BadSquares), sl_BadSquares⟩)
    (e_BadSquares : errB K Pr C_BadSquares fI_BadSquares cda_BadSquares cc_BadSquares "BadSquares" "BadSquares.__init__" ["part"] = true)
    (i_BadSquare : PySem.W.findIn K (.ref C_BadSquare) "__init__" = some (some (.ref fI_BadSquare)))
    (l_BadSquare : K.lookup fI_BadSquare = some ⟨v1_BadSquare, od_BadSquare, .func (ini "BadSquare.__init__" s_BadSquare .none v3_BadSquare v4_BadSquare v5_BadSquare an_BadSquare cda_BadSquare v6_BadSquare cc_BadSquare), sl_BadSquare⟩)
    (e_BadSquare : errB K Pr C_BadSquare fI_BadSquare cda_BadSquare cc_BadSquare "BadSquare" "BadSquare.__init__" ["part"] = true)
    (kfB : (kfL K ({ BadSquares := C_BadSquares, FlightError := C_FlightError, BadSquare := C_BadSquare } : Cs)).all id = true)
    (a_law_tub : PySem.W.nsIn K mainGlobals "_law_tub" = some (some (.ref f_law_tub)))
    (l_law_tub : K.lookup f_law_tub = some ⟨v1_law_tub, od_law_tub, .func (PySem.W.fnOf "_law_tub" "_law_tub" (defArgs s_law_tub) (defBody s_law_tub) (defScope s_law_tub) .none v2_law_tub v3_law_tub v4_law_tub an_law_tub v5_law_tub v6_law_tub), sl_law_tub⟩)
    (cd_law_tub : PySem.W.codeIn K v5_law_tub "_law_tub" = true)
    (k_law_tub : PySem.W.keepIn K (.ref f_law_tub) = true)
    (a_is_integer : PySem.W.nsIn K mainGlobals "is_integer" = some (some (.ref f_is_integer)))
    (l_is_integer : K.lookup f_is_integer = some ⟨v1_is_integer, od_is_integer, .func (PySem.W.fnOf "is_integer" "is_integer" (defArgs s_is_integer) (defBody s_is_integer) (defScope s_is_integer) .none v2_is_integer v3_is_integer v4_is_integer an_is_integer v5_is_integer v6_is_integer), sl_is_integer⟩)
    (cd_is_integer : PySem.W.codeIn K v5_is_integer "is_integer" = true)
    (k_is_integer : PySem.W.keepIn K (.ref f_is_integer) = true)
    (a_is_square : PySem.W.nsIn K mainGlobals "is_square" = some (some (.ref f_is_square)))
    (l_is_square : K.lookup f_is_square = some ⟨v1_is_square, od_is_square, .func (PySem.W.fnOf "is_square" "is_square" (defArgs s_is_square) (defBody s_is_square) (defScope s_is_square) .none v2_is_square v3_is_square v4_is_square an_is_square v5_is_square v6_is_square), sl_is_square⟩)
    (cd_is_square : PySem.W.codeIn K v5_is_square "is_square" = true)
    (k_is_square : PySem.W.keepIn K (.ref f_is_square) = true)
    (a_are_squares : PySem.W.nsIn K mainGlobals "are_squares" = some (some (.ref f_are_squares)))
    (l_are_squares : K.lookup f_are_squares = some ⟨v1_are_squares, od_are_squares, .func (PySem.W.fnOf "are_squares" "are_squares" (defArgs s_are_squares) (defBody s_are_squares) (defScope s_are_squares) .none v2_are_squares v3_are_squares v4_are_squares an_are_squares v5_are_squares v6_are_squares), sl_are_squares⟩)
    (cd_are_squares : PySem.W.codeIn K v5_are_squares "are_squares" = true)
    (k_are_squares : PySem.W.keepIn K (.ref f_are_squares) = true)
    (a_need_squares : PySem.W.nsIn K mainGlobals "need_squares" = some (some (.ref f_need_squares)))
    (l_need_squares : K.lookup f_need_squares = some ⟨v1_need_squares, od_need_squares, .func (PySem.W.fnOf "need_squares" "need_squares" (defArgs s_need_squares) (defBody s_need_squares) (defScope s_need_squares) .none v2_need_squares v3_need_squares v4_need_squares an_need_squares v5_need_squares v6_need_squares), sl_need_squares⟩)
    (cd_need_squares : PySem.W.codeIn K v5_need_squares "need_squares" = true)
    (k_need_squares : PySem.W.keepIn K (.ref f_need_squares) = true)
    (a_squares_of : PySem.W.nsIn K mainGlobals "squares_of" = some (some (.ref f_squares_of)))
    (l_squares_of : K.lookup f_squares_of = some ⟨v1_squares_of, od_squares_of, .func (PySem.W.fnOf "squares_of" "squares_of" (defArgs s_squares_of) (defBody s_squares_of) (defScope s_squares_of) .none v2_squares_of v3_squares_of v4_squares_of an_squares_of v5_squares_of v6_squares_of), sl_squares_of⟩)
    (cd_squares_of : PySem.W.codeIn K v5_squares_of "squares_of" = true)
    (k_squares_of : PySem.W.keepIn K (.ref f_squares_of) = true)
    (a_law_dip : PySem.W.nsIn K mainGlobals "_law_dip" = some (some (.ref f_law_dip)))
    (l_law_dip : K.lookup f_law_dip = some ⟨v1_law_dip, od_law_dip, .func (PySem.W.fnOf "_law_dip" "_law_dip" (defArgs s_law_dip) (defBody s_law_dip) (defScope s_law_dip) .none v2_law_dip v3_law_dip v4_law_dip an_law_dip v5_law_dip v6_law_dip), sl_law_dip⟩)
    (cd_law_dip : PySem.W.codeIn K v5_law_dip "_law_dip" = true)
    (k_law_dip : PySem.W.keepIn K (.ref f_law_dip) = true)
    (a_law_square : PySem.W.nsIn K mainGlobals "_law_square" = some (some (.ref f_law_square)))
    (l_law_square : K.lookup f_law_square = some ⟨v1_law_square, od_law_square, .func (PySem.W.fnOf "_law_square" "_law_square" (defArgs s_law_square) (defBody s_law_square) (defScope s_law_square) .none v2_law_square v3_law_square v4_law_square an_law_square v5_law_square v6_law_square), sl_law_square⟩)
    (cd_law_square : PySem.W.codeIn K v5_law_square "_law_square" = true)
    (k_law_square : PySem.W.keepIn K (.ref f_law_square) = true)
    (a_law_ordered : PySem.W.nsIn K mainGlobals "_law_ordered" = some (some (.ref f_law_ordered)))
    (l_law_ordered : K.lookup f_law_ordered = some ⟨v1_law_ordered, od_law_ordered, .func (PySem.W.fnOf "_law_ordered" "_law_ordered" (defArgs s_law_ordered) (defBody s_law_ordered) (defScope s_law_ordered) .none v2_law_ordered v3_law_ordered v4_law_ordered an_law_ordered v5_law_ordered v6_law_ordered), sl_law_ordered⟩)
    (cd_law_ordered : PySem.W.codeIn K v5_law_ordered "_law_ordered" = true)
    (k_law_ordered : PySem.W.keepIn K (.ref f_law_ordered) = true)
    (a_law_heard : PySem.W.nsIn K mainGlobals "_law_heard" = some (some (.ref f_law_heard)))
    (l_law_heard : K.lookup f_law_heard = some ⟨v1_law_heard, od_law_heard, .func (PySem.W.fnOf "_law_heard" "_law_heard" (defArgs s_law_heard) (defBody s_law_heard) (defScope s_law_heard) .none v2_law_heard v3_law_heard v4_law_heard an_law_heard v5_law_heard v6_law_heard), sl_law_heard⟩)
    (cd_law_heard : PySem.W.codeIn K v5_law_heard "_law_heard" = true)
    (k_law_heard : PySem.W.keepIn K (.ref f_law_heard) = true)
    (a_next_to : PySem.W.nsIn K mainGlobals "next_to" = some (some (.ref f_next_to)))
    (l_next_to : K.lookup f_next_to = some ⟨v1_next_to, od_next_to, .func (PySem.W.fnOf "next_to" "next_to" (defArgs s_next_to) (defBody s_next_to) (defScope s_next_to) .none v2_next_to v3_next_to v4_next_to an_next_to v5_next_to v6_next_to), sl_next_to⟩)
    (cd_next_to : PySem.W.codeIn K v5_next_to "next_to" = true)
    (k_next_to : PySem.W.keepIn K (.ref f_next_to) = true)
    (a_need_square : PySem.W.nsIn K mainGlobals "need_square" = some (some (.ref f_need_square)))
    (l_need_square : K.lookup f_need_square = some ⟨v1_need_square, od_need_square, .func (PySem.W.fnOf "need_square" "need_square" (defArgs s_need_square) (defBody s_need_square) (defScope s_need_square) .none v2_need_square v3_need_square v4_need_square an_need_square v5_need_square v6_need_square), sl_need_square⟩)
    (cd_need_square : PySem.W.codeIn K v5_need_square "need_square" = true)
    (k_need_square : PySem.W.keepIn K (.ref f_need_square) = true)
    (a_around : PySem.W.nsIn K mainGlobals "around" = some (some (.ref f_around)))
    (l_around : K.lookup f_around = some ⟨v1_around, od_around, .func (PySem.W.fnOf "around" "around" (defArgs s_around) (defBody s_around) (defScope s_around) .none v2_around v3_around v4_around an_around v5_around v6_around), sl_around⟩)
    (cd_around : PySem.W.codeIn K v5_around "around" = true)
    (k_around : PySem.W.keepIn K (.ref f_around) = true)
    (a_law_odd : PySem.W.nsIn K mainGlobals "_law_odd" = some (some (.ref f_law_odd)))
    (l_law_odd : K.lookup f_law_odd = some ⟨v1_law_odd, od_law_odd, .func (PySem.W.fnOf "_law_odd" "_law_odd" (defArgs s_law_odd) (defBody s_law_odd) (defScope s_law_odd) .none v2_law_odd v3_law_odd v4_law_odd an_law_odd v5_law_odd v6_law_odd), sl_law_odd⟩)
    (cd_law_odd : PySem.W.codeIn K v5_law_odd "_law_odd" = true)
    (k_law_odd : PySem.W.keepIn K (.ref f_law_odd) = true)
    (a_law : PySem.W.nsIn K mainGlobals "law" = some (some (.ref f_law)))
    (l_law : K.lookup f_law = some ⟨v1_law, od_law, .func (PySem.W.fnOf "law" "law" (defArgs s_law) (defBody s_law) (defScope s_law) .none v2_law v3_law v4_law an_law (.ref c_law) v6_law), sl_law⟩)
    (cd_law : PySem.W.codeIn K (.ref c_law) "law" = true)
    (k_law : PySem.W.keepIn K (.ref f_law) = true)
    (u_law : K.lookup c_law = some ⟨w1_law, w2_law, .fields w3_law, w4_law⟩)
    (p_law : (w3_law[11]? : Option Value) = some (.ref P_law))
    (t_law : PySem.W.tabIn K "law" = some (c_law, P_law))
    (rc_law : ((recsOf Pq).find? (fun e => e.name == ("law" : Str))).isSome = true)
    (o_law : (K.lookup P_law).isNone = true)
    (npP : [P_law].Nodup)
    (z_int : PySem.W.nsIn K mainGlobals "int" = some none)
    (z_isinstance : PySem.W.nsIn K mainGlobals "isinstance" = some none)
    (z_bool : PySem.W.nsIn K mainGlobals "bool" = some none)
    (z_all : PySem.W.nsIn K mainGlobals "all" = some none)
    (z_len : PySem.W.nsIn K mainGlobals "len" = some none)
    (z_list : PySem.W.nsIn K mainGlobals "list" = some none)
    (z_tuple : PySem.W.nsIn K mainGlobals "tuple" = some none)
    (z_set : PySem.W.nsIn K mainGlobals "set" = some none)
    (z_sorted : PySem.W.nsIn K mainGlobals "sorted" = some none)
    (z_abs : PySem.W.nsIn K mainGlobals "abs" = some none)
    (z_range : PySem.W.nsIn K mainGlobals "range" = some none)
    (z_repr : PySem.W.nsIn K mainGlobals "repr" = some none)
    (z_super : PySem.W.nsIn K mainGlobals "super" = some none) :
    ∃ (fd : FuncData) (mk : List Maker), (∀ m ∈ mk, ∃ z, makerIn K Pq z m) ∧ (∀ (s : Shared) (v : Value), BindsTo s fd ⟨[v], []⟩ [("script", v)]) ∧ ∀ base : Heap, K.In base → base.Ns mainGlobals mg → (∀ m ∈ mk, LamX.TabB base mg m.c m.P) → FnG l.prog w K mg base CX0 8 fa fd ["script"] (lsp K (tabs mk) r_law) := by
  have e := hfa.symm.trans (PySem.W.mg_of X G a_law)
  cases e
  subst hPr
  let cs : Cs := { BadSquares := C_BadSquares, FlightError := C_FlightError, BadSquare := C_BadSquare }
  have m_BadSquares : mg "BadSquares" = some (.ref cs.BadSquares) := PySem.W.mg_of X G a_BadSquares
  have m_FlightError : mg "FlightError" = some (.ref cs.FlightError) := PySem.W.mg_of X G a_FlightError
  have m_BadSquare : mg "BadSquare" = some (.ref cs.BadSquare) := PySem.W.mg_of X G a_BadSquare
  have T_law_tub := fun_mk (st := s_law_tub) l_law_tub cd_law_tub k_law_tub
  have m_law_tub := PySem.W.mg_of X G a_law_tub
  have q_law_tub := T_law_tub.binds (ps := ["script"]) fun _ _ _ _ _ _ us hl => match us, hl with | [_], _ => rfl
  have T_is_integer := fun_mk (st := s_is_integer) l_is_integer cd_is_integer k_is_integer
  have m_is_integer := PySem.W.mg_of X G a_is_integer
  have q_is_integer := T_is_integer.binds (ps := ["value"]) fun _ _ _ _ _ _ us hl => match us, hl with | [_], _ => rfl
  have T_is_square := fun_mk (st := s_is_square) l_is_square cd_is_square k_is_square
  have m_is_square := PySem.W.mg_of X G a_is_square
  have q_is_square := T_is_square.binds (ps := ["value"]) fun _ _ _ _ _ _ us hl => match us, hl with | [_], _ => rfl
  have T_are_squares := fun_mk (st := s_are_squares) l_are_squares cd_are_squares k_are_squares
  have m_are_squares := PySem.W.mg_of X G a_are_squares
  have q_are_squares := T_are_squares.binds (ps := ["value"]) fun _ _ _ _ _ _ us hl => match us, hl with | [_], _ => rfl
  have T_need_squares := fun_mk (st := s_need_squares) l_need_squares cd_need_squares k_need_squares
  have m_need_squares := PySem.W.mg_of X G a_need_squares
  have q_need_squares := T_need_squares.binds (ps := ["value", "part"]) fun _ _ _ _ _ _ us hl => match us, hl with | [_, _], _ => rfl
  have T_squares_of := fun_mk (st := s_squares_of) l_squares_of cd_squares_of k_squares_of
  have m_squares_of := PySem.W.mg_of X G a_squares_of
  have q_squares_of := T_squares_of.binds (ps := ["values"]) fun _ _ _ _ _ _ us hl => match us, hl with | [_], _ => rfl
  have T_law_dip := fun_mk (st := s_law_dip) l_law_dip cd_law_dip k_law_dip
  have m_law_dip := PySem.W.mg_of X G a_law_dip
  have q_law_dip := T_law_dip.binds (ps := ["jar", "many"]) fun _ _ _ _ _ _ us hl => match us, hl with | [_, _], _ => rfl
  have T_law_square := fun_mk (st := s_law_square) l_law_square cd_law_square k_law_square
  have m_law_square := PySem.W.mg_of X G a_law_square
  have q_law_square := T_law_square.binds (ps := ["tub"]) fun _ _ _ _ _ _ us hl => match us, hl with | [_], _ => rfl
  have T_law_ordered := fun_mk (st := s_law_ordered) l_law_ordered cd_law_ordered k_law_ordered
  have m_law_ordered := PySem.W.mg_of X G a_law_ordered
  have q_law_ordered := T_law_ordered.binds (ps := ["some"]) fun _ _ _ _ _ _ us hl => match us, hl with | [_], _ => rfl
  have T_law_heard := fun_mk (st := s_law_heard) l_law_heard cd_law_heard k_law_heard
  have m_law_heard := PySem.W.mg_of X G a_law_heard
  have q_law_heard := T_law_heard.binds (ps := ["ask"]) fun _ _ _ _ _ _ us hl => match us, hl with | [_], _ => rfl
  have T_next_to := fun_mk (st := s_next_to) l_next_to cd_next_to k_next_to
  have m_next_to := PySem.W.mg_of X G a_next_to
  have q_next_to := T_next_to.binds (ps := ["square"]) fun _ _ _ _ _ _ us hl => match us, hl with | [_], _ => rfl
  have T_need_square := fun_mk (st := s_need_square) l_need_square cd_need_square k_need_square
  have m_need_square := PySem.W.mg_of X G a_need_square
  have q_need_square := T_need_square.binds (ps := ["value", "part"]) fun _ _ _ _ _ _ us hl => match us, hl with | [_, _], _ => rfl
  have T_around := fun_mk (st := s_around) l_around cd_around k_around
  have m_around := PySem.W.mg_of X G a_around
  have q_around := T_around.binds (ps := ["square"]) fun _ _ _ _ _ _ us hl => match us, hl with | [_], _ => rfl
  have T_law_odd := fun_mk (st := s_law_odd) l_law_odd cd_law_odd k_law_odd
  have m_law_odd := PySem.W.mg_of X G a_law_odd
  have q_law_odd := T_law_odd.binds (ps := ["tub"]) fun _ _ _ _ _ _ us hl => match us, hl with | [_], _ => rfl
  have T_law := fun_mk (st := s_law) l_law cd_law k_law
  have kw_squares_of_0_values : KwB K (PySem.W.fnOf "squares_of" "squares_of" (defArgs s_squares_of) (defBody s_squares_of) (defScope s_squares_of) .none v2_squares_of v3_squares_of v4_squares_of an_squares_of v5_squares_of v6_squares_of) ["values"] 0 ["values"] [0] := ⟨fun s us ws _ h1 h2 => match us, ws, h1, h2 with | [], [_], _, _ => .of_eq rfl⟩
  have kw_around_0_square : KwB K (PySem.W.fnOf "around" "around" (defArgs s_around) (defBody s_around) (defScope s_around) .none v2_around v3_around v4_around an_around v5_around v6_around) ["square"] 0 ["square"] [0] := ⟨fun s us ws _ h1 h2 => match us, ws, h1, h2 with | [], [_], _, _ => .of_eq rfl⟩
  have y_int := PySem.W.mg_none_of X G z_int
  have y_isinstance := PySem.W.mg_none_of X G z_isinstance
  have y_bool := PySem.W.mg_none_of X G z_bool
  have y_all := PySem.W.mg_none_of X G z_all
  have y_len := PySem.W.mg_none_of X G z_len
  have y_list := PySem.W.mg_none_of X G z_list
  have y_tuple := PySem.W.mg_none_of X G z_tuple
  have y_set := PySem.W.mg_none_of X G z_set
  have y_sorted := PySem.W.mg_none_of X G z_sorted
  have y_abs := PySem.W.mg_none_of X G z_abs
  have y_range := PySem.W.mg_none_of X G z_range
  have y_repr := PySem.W.mg_none_of X G z_repr
  have y_super := PySem.W.mg_none_of X G z_super
  refine ⟨PySem.W.fnOf "law" "law" (defArgs s_law) (defBody s_law) (defScope s_law) .none v2_law v3_law v4_law an_law (.ref c_law) v6_law, [⟨c_law, P_law, ((("law" : Str) ++ ".<locals>.") ++ "<lambda>")⟩], ?_, fun s v => .of_eq rfl, fun base kb gb tB => ?_⟩
  · intro m hm
    rw [List.mem_singleton.mp hm]
    exact ⟨"law", t_law, rc_law, Option.isNone_iff_eq_none.mp o_law⟩
  have E_BadSquares : ErrOk l.prog w K mg base "BadSquares" cs.BadSquares true ["part"] := err_part (st := s_BadSquares) m_BadSquares y_super i_BadSquares l_BadSquares e_BadSquares (by decide +kernel) rfl rfl (fun env => ⟨_, rfl⟩) rfl ⟨by decide, by decide⟩ (.all fun us hl => match us, hl with | [_, _], _ => rfl)
  have E_BadSquare : ErrOk l.prog w K mg base "BadSquare" cs.BadSquare true ["part"] := err_part (st := s_BadSquare) m_BadSquare y_super i_BadSquare l_BadSquare e_BadSquare (by decide +kernel) rfl rfl (fun env => ⟨_, rfl⟩) rfl ⟨by decide, by decide⟩ (.all fun us hl => match us, hl with | [_, _], _ => rfl)
  have kf : KF K cs := kf_of kfB E_BadSquares E_BadSquare
  have B_law : LamX.TabB base mg c_law P_law := tB _ (List.mem_of_getElem? (i := 0) rfl)
  have inT_law : (P_law, ((("law" : Str) ++ ".<locals>.") ++ "<lambda>")) ∈ tabs [⟨c_law, P_law, ((("law" : Str) ++ ".<locals>.") ++ "<lambda>")⟩] := List.mem_of_getElem? (i := 0) rfl
  have one_law : ∀ p ∈ tabs [⟨c_law, P_law, ((("law" : Str) ++ ".<locals>.") ++ "<lambda>")⟩], p.1 = P_law → p.2 = ((("law" : Str) ++ ".<locals>.") ++ "<lambda>") := by
    intro p hp ep
    simp only [tabs, List.map_cons, List.map_nil, List.mem_cons, List.not_mem_nil, or_false] at hp
    rw [hp]
  have O_law_tub := ok_law_tub (P := l.prog) (w := w) (mg := mg) (base := base) (T := tabs [⟨c_law, P_law, ((("law" : Str) ++ ".<locals>.") ++ "<lambda>")⟩]) T_law_tub y_int
  have O_is_integer := ok_is_integer (P := l.prog) (w := w) (mg := mg) (base := base) (T := tabs [⟨c_law, P_law, ((("law" : Str) ++ ".<locals>.") ++ "<lambda>")⟩]) T_is_integer y_isinstance y_bool y_int
  have O_is_square := ok_is_square (P := l.prog) (w := w) (mg := mg) (base := base) (T := tabs [⟨c_law, P_law, ((("law" : Str) ++ ".<locals>.") ++ "<lambda>")⟩]) T_is_square O_is_integer m_is_integer k_is_integer q_is_integer y_all y_len y_isinstance y_list y_tuple
  have O_are_squares := ok_are_squares (P := l.prog) (w := w) (mg := mg) (base := base) (T := tabs [⟨c_law, P_law, ((("law" : Str) ++ ".<locals>.") ++ "<lambda>")⟩]) T_are_squares O_is_square m_is_square k_is_square q_is_square y_all y_isinstance y_list y_tuple y_len y_set
  have O_need_squares := ok_need_squares (P := l.prog) (w := w) (mg := mg) (base := base) (T := tabs [⟨c_law, P_law, ((("law" : Str) ++ ".<locals>.") ++ "<lambda>")⟩]) T_need_squares kf E_BadSquares O_are_squares m_are_squares k_are_squares q_are_squares y_tuple y_sorted
  have O_squares_of := ok_squares_of (P := l.prog) (w := w) (mg := mg) (base := base) (T := tabs [⟨c_law, P_law, ((("law" : Str) ++ ".<locals>.") ++ "<lambda>")⟩]) T_squares_of kf O_need_squares m_need_squares k_need_squares q_need_squares
  have O_law_dip := ok_law_dip (P := l.prog) (w := w) (mg := mg) (base := base) (T := tabs [⟨c_law, P_law, ((("law" : Str) ++ ".<locals>.") ++ "<lambda>")⟩]) T_law_dip y_int y_len y_abs
  have O_law_square := ok_law_square (P := l.prog) (w := w) (mg := mg) (base := base) (T := tabs [⟨c_law, P_law, ((("law" : Str) ++ ".<locals>.") ++ "<lambda>")⟩]) T_law_square O_law_dip m_law_dip k_law_dip q_law_dip
  have O_law_ordered := ok_law_ordered (P := l.prog) (w := w) (mg := mg) (base := base) (T := tabs [⟨c_law, P_law, ((("law" : Str) ++ ".<locals>.") ++ "<lambda>")⟩]) T_law_ordered y_len
  have O_law_heard : ∀ k, HearOk l.prog w K mg base (tabs [⟨c_law, P_law, ((("law" : Str) ++ ".<locals>.") ++ "<lambda>")⟩]) k f_law_heard "_law_heard" n_law_heard s_law_heard "ask" (b_law_heard K cs) := ok_law_heard kf m_FlightError m_BadSquare m_BadSquares y_isinstance
  have O_next_to := ok_next_to (P := l.prog) (w := w) (mg := mg) (base := base) (T := tabs [⟨c_law, P_law, ((("law" : Str) ++ ".<locals>.") ++ "<lambda>")⟩]) T_next_to
  have O_need_square := ok_need_square (P := l.prog) (w := w) (mg := mg) (base := base) (T := tabs [⟨c_law, P_law, ((("law" : Str) ++ ".<locals>.") ++ "<lambda>")⟩]) T_need_square kf E_BadSquare O_is_square m_is_square k_is_square q_is_square y_tuple
  have O_around := ok_around (P := l.prog) (w := w) (mg := mg) (base := base) (T := tabs [⟨c_law, P_law, ((("law" : Str) ++ ".<locals>.") ++ "<lambda>")⟩]) T_around kf O_next_to m_next_to k_next_to q_next_to O_need_square m_need_square k_need_square q_need_square
  have O_law_odd := ok_law_odd (P := l.prog) (w := w) (mg := mg) (base := base) (T := tabs [⟨c_law, P_law, ((("law" : Str) ++ ".<locals>.") ++ "<lambda>")⟩]) T_law_odd O_law_dip m_law_dip k_law_dip q_law_dip
  have O_law := ok_law (P := l.prog) (w := w) (mg := mg) (base := base) (T := tabs [⟨c_law, P_law, ((("law" : Str) ++ ".<locals>.") ++ "<lambda>")⟩]) T_law kf O_law_tub m_law_tub k_law_tub q_law_tub O_law_dip m_law_dip k_law_dip q_law_dip O_law_square m_law_square k_law_square q_law_square O_law_ordered m_law_ordered k_law_ordered q_law_ordered O_squares_of m_squares_of k_squares_of q_squares_of O_law_odd m_law_odd k_law_odd q_law_odd O_around m_around k_around q_around T_law_heard O_law_heard m_law_heard k_law_heard q_law_heard B_law inT_law one_law rfl kw_squares_of_0_values kw_around_0_square y_range y_list y_tuple y_repr y_len
  exact O_law
end NC
open PySem PySem.W PyProof.Rows
set_option maxRecDepth 100000 in
set_option maxHeartbeats 0 in
theorem PySem.Challenge.cw_nevercaught_k03_squares_and_neighbours_holds : PySem.Challenge.rw_nevercaught_k03_squares_and_neighbours.Holds := by
  w_on; o_law; k_head; (case hw => w_witness2)
  k_fill
  refine NC.end_ofT (l := PySem.Challenge.rw_nevercaught_k03_squares_and_neighbours) (n := 63) (k := 8) (x := "script") (CX := fun _ => L2.CX0) rfl (by decide) rfl ⟨rfl, by decide, by decide⟩ (fun w h Y => PySem.W.km_in_of Y) NC.law_true (fun _ _ _ _ _ z => z) ?F
  case F =>
    intro w mg fa h KX G hmg
    refine' NC.all_mk (l := PySem.Challenge.rw_nevercaught_k03_squares_and_neighbours) rfl KX G hmg ?a_BadSquares ?a_FlightError ?a_BadSquare ?i_BadSquares ?l_BadSquares ?e_BadSquares ?i_BadSquare ?l_BadSquare ?e_BadSquare ?kfB ?a_law_tub ?l_law_tub ?cd_law_tub ?k_law_tub ?a_is_integer ?l_is_integer ?cd_is_integer ?k_is_integer ?a_is_square ?l_is_square ?cd_is_square ?k_is_square ?a_are_squares ?l_are_squares ?cd_are_squares ?k_are_squares ?a_need_squares ?l_need_squares ?cd_need_squares ?k_need_squares ?a_squares_of ?l_squares_of ?cd_squares_of ?k_squares_of ?a_law_dip ?l_law_dip ?cd_law_dip ?k_law_dip ?a_law_square ?l_law_square ?cd_law_square ?k_law_square ?a_law_ordered ?l_law_ordered ?cd_law_ordered ?k_law_ordered ?a_law_heard ?l_law_heard ?cd_law_heard ?k_law_heard ?a_next_to ?l_next_to ?cd_next_to ?k_next_to ?a_need_square ?l_need_square ?cd_need_square ?k_need_square ?a_around ?l_around ?cd_around ?k_around ?a_law_odd ?l_law_odd ?cd_law_odd ?k_law_odd ?a_law ?l_law ?cd_law ?k_law ?u_law ?p_law ?t_law ?rc_law ?o_law ?npP ?z_int ?z_isinstance ?z_bool ?z_all ?z_len ?z_list ?z_tuple ?z_set ?z_sorted ?z_abs ?z_range ?z_repr ?z_super
    (case a_BadSquares => k_is)
    (case a_FlightError => k_is)
    (case a_BadSquare => k_is)
    (case i_BadSquares => k_is)
    (case l_BadSquares => k_is)
    (case e_BadSquares => kernel_rfl)
    (case i_BadSquare => k_is)
    (case l_BadSquare => k_is)
    (case e_BadSquare => kernel_rfl)
    (case kfB => kernel_rfl)
    (case a_law_tub => k_is)
    (case l_law_tub => k_is)
    (case cd_law_tub => k_is)
    (case k_law_tub => k_is)
    (case a_is_integer => k_is)
    (case l_is_integer => k_is)
    (case cd_is_integer => k_is)
    (case k_is_integer => k_is)
    (case a_is_square => k_is)
    (case l_is_square => k_is)
    (case cd_is_square => k_is)
    (case k_is_square => k_is)
    (case a_are_squares => k_is)
    (case l_are_squares => k_is)
    (case cd_are_squares => k_is)
    (case k_are_squares => k_is)
    (case a_need_squares => k_is)
    (case l_need_squares => k_is)
    (case cd_need_squares => k_is)
    (case k_need_squares => k_is)
    (case a_squares_of => k_is)
    (case l_squares_of => k_is)
    (case cd_squares_of => k_is)
    (case k_squares_of => k_is)
    (case a_law_dip => k_is)
    (case l_law_dip => k_is)
    (case cd_law_dip => k_is)
    (case k_law_dip => k_is)
    (case a_law_square => k_is)
    (case l_law_square => k_is)
    (case cd_law_square => k_is)
    (case k_law_square => k_is)
    (case a_law_ordered => k_is)
    (case l_law_ordered => k_is)
    (case cd_law_ordered => k_is)
    (case k_law_ordered => k_is)
    (case a_law_heard => k_is)
    (case l_law_heard => k_is)
    (case cd_law_heard => k_is)
    (case k_law_heard => k_is)
    (case a_next_to => k_is)
    (case l_next_to => k_is)
    (case cd_next_to => k_is)
    (case k_next_to => k_is)
    (case a_need_square => k_is)
    (case l_need_square => k_is)
    (case cd_need_square => k_is)
    (case k_need_square => k_is)
    (case a_around => k_is)
    (case l_around => k_is)
    (case cd_around => k_is)
    (case k_around => k_is)
    (case a_law_odd => k_is)
    (case l_law_odd => k_is)
    (case cd_law_odd => k_is)
    (case k_law_odd => k_is)
    (case a_law => k_is)
    (case l_law => k_is)
    (case cd_law => k_is)
    (case k_law => k_is)
    (case u_law => k_is)
    (case p_law => rfl)
    (case t_law => kernel_rfl)
    (case rc_law => kernel_rfl)
    (case o_law => kernel_rfl)
    (case npP => decide)
    (case z_int => k_is)
    (case z_isinstance => k_is)
    (case z_bool => k_is)
    (case z_all => k_is)
    (case z_len => k_is)
    (case z_list => k_is)
    (case z_tuple => k_is)
    (case z_set => k_is)
    (case z_sorted => k_is)
    (case z_abs => k_is)
    (case z_range => k_is)
    (case z_repr => k_is)
    (case z_super => k_is)
#print axioms PySem.Challenge.cw_nevercaught_k03_squares_and_neighbours_holds

